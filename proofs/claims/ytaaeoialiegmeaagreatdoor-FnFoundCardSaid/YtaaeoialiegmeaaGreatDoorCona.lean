/- What the functions come to in the machine; no conditions. -/
import Derived.Test.YtaaeoialiegmeaaGreatDoorTab
import Derived.Test.YtaaeoialiegmeaaGreatDoorMc
set_option linter.defProp false
set_option linter.unusedSectionVars false
set_option linter.unusedVariables false
set_option linter.unusedSimpArgs false
namespace M
open Go
variable [Lb]
end M
namespace M
open Go
variable [Lb]
@[simp] def aiZ(x:Int)(lo:Int)(hi:Int):ev LI TT 84 [.int .i64 x,.int .i64 lo,.int .i64 hi]=some (.bool ((decide (lo<=x/\x<=hi))),[.dead,.dead,.dead]):=by rw[ay (b:=Gp) (rs:=[.t 6]) (n:=3) rfl rfl];simp -implicitDefEqProofs [Gp];try (by_cases h1:lo<=x<;>by_cases h2:x<=hi<;>simp[h1,h2])
@[simp] def aiU(x:Int)(lo:Int)(hi:Int):ev LI TT 91 [.int .i64 x,.int .i64 lo,.int .i64 hi]=some (.bool ((decide (lo<=x/\x<=hi))),[.dead,.dead,.dead]):=by rw[ay (b:=ER) (rs:=[.t 6]) (n:=3) rfl rfl];simp -implicitDefEqProofs [ER];try (by_cases h1:lo<=x<;>by_cases h2:x<=hi<;>simp[h1,h2])
def UC(s:ag)(hb:s.length<=9223372036854775807):aH (aj (ev LI TT) (av TT) BK) [(0,.str ⟨s.toArray⟩),(3,.int .i64 0)]=if bq sN (s)=true then some (.exit 0,[(0,.str ⟨s.toArray⟩),(3,.int .i64 (s).length),(8,.bool false)]) else some (.ret,[(2,.bool false)]):=by
 refine gy (f:=aj (ev LI TT) (av TT) BK) (s) (λi=>[(0,.str ⟨s.toArray⟩),(3,.int .i64 i)]) sN _ _ (λi b hi hl=>?_) ?_;·have hw:=bz i (by first|omega|(simp at hl;omega));obtain⟨_,rfl⟩:=aN.1 hi;unfold sN;simp -implicitDefEqProofs [BK,Ll,hl,hw];all_goals (repeat' split)<;>first|rfl|omega|(simp_all;done)|(simp_all;omega)|skip
 ·simp -implicitDefEqProofs [BK,Ll]
def Io(s:ag)(hb:s.length<=9223372036854775807):ev LI TT 167 [.str ⟨s.toArray⟩]=some (.bool ((eu s)),[.dead]):=by
 rw[ay (b:=FR) (rs:=[.t 2]) (n:=1) rfl rfl];unfold eu;have u1:=UC s hb;try simp at u1
 simp -implicitDefEqProofs [FR,u1];all_goals (repeat' split)<;>first|rfl|omega|(simp_all;done)|(simp_all;omega)|skip
def Ua(s:ag)(hb:s.length<=9223372036854775807):aH (aj (ev LI TT) (av TT) Aw) [(0,.str ⟨s.toArray⟩),(3,.int .i64 0)]=if bq sN (s)=true then some (.exit 0,[(0,.str ⟨s.toArray⟩),(3,.int .i64 (s).length),(7,.bool false)]) else some (.ret,[(2,.bool false)]):=by
 refine gy (f:=aj (ev LI TT) (av TT) Aw) (s) (λi=>[(0,.str ⟨s.toArray⟩),(3,.int .i64 i)]) sN _ _ (λi b hi hl=>?_) ?_;·have hw:=bz i (by first|omega|(simp at hl;omega));obtain⟨_,rfl⟩:=aN.1 hi;unfold sN;simp -implicitDefEqProofs [Aw,JW,hl,hw];all_goals (repeat' split)<;>first|rfl|omega|(simp_all;done)|(simp_all;omega)|skip
 ·simp -implicitDefEqProofs [Aw,JW]
def Ii(s:ag)(hb:s.length<=9223372036854775807):ev LI TT 176 [.str ⟨s.toArray⟩]=some (.bool ((eu s)),[.dead]):=by
 rw[ay (b:=EH) (rs:=[.t 2]) (n:=1) rfl rfl];unfold eu;have u1:=Ua s hb;try simp at u1
 simp -implicitDefEqProofs [EH,u1];all_goals (repeat' split)<;>first|rfl|omega|(simp_all;done)|(simp_all;omega)|skip
def Ud(s:ag)(lo:UInt8)(hb:s.length<=9223372036854775807):aH (aj (ev LI TT) (av TT) AA) [(0,.str ⟨s.toArray⟩),(1,.int .u8 (lo.toNat:Int)),(5,.int .i64 0)]=if bq (iS lo.toNat) (s)=true then some (.exit 0,[(0,.str ⟨s.toArray⟩),(1,.int .u8 (lo.toNat:Int)),(5,.int .i64 (s).length),(9,.bool false)]) else some (.ret,[(4,.bool false)]):=by
 refine gy (f:=aj (ev LI TT) (av TT) AA) (s) (λi=>[(0,.str ⟨s.toArray⟩),(1,.int .u8 (lo.toNat:Int)),(5,.int .i64 i)]) (iS lo.toNat) _ _ (λi b hi hl=>?_) ?_;·have hw:=bz i (by first|omega|(simp at hl;omega));obtain⟨_,rfl⟩:=aN.1 hi;unfold iS;simp -implicitDefEqProofs [AA,JZ,hl,hw];all_goals (repeat' split)<;>first|rfl|omega|(simp_all;done)|(simp_all;omega)|skip
 ·simp -implicitDefEqProofs [AA,JZ]
def NI(s:ag)(lo:UInt8)(hb:s.length<=9223372036854775807):ev LI TT 188 [.str ⟨s.toArray⟩,.int .u8 (lo.toNat:Int)]=some (.bool ((bq (iS lo.toNat) s)),[.dead,.dead]):=by
 rw[ay (b:=EL) (rs:=[.t 4]) (n:=2) rfl rfl];have u1:=Ud s lo hb;try simp at u1
 simp -implicitDefEqProofs [EL,u1];all_goals (repeat' split)<;>first|rfl|omega|(simp_all;done)|(simp_all;omega)|skip
end M
namespace M
open Go
variable [Lb]
def fO(b:UInt8):Bool:=decide ¬(b.toNat:Int)=32
def UD(s:ag)(hb:s.length<=9223372036854775807):aH (aj (ev LI TT) (av TT) BL) [(0,.str ⟨s.toArray⟩),(3,.int .i64 0),(4,.int .i64 s.length)]=some (.exit 0,(λ(i:Nat)=>[(0,.str ⟨s.toArray⟩),(3,.int .i64 i),(4,.int .i64 s.length),(15,.bool false)]) (eC fO (s))):=by
 refine Rb (f:=aj (ev LI TT) (av TT) BL) (s) (λi=>[(0,.str ⟨s.toArray⟩),(3,.int .i64 i),(4,.int .i64 s.length)]) fO (λ(i:Nat)=>[(0,.str ⟨s.toArray⟩),(3,.int .i64 i),(4,.int .i64 s.length),(15,.bool false)]) (λi b hi hl=>?_) ?_;·have hw:=bz i (by first|omega|(simp at hl;omega));obtain⟨_,rfl⟩:=aN.1 hi;simp -implicitDefEqProofs [BL,Lm,hl,hw,fO];all_goals (repeat' split)<;>first|rfl|omega|(simp_all;done)|(simp_all;omega)|skip
 ·simp -implicitDefEqProofs [BL,Lm]
def UE(s:ag)(k:Nat)(hk:k<=s.length)(hb:s.length<=9223372036854775807):aH (aj (ev LI TT) (av TT) BM) [(0,.str ⟨s.toArray⟩),(3,.int .i64 k),(4,.int .i64 ((s.length - 0:Nat):Int))]=some (.exit 2,(λ(i:Nat)=>[(0,.str ⟨s.toArray⟩),(3,.int .i64 k),(4,.int .i64 ((s.length - i:Nat):Int)),(27,.bool false)]) (eC fO ((s.drop k).reverse))):=by
 refine Rb (f:=aj (ev LI TT) (av TT) BM) ((s.drop k).reverse) (λi=>[(0,.str ⟨s.toArray⟩),(3,.int .i64 k),(4,.int .i64 ((s.length - i:Nat):Int))]) fO (λ(i:Nat)=>[(0,.str ⟨s.toArray⟩),(3,.int .i64 k),(4,.int .i64 ((s.length - i:Nat):Int)),(27,.bool false)]) (λi b hi hl=>?_) ?_
 ·have hw:=bz i (by first|omega|(simp at hl;omega));obtain⟨_,rfl⟩:=aN.1 hi;simp at hl;obtain⟨m,hm⟩:∃m,s.length - i=m+1:=⟨s.length - i - 1,by omega⟩;have e1:s.length - (i+1)=m:=by omega
  have e2:IntKind.i64.wrap (m:Int)=m:=cJ (by omega) (by omega);have e3:m<s.length:=by omega
  have e4:((s.drop k).reverse)[i]=s[m]:=by simp;congr 1;omega
  have e5:(k:Int)<(m:Int)+1:=by omega
  rw[e4,hm,e1];simp -implicitDefEqProofs [BM,Ln,hl,hw,fO,e2,e3,e5];try (rw[bZ e3];simp[e2])
  all_goals (repeat' split)<;>first|rfl|omega|(simp_all;done)|(simp_all;omega)|skip
 ·simp only[M7,sX,show s.length - (s.length - k)=k by omega];simp -implicitDefEqProofs [BM,Ln]
end M
namespace M
open Go
variable [Lb]
def Hp(c:bp):∃(x:Int) (c':bp),ev LI TT 186 [.ptr .own (aR c)]=some (.int .i64 x,[.ptr .own (aR c')])/\0<=x/\x<=255:=by
 obtain⟨code,i,h,hi,hl⟩:=c;by_cases hlt:i<code.length
 ·have hw:=bz i (by omega);have H:∃(x h':Int),ev LI TT 186 [.ptr .own [.row .sl 1 (code.map eU),.int .i64 i,.int .i64 h]]=some (.int .i64 x,[.ptr .own [.row .sl 1 (code.map eU),.int .i64 (i+1),.int .i64 h']])/\0<=x/\x<=255:=by rw[ay (b:=xL) (rs:=[.t 2]) (n:=1) rfl rfl];simp -implicitDefEqProofs [xL,hlt,hw,Ns];omega
  obtain⟨x,h',e,b⟩:=H;exact⟨x,⟨code,i+1,h',hlt,hl⟩,e,b⟩
 ·have H:∃(x h':Int),ev LI TT 186 [.ptr .own [.row .sl 1 (code.map eU),.int .i64 i,.int .i64 h]]=some (.int .i64 x,[.ptr .own [.row .sl 1 (code.map eU),.int .i64 i,.int .i64 h']])/\0<=x/\x<=255:=by rw[ay (b:=xL) (rs:=[.t 2]) (n:=1) rfl rfl];simp -implicitDefEqProofs [xL,hlt,Ns];omega
  obtain⟨x,h',e,b⟩:=H;exact⟨x,⟨code,i,h',hi,hl⟩,e,b⟩
noncomputable def gK(c:bp):Int:=(Hp c).choose
noncomputable def dY(c:bp):bp:=(Hp c).choose_spec.choose
def yQ(c:bp):0<=gK c/\gK c<=255:=(Hp c).choose_spec.choose_spec.2
@[simp] def aiY(c:bp):ev LI TT 186 [.ptr .own (aR c)]=some (.int .i64 (gK c),[.ptr .own (aR (dY c))]):=(Hp c).choose_spec.choose_spec.1
def S2(a n:Int)(ha:0<=a)(hn:0<n):0<=a.tmod n/\a.tmod n<n:=by rw[CO ha];exact⟨Int.emod_nonneg _ (by omega),Int.emod_lt_of_pos _ hn⟩
def Ho(c:bp)(n:Int)(hn:0<n)(hn':n<=9223372036854775807):∃(x:Int) (c':bp),ev LI TT 110 [.ptr .own (aR c),.int .i64 n]=some (.int .i64 x,[.ptr .own (aR c'),.dead])/\0<=x/\x<n:=by
 rw[ay (b:=uO) (rs:=[.t 4]) (n:=2) rfl rfl];have h0:¬n<=0:=by omega
 have h1:¬n=0:=by omega
 by_cases h:n<=256;·refine⟨(gK c).tmod n,dY c,?_,S2 _ _ (yQ c).1 hn⟩;simp -implicitDefEqProofs [uO,h,h0,h1]
 ·have b1:=yQ c;have b2:=yQ (dY c);have b3:=yQ (dY (dY c));have b4:=yQ (dY (dY (dY c)));have w1:=cJ (n:=gK c*16777216) (by omega) (by omega);have w2:=cJ (n:=gK (dY c)*65536) (by omega) (by omega);have w3:=cJ (n:=gK (dY (dY c))*256) (by omega) (by omega);have w4:=cJ (n:=gK c*16777216+gK (dY c)*65536) (by omega) (by omega);have w5:=cJ (n:=gK c*16777216+gK (dY c)*65536+gK (dY (dY c))*256) (by omega) (by omega);have w6:=cJ (n:=gK c*16777216+gK (dY c)*65536+gK (dY (dY c))*256+gK (dY (dY (dY c)))) (by omega) (by omega);refine⟨(gK c*16777216+gK (dY c)*65536+gK (dY (dY c))*256+gK (dY (dY (dY c)))).tmod n,dY (dY (dY (dY c))),?_,S2 _ _ (by omega) hn⟩;simp -implicitDefEqProofs [uO,h,h0,h1,w1,w2,w3,w4,w5,w6]
def aib(c:bp)(n:Int)(hn:n<=0):ev LI TT 110 [.ptr .own (aR c),.int .i64 n]=some (.int .i64 0,[.ptr .own (aR c),.dead]):=by rw[ay (b:=uO) (rs:=[.t 4]) (n:=2) rfl rfl];simp -implicitDefEqProofs [uO,hn]
noncomputable def ku(c:bp)(n:Int):Int:=if h:0<n/\n<=9223372036854775807 then (Ho c n h.1 h.2).choose else 0
noncomputable def iZ(c:bp)(n:Int):bp:=if h:0<n/\n<=9223372036854775807 then (Ho c n h.1 h.2).choose_spec.choose else c
def tn(c:bp)(n:Int)(h1:0<n)(h2:n<=9223372036854775807):0<=ku c n/\ku c n<n:=by unfold ku;rw[jM ⟨h1,h2⟩];exact(Ho c n h1 h2).choose_spec.choose_spec.2
def yV(c:bp)(n:Int)(h2:n<=9223372036854775807):ev LI TT 110 [.ptr .own (aR c),.int .i64 n]=some (.int .i64 (ku c n),[.ptr .own (aR (iZ c n)),.dead]):=by
 unfold ku iZ;by_cases h1:0<n;·rw[jM ⟨h1,h2⟩,jM ⟨h1,h2⟩];exact(Ho c n h1 h2).choose_spec.choose_spec.1
 ·rw[qL (λh=>h1 h.1),qL (λh=>h1 h.1)];exact aib c n (by omega)
def WD(c:bp)(n:Int)(h2:n<=9223372036854775807):ev LI TT 73 [.ptr .own (aR c),.int .i64 n]=some (.bool (decide (ku c n=0)),[.ptr .own (aR (iZ c n)),.dead]):=by rw[ay (b:=Gu) (rs:=[.t 4]) (n:=2) rfl rfl];simp -implicitDefEqProofs [Gu,yV c n h2];all_goals (repeat' split)<;>first|rfl|omega|(simp_all;done)|(simp_all;omega)|skip
def N4(c:bp)(l:List ag)(h1:0<l.length)(h2:l.length<=9223372036854775807):ev LI TT 151 [.ptr .own (aR c),.row .af 1 (l.map eS)]=some (.str ⟨(l.getD (ku c l.length).toNat []).toArray⟩,[.ptr .own (aR (iZ c l.length)),.dead]):=by
 rw[ay (b:=Gw) (rs:=[.t 4]) (n:=2) rfl rfl];have b:=tn c l.length (by omega) (by omega);have b2:(ku c l.length).toNat<l.length:=by omega
 simp -implicitDefEqProofs [Gw,yV c l.length (by omega),b,b2];all_goals (repeat' split)<;>first|rfl|omega|(simp_all;done)|(simp_all;omega)|skip
def WE(c:bp)(l:List Int)(h1:0<l.length)(h2:l.length<=9223372036854775807):ev LI TT 124 [.ptr .own (aR c),.row .af 1 (l.map eI)]=some (.int .i64 (l.getD (ku c l.length).toNat 0),[.ptr .own (aR (iZ c l.length)),.dead]):=by
 rw[ay (b:=Gv) (rs:=[.t 4]) (n:=2) rfl rfl];have b:=tn c l.length (by omega) (by omega);have b2:(ku c l.length).toNat<l.length:=by omega
 simp -implicitDefEqProofs [Gv,yV c l.length (by omega),b,b2];all_goals (repeat' split)<;>first|rfl|omega|(simp_all;done)|(simp_all;omega)|skip
def UN(code:List UInt8)(hl:code.length<=1048576)(h:Int):∃h':Int,aH (aj (ev LI TT) (av TT) xM) [(0,.row .sl 1 (code.map eU)),(3,.int .i64 h),(4,.int .i64 0),(100000,.row .sl 1 (code.map eU))]=some (.exit 0,[(0,.row .sl 1 (code.map eU)),(3,.int .i64 h'),(4,.int .i64 (min code.length 4000:Nat)),(15,.bool false),(100000,.row .sl 1 (code.map eU))]):=by
 refine Exists.elim (acp (f:=aj (ev LI TT) (av TT) xM) (min code.length 4000) (λi (h:Int)=>[(0,.row .sl 1 (code.map eU)),(3,.int .i64 h),(4,.int .i64 i),(100000,.row .sl 1 (code.map eU))]) (λ_ _=>True) (λh'=>[(0,.row .sl 1 (code.map eU)),(3,.int .i64 h'),(4,.int .i64 (min code.length 4000:Nat)),(15,.bool false),(100000,.row .sl 1 (code.map eU))]) h trivial (λi g hi _=>?_) (λg _=>?_)) λg h=>⟨g,h.2⟩
 ·have h1:i<code.length:=by omega
  have h2:(i:Int)<4000:=by omega
  have hw:=bz i (by omega);simp -implicitDefEqProofs [xM,Gs,h1,h2,hw]
 ·by_cases h1:code.length<=4000
  ·have:min code.length 4000=code.length:=by omega
   rw[this];simp -implicitDefEqProofs [xM,Gs]
  ·have:min code.length 4000=4000:=by omega
   rw[this];have h2:4000<code.length:=by omega
   have h3:(4000:Int)<code.length:=by omega
   simp -implicitDefEqProofs [xM,Gs,h2,h3]
def aid(code:List UInt8)(hl:code.length<=1048576):∃c:bp,ev LI TT 54 [.row .sl 1 (code.map eU)]=some (.ptr .own (aR c),[.dead]):=by have hw:=cJ (n:=18850+code.length) (by omega) (by omega);obtain⟨h',e⟩:=UN code hl (18850+code.length);refine⟨⟨code,0,h',oT _,by omega⟩,?_⟩;rw[ay (b:=Gt) (rs:=[.t 2]) (n:=1) rfl rfl];simp -implicitDefEqProofs [Gt,hw,e,aR,A0]
end M
namespace M
open Go
variable [Lb]
def Rw(b:UInt8):fO b=true↔b≠32:=by
 unfold fO
 have:((b.toNat:Int)=32)↔b=32:=by
  constructor;·intro h;exact sU.1 (by have e:(32:UInt8).toNat=32:=rfl;omega)
  ·rintro rfl;rfl
 simp[this]
def S4(s:ag):Lib.trimLeftB s 32=s.drop (eC fO s):=by
 refine Lib.trimLeftB_drop s 32 _ (Hf _ _) (λj b hj hb=>?_) λb hb=>(Rw b).1 (S9 _ _ _ hb);have:=Ta _ _ _ _ hj hb;by_cases h:b=32;·exact h
 ·rw[(Rw b).2 h] at this;cases this
def ahN(s:ag):Lib.trimRightB s 32=s.take (s.length - eC fO s.reverse):=by have h:=S4 s.reverse;unfold Lib.trimLeftB at h;unfold Lib.trimRightB;rw[h,List.drop_reverse,TC]
def ahO(s:ag):(s.drop (eC fO s)).take (s.length - eC fO (s.drop (eC fO s)).reverse - eC fO s)=gd s:=by rw[ahP,S4,ahN,sX];congr 1;omega
def Ip(s:ag)(hb:s.length<=9223372036854775807):ev LI TT 170 [.str ⟨s.toArray⟩]=some (.str ⟨(gd s).toArray⟩,[.dead]):=by
 rw[ay (b:=FT) (rs:=[.t 2]) (n:=1) rfl rfl];have h1:=Hf fO s;have h2:=Hf fO (s.drop (eC fO s)).reverse;simp only[M7,sX] at h2;have h3:=ahO s;have u1:=UD s hb;try simp at u1
 have u2:=UE s (eC fO s) (Hf _ _) hb;try simp at u2
 simp -implicitDefEqProofs [FT,u1,u2,(by omega:(eC fO s:Int)<=((s.length - eC fO (s.drop (eC fO s)).reverse:Nat):Int)),(by omega:((s.length - eC fO (s.drop (eC fO s)).reverse:Nat):Int)<=s.length),Lib.extract_mk,h3];all_goals (repeat' split)<;>first|rfl|omega|(simp_all;done)|(simp_all;omega)|skip
def NH(s:ag)(hb:s.length<=9223372036854775807):ev LI TT 189 [.str ⟨s.toArray⟩]=some (.str ⟨(gd s).toArray⟩,[.dead]):=by
 rw[ay (b:=EI) (rs:=[.t 2]) (n:=1) rfl rfl];have u1:=WV s hb;try simp at u1
 simp -implicitDefEqProofs [EI,u1];all_goals (repeat' split)<;>first|rfl|omega|(simp_all;done)|(simp_all;omega)|skip
def UF(s:ag)(hb:s.length<=9223372036854775807):aH (aj (ev LI TT) (av TT) BN) [(0,.str ⟨s.toArray⟩),(3,.int .i64 0)]=if bq (iS 32) (s)=true then some (.exit 0,[(0,.str ⟨s.toArray⟩),(3,.int .i64 (s).length),(7,.bool false)]) else some (.ret,[(2,.bool false)]):=by
 refine gy (f:=aj (ev LI TT) (av TT) BN) (s) (λi=>[(0,.str ⟨s.toArray⟩),(3,.int .i64 i)]) (iS 32) _ _ (λi b hi hl=>?_) ?_;·have hw:=bz i (by first|omega|(simp at hl;omega));obtain⟨_,rfl⟩:=aN.1 hi;unfold iS;simp -implicitDefEqProofs [BN,Lo,hl,hw];all_goals (repeat' split)<;>first|rfl|omega|(simp_all;done)|(simp_all;omega)|skip
 ·simp -implicitDefEqProofs [BN,Lo]
def Iq(s:ag)(hb:s.length<=9223372036854775807):ev LI TT 88 [.str ⟨s.toArray⟩]=some (.bool ((fR s)),[.dead]):=by
 rw[ay (b:=uC) (rs:=[.t 2]) (n:=1) rfl rfl];unfold fR;have u1:=UF s hb;try simp at u1
 have u2:=Ip s hb;try simp at u2
 by_cases g1:bq (iS 32) s=true;rotate_left;·simp -implicitDefEqProofs [uC,u1,u2,g1]
 by_cases g2:1<=(s.length:Int);rotate_left;·simp -implicitDefEqProofs [uC,u1,u2,g1,eq_false g2]
 by_cases g3:(s.length:Int)<=60;rotate_left;·simp -implicitDefEqProofs [uC,u1,u2,g1,eq_true g2,eq_false g3]
 simp -implicitDefEqProofs [uC,u1,u2,g1,eq_true g2,eq_true g3];all_goals (repeat' split)<;>first|rfl|omega|(simp_all;done)|(simp_all;omega)|skip
def Ij(s:ag)(hb:s.length<=9223372036854775807):ev LI TT 114 [.str ⟨s.toArray⟩]=some (.bool ((fR s)),[.dead]):=by
 rw[ay (b:=tT) (rs:=[.t 2]) (n:=1) rfl rfl];unfold fR;have e32:(32:UInt8).toNat=32:=rfl;have u1:=NI s 32 hb;try simp at u1
 have u2:=NH s hb;try simp at u2
 by_cases g1:1<=(s.length:Int);rotate_left;·simp -implicitDefEqProofs [tT,u1,u2,eq_false g1]
 by_cases g2:(s.length:Int)<=60;rotate_left;·simp -implicitDefEqProofs [tT,u1,u2,eq_true g1,eq_false g2]
 by_cases g3:bq (iS 32) s=true;rotate_left;·simp -implicitDefEqProofs [tT,u1,u2,eq_true g1,eq_true g2,g3]
 simp -implicitDefEqProofs [tT,u1,u2,eq_true g1,eq_true g2,g3];all_goals (repeat' split)<;>first|rfl|omega|(simp_all;done)|(simp_all;omega)|skip
def US(s:ag)(hb:s.length<=9223372036854775807):aH (aj (ev LI TT) (av TT) Cf) [(0,.str ⟨s.toArray⟩),(3,.int .i64 0)]=if bq (iS 33) (s)=true then some (.exit 0,[(0,.str ⟨s.toArray⟩),(3,.int .i64 (s).length),(7,.bool false)]) else some (.ret,[(2,.bool false)]):=by
 refine gy (f:=aj (ev LI TT) (av TT) Cf) (s) (λi=>[(0,.str ⟨s.toArray⟩),(3,.int .i64 i)]) (iS 33) _ _ (λi b hi hl=>?_) ?_;·have hw:=bz i (by first|omega|(simp at hl;omega));obtain⟨_,rfl⟩:=aN.1 hi;unfold iS;simp -implicitDefEqProofs [Cf,LU,hl,hw];all_goals (repeat' split)<;>first|rfl|omega|(simp_all;done)|(simp_all;omega)|skip
 ·simp -implicitDefEqProofs [Cf,LU]
def Is(s:ag)(hb:s.length<=9223372036854775807):ev LI TT 83 [.str ⟨s.toArray⟩]=some (.bool ((iu s)),[.dead]):=by
 rw[ay (b:=uR) (rs:=[.t 2]) (n:=1) rfl rfl];unfold iu;have u1:=US s hb;try simp at u1
 by_cases g1:bq (iS 33) s=true;rotate_left;·simp -implicitDefEqProofs [uR,u1,g1]
 by_cases g2:1<=(s.length:Int);rotate_left;·simp -implicitDefEqProofs [uR,u1,g1,eq_false g2]
 by_cases g3:(s.length:Int)<=60;rotate_left;·simp -implicitDefEqProofs [uR,u1,g1,eq_true g2,eq_false g3]
 obtain⟨b,hb0⟩:∃b,s[0]?=some b:=⟨s[0]'(by omega),by simp⟩;simp -implicitDefEqProofs [uR,u1,g1,eq_true g2,eq_true g3,hb0];all_goals (repeat' split)<;>first|rfl|omega|(simp_all;done)|(simp_all;omega)|skip
def NK(s:ag)(hb:s.length<=9223372036854775807):ev LI TT 115 [.str ⟨s.toArray⟩]=some (.bool ((iu s)),[.dead]):=by
 rw[ay (b:=wj) (rs:=[.t 2]) (n:=1) rfl rfl];unfold iu;have e33:(33:UInt8).toNat=33:=rfl;have u1:=NI s 33 hb;try simp at u1
 by_cases g1:1<=(s.length:Int);rotate_left;·simp -implicitDefEqProofs [wj,u1,eq_false g1]
 by_cases g2:(s.length:Int)<=60;rotate_left;·simp -implicitDefEqProofs [wj,u1,eq_true g1,eq_false g2]
 obtain⟨b,hb0⟩:∃b,s[0]?=some b:=⟨s[0]'(by omega),by simp⟩;by_cases h47:(b.toNat:Int)=47;all_goals
 simp -implicitDefEqProofs [wj,u1,eq_true g1,eq_true g2,hb0,h47];all_goals (repeat' split)<;>first|rfl|omega|(simp_all;done)|(simp_all;omega)|skip
@[simp] def aiX(t:Int):ev LI TT 116 [.int .i64 t]=some (.bool ((decide (0<=t/\t<=1000000))),[.dead]):=by rw[ay (b:=EU) (rs:=[.t 2]) (n:=1) rfl rfl];simp -implicitDefEqProofs [EU];all_goals (repeat' split)<;>first|rfl|omega|(simp_all;done)|(simp_all;omega)|skip
def V4(n:Int):ev LI TT 61 [.int .i64 n]=some (.str ⟨(eP n).toArray⟩,[.dead]):=by
 rw[ay (b:=Ao) (rs:=[.t 2]) (n:=1) rfl rfl];unfold eP;by_cases hn:0<=n/\n<=1000000;rotate_left
 ·have hf:(decide (0<=n) && decide (n<=1000000))=false:=by simp;omega
  simp -implicitDefEqProofs [Ao,hn,hf]
 obtain⟨k,rfl⟩:∃k:Nat,n=k:=⟨n.toNat,by omega⟩;have u1:=Dj k (by omega);try simp at u1
 simp -implicitDefEqProofs [Ao,u1,hn];all_goals (repeat' split)<;>first|rfl|omega|(simp_all;done)|(simp_all;omega)|skip
end M
namespace M
open Go
variable [Lb]
def Ur(s:ag)(hb:s.length<=1073741824):aH (aj (ev LI TT) (av TT) um) [(0,.str ⟨s.toArray⟩),(3,.row .own 1 (([]).map eU)),(4,.int .i64 0)]=some (.exit 0,[(0,.str ⟨s.toArray⟩),(3,.row .own 1 ((((s).flatMap (λb=>[nv b]))).map eU)),(4,.int .i64 (s).length),(10,.bool false)]):=by
 refine p9 (f:=aj (ev LI TT) (av TT) um) (s) (λb=>[nv b]) (λi out=>[(0,.str ⟨s.toArray⟩),(3,.row .own 1 ((out).map eU)),(4,.int .i64 i)]) (λout=>[(0,.str ⟨s.toArray⟩),(3,.row .own 1 ((out).map eU)),(4,.int .i64 (s).length),(10,.bool false)]) (λi b out hi hl hout=>?_) (λout hout=>?_)
 ·have hw:=bz i (by first|omega|(simp at hl;omega));obtain⟨_,rfl⟩:=aN.1 hi;have hlo:out.length=i:=by rw[hout];exact zv _ _ _ (by omega)
  have hx:=s[i].toNat_lt;unfold nv;by_cases h1:65<=(s[i]).toNat;rotate_left
  ·have h1':¬(65:Int)<=(s[i]).toNat:=by omega
   simp -implicitDefEqProofs [um,Bu,hl,hw,h1,h1',hlo,cE];omega
  by_cases h2:(s[i]).toNat<=90;rotate_left
  ·have h1':(65:Int)<=(s[i]).toNat:=by omega
   have mV:¬((s[i]).toNat:Int)<=90:=by omega
   have Ja:90<((s[i]).toNat:Int):=by omega
   simp -implicitDefEqProofs [um,Bu,hl,hw,h1,h1',h2,mV,Ja,hlo,cE];omega
  have h1':(65:Int)<=(s[i]).toNat:=by omega
  have mV:((s[i]).toNat:Int)<=90:=by omega
  have h3:=Rc s[i] ⟨h1,h2⟩;have h4:IntKind.u8.wrap ((s[i]).toNat+32)=(s[i]).toNat+32:=Tn (by omega) (by omega);simp -implicitDefEqProofs [um,Bu,hl,hw,h1,h1',h2,mV,hlo,cE,h3,h4];omega
 ·simp -implicitDefEqProofs [um,Bu]
def NR(s:ag)(hb:s.length<=1073741824):ev LI TT 169 [.str ⟨s.toArray⟩]=some (.str ⟨(cH s).toArray⟩,[.dead]):=by
 rw[ay (b:=FI) (rs:=[.t 2]) (n:=1) rfl rfl];have hl:(cH s).length=s.length:=by simp[cH]
 have e:s.flatMap (λb=>[nv b])=cH s:=zu nv s;have u1:=Ur s hb;try simp at u1
 simp -implicitDefEqProofs [FI,u1,e,hl,rowAt,(by omega:s.length<=9223372036854775807)];all_goals (repeat' split)<;>first|rfl|omega|(simp_all;done)|(simp_all;omega)|skip
def aeX(s:ag)(i:Nat)(h:i<s.length)(x:UInt8)(hx:x=nv s[i]):(cH (s.take i)++s.drop i).set i x=cH (s.take (i+1))++s.drop (i+1):=by
 subst hx;rw[Hw _ _ (by simp[cH];omega),qM h];have:i - (cH (s.take i)).length=0:=by simp[cH];omega
 rw[this,qH h];simp only[aP,cH,iA,aY,gi,nS,fD,kn]
def SC(s:ag)(i:Nat)(h:i<s.length)(hx:nv s[i]=s[i]):cH (s.take i)++s.drop i=cH (s.take (i+1))++s.drop (i+1):=by rw[qH h,qM h];simp only[cH,hx,iA,aY,gi,nS,fD,kn]
def Xt(l:ag)(i:Nat)(x:Int)(b:UInt8)(hx:x=(b.toNat:Int)):(l.map eU).modify i (λe=>e.set 0 (X.int .u8 x))=(l.set i b).map eU:=by
 subst hx;apply gX;intro j;rw[ve,cY,cY,vf];by_cases h:i=j
 ·subst h;by_cases h2:i<l.length;·simp[h2]
  ·simp[h2,kV (Nat.le_of_not_lt h2)]
 ·simp only[h,ey];cases l[j]?<;>rfl
def T5(s:ag)(hb:s.length<=1073741824):aH (aj (ev LI TT) (av TT) tR) [(3,.row .own 1 ((cH (s.take 0)++s.drop 0).map eU)),(6,.str ⟨s.toArray⟩),(8,.ref 3 []),(9,.int .i64 s.length),(10,.int .i64 0)]=some (.exit 0,[(3,.row .own 1 ((cH s).map eU)),(6,.str ⟨s.toArray⟩),(8,.ref 3 []),(9,.int .i64 s.length),(10,.int .i64 (s).length),(11,.bool false)]):=by
 refine Ra (f:=aj (ev LI TT) (av TT) tR) (s) (λi=>[(3,.row .own 1 ((cH (s.take i)++s.drop i).map eU)),(6,.str ⟨s.toArray⟩),(8,.ref 3 []),(9,.int .i64 s.length),(10,.int .i64 i)]) _ (λi b hi hl=>?_) ?_
 ·have hw:=bz i (by first|omega|(simp at hl;omega));obtain⟨_,rfl⟩:=aN.1 hi;have hk:(cH (s.take i)++s.drop i).length=s.length:=by simp[cH];omega
  have hx:=s[i].toNat_lt;have hg:(cH (s.take i)++s.drop i)[i]?=some s[i]:=by rw[iU (by simp[cH];omega)];simp[cH,nQ (Nat.le_of_lt hl)]
  have hg':∀h,(cH (s.take i)++s.drop i)[i]'h=s[i]:=λh=>by rw[bZ h] at hg;exact iz hg
  generalize hq:cH (s.take i)++s.drop i=q at hk hg hg'⊢;have rM:i<q.length:=by omega
  by_cases h1:65<=(s[i]).toNat;rotate_left
  ·have h1':¬(65:Int)<=(s[i]).toNat:=by omega
   have e:=SC s i hl (by unfold nv;rw[aC (by omega)]);rw[hq] at e;simp -implicitDefEqProofs [tR,An,hl,hw,hg,hg',rM,h1',<-e]
  by_cases h2:(s[i]).toNat<=90;rotate_left
  ·have h1':(65:Int)<=(s[i]).toNat:=by omega
   have Ja:90<((s[i]).toNat:Int):=by omega
   have mV:¬((s[i]).toNat:Int)<=90:=by omega
   have e:=SC s i hl (by unfold nv;rw[aC (by omega)]);rw[hq] at e;simp -implicitDefEqProofs [tR,An,hl,hw,hg,hg',rM,h1',mV,Ja,<-e]
  have h1':(65:Int)<=(s[i]).toNat:=by omega
  have mV:((s[i]).toNat:Int)<=90:=by omega
  have h3:=Rc s[i] ⟨h1,h2⟩;have h4:IntKind.u8.wrap ((s[i]).toNat+32)=(s[i]).toNat+32:=Tn (by omega) (by omega);have e:=aeX s i hl (s[i]+32) (by unfold nv;rw[az ⟨h1,h2⟩]);rw[hq] at e;have e2:=Xt q i _ (s[i]+32) (show ((s[i]).toNat:Int)+32=_ by rw[h3];rfl);rw[e] at e2;simp -implicitDefEqProofs [tR,An,hl,hw,hg,hg',rM,h1',mV,h4,e2];all_goals (repeat' split)<;>first|rfl|omega|(simp_all;done)|(simp_all;omega)|skip
 ·simp only[uY,List.drop_length,oW];simp -implicitDefEqProofs [tR,An]
def V3(s:ag)(hb:s.length<=1073741824):ev LI TT 191 [.str ⟨s.toArray⟩]=some (.str ⟨(cH s).toArray⟩,[.dead]):=by
 rw[ay (b:=EA) (rs:=[.t 2]) (n:=1) rfl rfl];have hl:(cH s).length=s.length:=by simp[cH]
 have e0:cH (s.take 0)++s.drop 0=s:=by simp[cH]
 have u1:=T5 s hb;try simp at u1
 simp -implicitDefEqProofs [EA,u1,hl,rowAt,(by omega:s.length<=9223372036854775807)];all_goals (repeat' split)<;>first|rfl|omega|(simp_all;done)|(simp_all;omega)|skip
@[simp] def ai1(x:Int)(y:Int):ev LI TT 227 [.int .i64 x,.int .i64 y]=some (.int .i64 ((if x<y then x else y)),[.dead,.dead]):=by rw[ay (b:=Gr) (rs:=[.t 4]) (n:=2) rfl rfl];simp -implicitDefEqProofs [Gr];all_goals (repeat' split)<;>first|rfl|omega|(simp_all;done)|(simp_all;omega)|skip
@[simp] def ai0(x:Int)(y:Int):ev LI TT 135 [.int .i64 x,.int .i64 y]=some (.int .i64 ((if y<x then x else y)),[.dead,.dead]):=by rw[ay (b:=Gq) (rs:=[.t 4]) (n:=2) rfl rfl];simp -implicitDefEqProofs [Gq];all_goals (repeat' split)<;>first|rfl|omega|(simp_all;done)|(simp_all;omega)|skip
end M
namespace M
open Go
variable [Lb]
def Uu(n:Nat)(out:ag)(hn:out.length+n<=9223372036854775807):aH (aj (ev LI TT) (av TT) Le) [(0,.int .i64 n),(3,.str ⟨out.toArray⟩)]=some (.exit 0,[(0,.int .i64 0),(3,.str ⟨(qc n out).toArray⟩),(10,.bool false)]):=by
 have hs:∀s,aj (ev LI TT) (av TT) Le s=aj (ev LI TT) (av TT) FK s:=λ_=>rfl;induction n using Nat.strongRecOn generalizing out with
 |ind n ih=>
  rw[dH,hs];unfold qc;by_cases h:n=0;·subst h;simp -implicitDefEqProofs [FK]
  ·have hp:0<n:=by omega
   have:=ih (n / 10) (by omega) (UInt8.ofNat (48+n%10)::out) (by rw[cG];omega);have e1:((n:Int)).tmod 10=((n%10:Nat):Int):=by rw[CO (by omega)];omega
   have e4:((n:Int)).tdiv 10=((n / 10:Nat):Int):=by rw[TI (by omega)];omega
   have e2:IntKind.i64.wrap (48+((n%10:Nat):Int))=((48+n%10:Nat):Int):=by rw[cJ (by omega) (by omega)];omega
   have e3:IntKind.u8.wrap ((48+n%10:Nat):Int)=((48+n%10:Nat):Int):=Mo (by omega) (by omega);have e5:=S8 (48+n%10) (by omega);have e6:IntKind.i64.wrap ((n / 10:Nat):Int)=((n / 10:Nat):Int):=cJ (by omega) (by omega);simp only[h,dite_false];rw[<-this];simp -implicitDefEqProofs [FK,hp,cV,e1,e2,e3,e4,e5,e6,-Int.natCast_emod,-Int.natCast_ediv,-Int.natCast_add,-UInt8.ofNat_add,kQ,(by omega:1+out.length<=9223372036854775807)]
def vt(n:Int):ev LI TT 66 [.int .i64 n]=some (.str ⟨(eP n).toArray⟩,[.dead]):=by
 rw[ay (b:=xd) (rs:=[.t 2]) (n:=1) rfl rfl];unfold eP;by_cases hn:0<=n/\n<=1000000;rotate_left
 ·have hf:(decide (0<=n) && decide (n<=1000000))=false:=by simp;omega
  simp -implicitDefEqProofs [xd,hn,hf]
 obtain⟨k,rfl⟩:∃k:Nat,n=k:=⟨n.toNat,by omega⟩;by_cases h:k=0;·subst h;simp -implicitDefEqProofs [xd,OI]
 have h1:=Uu k [] (by simp;omega);rw[Rh k [] h,oW] at h1;simp -implicitDefEqProofs [xd,hn,h,h1];all_goals (repeat' split)<;>first|rfl|omega|(simp_all;done)|(simp_all;omega)|skip
def A6(n:Int):(eP n).length<=7:=by
 unfold eP;split;·exact nX _ (by omega)
 ·simp
def Us(s:ag)(hb:s.length<=7)(hd:bq iC s=true)(g:Nat)(hinv:g<10^0):aH (aj (ev LI TT) (av TT) nH) [(0,.str ⟨s.toArray⟩),(4,.int .i64 (g:Nat)),(5,.int .i64 0)]=some (.exit 0,[(0,.str ⟨s.toArray⟩),(4,.int .i64 ((foldI (λ_ g b=>10*g+b.toNat - 48) 0 (s) g):Nat)),(5,.int .i64 (s).length),(16,.bool false)]):=by
 refine kK (f:=aj (ev LI TT) (av TT) nH) (s) (λi (g:Nat)=>[(0,.str ⟨s.toArray⟩),(4,.int .i64 (g:Nat)),(5,.int .i64 i)]) (λ_ g b=>10*g+b.toNat - 48) (λg=>[(0,.str ⟨s.toArray⟩),(4,.int .i64 (g:Nat)),(5,.int .i64 (s).length),(16,.bool false)]) (λi (g:Nat)=>g<10^i) g hinv (λi b g hi hl hinv=>?_) (λi b g hi hinv=>?_) (λg hinv=>?_)
 ·have hw:=bz i (by first|omega|(simp at hl;omega));obtain⟨_,rfl⟩:=aN.1 hi;have hx:=eZ.1 hd s[i] (cI hl);simp only[iC,bn] at hx;have hp:10^i<=10^6:=TH (by omega) (by omega);have h1:¬((s[i]).toNat:Int)<48:=by omega
  have h2:¬57<((s[i]).toNat:Int):=by omega
  have e1:IntKind.i64.wrap (10*(g:Int))=10*g:=cJ (by omega) (by omega);have e0:IntKind.i64.wrap ((s[i]).toNat:Int)=(s[i]).toNat:=cJ (by omega) (by omega);have e2:IntKind.i64.wrap (10*(g:Int)+(s[i]).toNat)=10*g+(s[i]).toNat:=cJ (by omega) (by omega);have e3:IntKind.i64.wrap (10*(g:Int)+(s[i]).toNat - 48)=((10*g+(s[i]).toNat - 48:Nat):Int):=by rw[cJ (by omega) (by omega)];omega
  simp -implicitDefEqProofs [nH,uz,hl,hw,h1,h2,e0,e1,e2,e3]
 ·obtain⟨hl,rfl⟩:=aN.1 hi;have hx:=eZ.1 hd s[i] (cI hl);simp only[iC,bn] at hx;rw[MF];omega
 ·simp -implicitDefEqProofs [nH,uz]
def Ut(s:ag)(hb:s.length<=7)(hd:¬bq iC s=true):aH (aj (ev LI TT) (av TT) nH) [(0,.str ⟨s.toArray⟩),(4,.int .i64 0),(5,.int .i64 0)]=some (.ret,[(2,.int .i64 0),(3,.bool false)]):=by
 have key:=Kl (xt:=0) (f:=aj (ev LI TT) (av TT) nH) s (λi (g:Nat)=>[(0,.str ⟨s.toArray⟩),(4,.int .i64 (g:Int)),(5,.int .i64 i)]) (λb g=>if iC b=true then .inl (10*g+b.toNat - 48) else .inr (.ret,[(2,.int .i64 0),(3,.bool false)])) (λg=>[(0,.str ⟨s.toArray⟩),(4,.int .i64 (g:Int)),(5,.int .i64 s.length),(16,.bool false)]) (λi g=>g<10^i) 0 (by decide) (λi b g hi hl hinv=>?_) (λi b g g' hi hinv hg=>?_) (λg hg=>?_)
 ·have hr:∀(r:ag) (g:Nat),¬bq iC r=true->oG (λ(b:UInt8) (g:Nat)=>if iC b=true then (.inl (10*g+b.toNat - 48):Nat ⊕ (Ex×ah)) else .inr (.ret,[(2,.int .i64 0),(3,.bool false)])) r g=.inr (.ret,[(2,.int .i64 0),(3,.bool false)]):=by
   intro r;induction r with
   |nil=>intro g h;exact absurd rfl h
   |cons b r ih=>
    intro g h;simp only[oG];by_cases hb:iC b=true;·simp only[hb,dr];exact ih _ λh'=>h (by rw[eZ] at h'⊢;intro x hx;rcases cu.1 hx with rfl|hx;exact hb;exact h' x hx)
    ·simp[hb]
  rw[hr s 0 hd] at key;simpa [lv] using key
 ·have hw:=bz i (by omega);obtain⟨_,rfl⟩:=aN.1 hi;by_cases h:iC s[i]=true
  ·have hx:=h;simp only[iC,bn] at hx;have hp:10^i<=10^6:=TH (by omega) (by omega);have h1:¬((s[i]).toNat:Int)<48:=by omega
   have h2:¬57<((s[i]).toNat:Int):=by omega
   have e1:IntKind.i64.wrap (10*(g:Int))=10*g:=cJ (by omega) (by omega);have e0:IntKind.i64.wrap ((s[i]).toNat:Int)=(s[i]).toNat:=cJ (by omega) (by omega);have e2:IntKind.i64.wrap (10*(g:Int)+(s[i]).toNat)=10*g+(s[i]).toNat:=cJ (by omega) (by omega);have e3:IntKind.i64.wrap (10*(g:Int)+(s[i]).toNat - 48)=((10*g+(s[i]).toNat - 48:Nat):Int):=by rw[cJ (by omega) (by omega)];omega
   simp -implicitDefEqProofs [nH,uz,hl,hw,h,h1,h2,e0,e1,e2,e3]
  ·have hx:=h;simp only[iC,bn] at hx;by_cases h1:((s[i]).toNat:Int)<48;·simp -implicitDefEqProofs [nH,uz,hl,hw,h,h1,lv]
   ·have h2:57<((s[i]).toNat:Int):=by omega
    simp -implicitDefEqProofs [nH,uz,hl,hw,h,h1,h2,lv]
 ·obtain⟨hl,rfl⟩:=aN.1 hi;split at hg
  ·rename_i hx;simp only[iC,bn] at hx;injection hg with hg
   rw[MF];omega
  ·cases hg
 ·simp -implicitDefEqProofs [nH,uz]
def I1{β γ:Type}(go:γ->β->γ):∀(l:List β) (i:Nat) (g:γ),foldI (λ_ g b=>go g b) i l g=l.foldl go g
 |[],_,_=>rfl
 |b::l,i,g=>by rw[foldI,I1 go l,oX]
def vr(s:ag)(hb:s.length<=9223372036854775807):ev LI TT 162 [.str ⟨s.toArray⟩]=some (.ak [.int .i64 ((((dx s).getD 0:Nat):Int)),.bool ((dx s).isSome)],[.dead]):=by
 rw[ay (b:=sy) (rs:=[.t 2,.t 3]) (n:=1) rfl rfl];by_cases h7:7<s.length
 ·have zE:7<(s.length:Int):=by omega
  have hn:¬s=[]:=by rintro rfl;simp at h7
  simp -implicitDefEqProofs [sy,acZ s h7,zE,hn]
 have zE:¬7<(s.length:Int):=by omega
 rw[acY s (by omega)];by_cases h0:s=[];·subst h0;simp -implicitDefEqProofs [sy]
 by_cases hd:bq iC s=true;rotate_left;·have u1:=Ut s (by omega) hd;simp -implicitDefEqProofs [sy,zE,h0,hd,u1]
 have u1:=Us s (by omega) hd 0 (by decide);rw[show foldI (λ_ (g:Nat) (b:UInt8)=>10*g+b.toNat - 48) 0 s 0=mF s from I1 _ s 0 0] at u1;simp only[Int.ofNat_zero] at u1;have u2:=vt (mF s);by_cases ht:eP (mF s)=s;rotate_left;·simp -implicitDefEqProofs [sy,zE,h0,hd,u1,u2,eq_false ht]
 simp -implicitDefEqProofs [sy,zE,h0,hd,u1,u2,eq_true ht];all_goals (repeat' split)<;>first|rfl|omega|(simp_all;done)|(simp_all;omega)|skip
end M
namespace M
open Go
variable [Lb]
def jH(w:ag):List ag:=if gd w≠[] then [gd w] else []
def RH(s:ag)(i:Nat)(h:i<(s.map some++[none]).length):(∃hi:i<s.length,(s.map some++[none])[i]=some s[i])\/(i=s.length/\(s.map some++[none])[i]=none):=by
 by_cases hi:i<s.length;·refine .inl ⟨hi,?_⟩;rw[List.getElem_append_left (by simpa using hi)];simp
 ·simp at h;obtain rfl:i=s.length:=by omega
  refine .inr ⟨rfl,?_⟩;rw[List.getElem_append_right (by simp)];simp
def SJ(w:ag):(jH w).length<=1:=by unfold jH;split<;>simp
def PR(c:UInt8)(f:ag->List ag)(hf:∀w,(f w).length<=1)(s:ag)(i:Nat)(g:List ag×Nat)(b:Option UInt8)(h:g.2<=i/\g.1.length<=i):(fV c f s i g b).2<=i+1/\(fV c f s i g b).1.length<=i+1:=by
 unfold fV;have:=hf ((s.take i).drop g.2);split
 ·split;·simp;omega
  ·omega
 ·simp;omega
def UA(s:ag)(hb:s.length<=1073741824)(g:List ag×Nat)(hinv:g.2<=0/\g.1.length<=0):aH (aj (ev LI TT) (av TT) qv) [(0,.str ⟨s.toArray⟩),(3,.row .own 1 ((g).1.map eS)),(4,.int .i64 ((g).2:Nat)),(5,.int .i64 0)]=some (.exit 0,[(0,.str ⟨s.toArray⟩),(3,.row .own 1 (((foldI (fV 44 jH s) 0 (s.map some++[none]) g)).1.map eS)),(4,.int .i64 (((foldI (fV 44 jH s) 0 (s.map some++[none]) g)).2:Nat)),(5,.int .i64 (s.map some++[none]).length),(11,.bool false)]):=by
 refine kK (f:=aj (ev LI TT) (av TT) qv) (s.map some++[none]) (λi (g:List ag×Nat)=>[(0,.str ⟨s.toArray⟩),(3,.row .own 1 ((g).1.map eS)),(4,.int .i64 ((g).2:Nat)),(5,.int .i64 i)]) (fV 44 jH s) (λg=>[(0,.str ⟨s.toArray⟩),(3,.row .own 1 ((g).1.map eS)),(4,.int .i64 ((g).2:Nat)),(5,.int .i64 (s.map some++[none]).length),(11,.bool false)]) (λi (g:List ag×Nat)=>g.2<=i/\g.1.length<=i) g hinv (λi b g hi hl hinv=>?_) (λi b g hi hinv=>?_) (λg hinv=>?_)
 ·have hw:=bz i (by first|omega|(simp at hl;omega));obtain⟨_,rfl⟩:=aN.1 hi;have hlz:(g.1.length+1)*16<=140737488355328:=by simp at hl;omega
  have zA:∀b:UInt8,((b.toNat:Int)=44)↔b=44:=λb=>⟨λh=>sU.1 (by have e:(44:UInt8).toNat=44:=rfl;omega),λh=>by subst h;rfl⟩;rcases RH s i hl with ⟨hi',e⟩|⟨rfl,e⟩
  ·rw[e];have k1:(i:Int)<=s.length:=by omega
   have k2:i<=s.length:=by omega
   have hc:=Ip ((s.drop g.2).take (i - g.2)) (by simp;omega);by_cases hx:s[i]=44;rotate_left;·have hx':=mt (zA s[i]).1 hx;simp -implicitDefEqProofs [qv,uB,k1,k2,hi',hw,fV,hx,hx']
   have hx':=(zA s[i]).2 hx;have e3:(s.take i).drop g.2=(s.drop g.2).take (i - g.2):=yx ..;by_cases ht:gd ((s.drop g.2).take (i - g.2))=[];·simp -implicitDefEqProofs [qv,uB,k1,k2,hi',hw,fV,eq_true hx,hx',hinv,hc,Lib.extract_mk,jH,e3,eq_true ht]
   ·simp -implicitDefEqProofs [qv,uB,k1,k2,hi',hw,fV,eq_true hx,hx',hinv,hc,Lib.extract_mk,jH,e3,eq_false ht,cE,hlz]
  rw[e];have hc:=Ip ((s.drop g.2).take (s.length - g.2)) (by simp;omega);have e3:(s.take s.length).drop g.2=(s.drop g.2).take (s.length - g.2):=yx ..;by_cases ht:gd ((s.drop g.2).take (s.length - g.2))=[];·simp only[fV,e3,jH,eq_true ht];simp -implicitDefEqProofs [qv,uB,hw,hinv,hc,Lib.extract_mk,eq_true ht]
  simp only[fV,e3,jH,eq_false ht];simp -implicitDefEqProofs [qv,uB,hl,hw,hinv,hc,Lib.extract_mk,eq_false ht,cE,hlz]
 ·exact PR 44 jH SJ s i g b hinv
 ·have Jp:¬((s.length:Int)+1<=s.length):=by omega
  simp -implicitDefEqProofs [qv,uB,Jp]
def NX(s:ag)(hb:s.length<=1073741824):ev LI TT 168 [.str ⟨s.toArray⟩]=some (.row .own 1 ((js s).map eS),[.dead]):=by rw[ay (b:=FO) (rs:=[.t 2]) (n:=1) rfl rfl];have u1:=UA s hb ([],0) ⟨by omega,by simp⟩;rw[Px,show (cm 44 s).flatMap jH=js s from (Tj s).symm] at u1;simp at u1;simp -implicitDefEqProofs [FO,u1];all_goals (repeat' split)<;>first|rfl|omega|(simp_all;done)|(simp_all;omega)|skip
def T9(s:ag)(ws:List ag)(hb:∀w∈ws,w.length<=1073741824)(hl0:ws.length<=1073741825):aH (aj (ev LI TT) (av TT) wh) [(3,.row .own 1 (([]).map eS)),(8,.row .own 1 (ws.map eS)),(9,.int .i64 ws.length),(10,.int .i64 0)]=some (.exit 0,[(3,.row .own 1 ((((ws).flatMap jH)).map eS)),(8,.row .own 1 (ws.map eS)),(9,.int .i64 ws.length),(10,.int .i64 (ws).length),(11,.bool false)]):=by
 refine p9 (f:=aj (ev LI TT) (av TT) wh) (ws) jH (λi out=>[(3,.row .own 1 ((out).map eS)),(8,.row .own 1 (ws.map eS)),(9,.int .i64 ws.length),(10,.int .i64 i)]) (λout=>[(3,.row .own 1 ((out).map eS)),(8,.row .own 1 (ws.map eS)),(9,.int .i64 ws.length),(10,.int .i64 (ws).length),(11,.bool false)]) (λi b out hi hl hout=>?_) (λout hout=>?_)
 ·have hw:=bz i (by first|omega|(simp at hl;omega));obtain⟨_,rfl⟩:=aN.1 hi;have hlo:out.length<=i:=by rw[hout];exact DP jH SJ ws i
  have hlz:(out.length+1)*16<=140737488355328:=by omega
  have hc:=NH ws[i] (by have:=hb _ (cI hl);omega);unfold jH;by_cases ht:gd ws[i]=[];·simp -implicitDefEqProofs [wh,EE,hl,hw,hc,eq_true ht]
  simp -implicitDefEqProofs [wh,EE,hl,hw,hc,eq_false ht,cE,hlz]
 ·simp -implicitDefEqProofs [wh,EE]
def Wa(s:ag)(hb:s.length<=1073741824):ev LI TT 190 [.str ⟨s.toArray⟩]=some (.row .own 1 ((js s).map eS),[.dead]):=by
 rw[ay (b:=EF) (rs:=[.t 2]) (n:=1) rfl rfl];rw[Tj s,show (λw=>if gd w≠[] then [gd w] else [])=jH from rfl];have u1:=WU s 44 (by omega);try simp at u1
 have u2:=T9 s (cm 44 s) (λw hw=>by have:=xX 44 s w hw;omega) (by have:=SL 44 s;omega);try simp at u2
 simp -implicitDefEqProofs [EF,u1,u2];all_goals (repeat' split)<;>first|rfl|omega|(simp_all;done)|(simp_all;omega)|skip
def UX(l:List ag)(hl0:l.length<=1073741824)(hb:∀w∈l,w.length<=1073741824):aH (aj (ev LI TT) (av TT) Cj) [(0,.row .af 1 (l.map eS)),(3,.int .i64 0)]=if bq eu (l)=true then some (.exit 0,[(0,.row .af 1 (l.map eS)),(3,.int .i64 (l).length),(7,.bool false)]) else some (.ret,[(2,.bool false)]):=by
 refine gy (f:=aj (ev LI TT) (av TT) Cj) (l) (λi=>[(0,.row .af 1 (l.map eS)),(3,.int .i64 i)]) eu _ _ (λi b hi hl=>?_) ?_
 ·have hw:=bz i (by first|omega|(simp at hl;omega));obtain⟨_,rfl⟩:=aN.1 hi;have u1:=Io l[i] (by have:=hb _ (cI hl);omega);try simp at u1
  simp -implicitDefEqProofs [Cj,LW,hl,hw,u1];all_goals (repeat' split)<;>first|rfl|omega|(simp_all;done)|(simp_all;omega)|skip
 ·simp -implicitDefEqProofs [Cj,LW]
def N5(l:List ag)(hl0:l.length<=1073741824)(hb:∀w∈l,w.length<=1073741824):ev LI TT 85 [.row .af 1 (l.map eS)]=some (.bool ((bq eu l && decide ((l.length:Int)<=4))),[.dead]):=by
 rw[ay (b:=GF) (rs:=[.t 2]) (n:=1) rfl rfl];have u1:=UX l hl0 hb;try simp at u1
 simp -implicitDefEqProofs [GF,u1];all_goals (repeat' split)<;>first|rfl|omega|(simp_all;done)|(simp_all;omega)|skip
def Ue(l:List ag)(hl0:l.length<=1073741824)(hb:∀w∈l,w.length<=1073741824):aH (aj (ev LI TT) (av TT) AB) [(0,.row .af 1 (l.map eS)),(5,.row .af 1 (l.map eS)),(6,.int .i64 l.length),(7,.int .i64 0)]=if bq eu (l)=true then some (.exit 0,[(0,.row .af 1 (l.map eS)),(5,.row .af 1 (l.map eS)),(6,.int .i64 l.length),(7,.int .i64 (l).length),(8,.bool false)]) else some (.ret,[(2,.bool false)]):=by
 refine gy (f:=aj (ev LI TT) (av TT) AB) (l) (λi=>[(0,.row .af 1 (l.map eS)),(5,.row .af 1 (l.map eS)),(6,.int .i64 l.length),(7,.int .i64 i)]) eu _ _ (λi b hi hl=>?_) ?_
 ·have hw:=bz i (by first|omega|(simp at hl;omega));obtain⟨_,rfl⟩:=aN.1 hi;have u1:=Ii l[i] (by have:=hb _ (cI hl);omega);try simp at u1
  simp -implicitDefEqProofs [AB,J0,hl,hw,u1];all_goals (repeat' split)<;>first|rfl|omega|(simp_all;done)|(simp_all;omega)|skip
 ·simp -implicitDefEqProofs [AB,J0]
def Wh(l:List ag)(hl0:l.length<=1073741824)(hb:∀w∈l,w.length<=1073741824):ev LI TT 117 [.row .af 1 (l.map eS)]=some (.bool ((bq eu l && decide ((l.length:Int)<=4))),[.dead]):=by
 rw[ay (b:=EW) (rs:=[.t 2]) (n:=1) rfl rfl];have u1:=Ue l hl0 hb;try simp at u1
 simp -implicitDefEqProofs [EW,u1];all_goals (repeat' split)<;>first|rfl|omega|(simp_all;done)|(simp_all;omega)|skip
end M
namespace M
open Go
variable [Lb]
def kR(g:Nat×Nat)(b:UInt8):Nat×Nat:=((g.1+b.toNat)%65521,(g.2+(g.1+b.toNat)%65521)%65521)
def L2(g:Nat×Nat)(b:UInt8):(kR g b).1<65521/\(kR g b).2<65521:=⟨sR _ (by decide),sR _ (by decide)⟩
def afi(g:Nat×Nat)(b:UInt8)(h:g.1<65521/\g.2<65521):(IntKind.i64.wrap (↑g.1+IntKind.i64.wrap ↑b.toNat)).tmod 65521=↑(kR g b).1/\
  (IntKind.i64.wrap (↑g.2+(IntKind.i64.wrap (↑g.1+IntKind.i64.wrap ↑b.toNat)).tmod 65521)).tmod 65521=↑(kR g b).2:=by
 have hb:=b.toNat_lt;have e1:IntKind.i64.wrap (↑g.1+IntKind.i64.wrap ↑b.toNat)=((g.1+b.toNat:Nat):Int):=by rw[cJ (n:=(b.toNat:Int)) (by omega) (by omega),cJ (by omega) (by omega)];omega
 have e2:(((g.1+b.toNat:Nat):Int)).tmod 65521=↑(kR g b).1:=by rw[CO (by omega)];unfold kR;omega
 have h1:=(L2 g b).1;have e3:IntKind.i64.wrap (↑g.2+(↑(kR g b).1:Int))=((g.2+(kR g b).1:Nat):Int):=by rw[cJ (by omega) (by omega)];omega
 rw[e1,e2,e3];refine⟨rfl,?_⟩;rw[CO (by omega)];unfold kR;omega
def nK(s:ag):Nat×Nat:=foldI (λ_ g b=>kR g b) 0 s (1,0)
def Pu{γ β:Type}{go:Nat->γ->β->γ}{I:γ->Prop}(h:∀i g b,I g->I (go i g b)):∀(l:List β) (i:Nat) (g:γ),I g->I (foldI go i l g)
 |[],_,_,hg=>hg
 |b::l,i,g,hg=>Pu h l (i+1) _ (h i g b hg)
def SR(s:ag):(nK s).1<65521/\(nK s).2<65521:=Pu (I:=λg=>g.1<65521/\g.2<65521) (λ_ g b _=>L2 g b) s 0 _ (by simp)
def sM(s:ag):Nat:=65521*(nK s).2+(nK s).1
def L1(s:ag):sM s<10^10:=by have:=SR s;unfold sM;omega
def UB(s:ag)(hb:s.length<=9223372036854775807)(g:Nat×Nat)(hinv:g.1<65521/\g.2<65521):aH (aj (ev LI TT) (av TT) BJ) [(0,.str ⟨s.toArray⟩),(3,.int .i64 (g).1),(4,.int .i64 (g).2),(5,.int .i64 0)]=some (.exit 0,[(0,.str ⟨s.toArray⟩),(3,.int .i64 ((foldI (λ_ g b=>kR g b) 0 (s) g)).1),(4,.int .i64 ((foldI (λ_ g b=>kR g b) 0 (s) g)).2),(5,.int .i64 (s).length),(9,.bool false)]):=by
 refine kK (f:=aj (ev LI TT) (av TT) BJ) (s) (λi (g:Nat×Nat)=>[(0,.str ⟨s.toArray⟩),(3,.int .i64 (g).1),(4,.int .i64 (g).2),(5,.int .i64 i)]) (λ_ g b=>kR g b) (λg=>[(0,.str ⟨s.toArray⟩),(3,.int .i64 (g).1),(4,.int .i64 (g).2),(5,.int .i64 (s).length),(9,.bool false)]) (λi (g:Nat×Nat)=>g.1<65521/\g.2<65521) g hinv (λi b g hi hl hinv=>?_) (λi b g hi hinv=>?_) (λg hinv=>?_);·have hw:=bz i (by first|omega|(simp at hl;omega));obtain⟨_,rfl⟩:=aN.1 hi;skip;simp -implicitDefEqProofs [BJ,Lj,hl,hw];exact afi g s[i] hinv
 ·exact L2 _ _
 ·simp -implicitDefEqProofs [BJ,Lj]
def WA(s:ag)(hb:s.length<=9223372036854775807):ev LI TT 197 [.str ⟨s.toArray⟩]=some (.int .i64 (sM s),[.dead]):=by rw[ay (b:=FQ) (rs:=[.t 2]) (n:=1) rfl rfl];have h:=UB s hb (1,0) (by simp);have h2:=SR s;have e1:IntKind.i64.wrap (65521*((nK s).2:Int))=65521*(nK s).2:=cJ (by omega) (by omega);have e2:IntKind.i64.wrap (65521*((nK s).2:Int)+(nK s).1)=65521*(nK s).2+(nK s).1:=cJ (by omega) (by omega);rw[show foldI (λ_ g b=>kR g b) 0 s (1,0)=nK s from rfl] at h;simp at h;simp -implicitDefEqProofs [FQ,h,e1,e2,sM];all_goals (repeat' split)<;>first|rfl|omega|(simp_all;done)|(simp_all;omega)|skip
def TY(n:Nat)(out:ag)(hn:out.length+n<=9223372036854775807):aH (aj (ev LI TT) (av TT) Lx) [(0,.int .i64 n),(3,.str ⟨out.toArray⟩)]=some (.exit 0,[(0,.int .i64 0),(3,.str ⟨(qc n out).toArray⟩),(7,.bool false)]):=by
 have hs:∀s,aj (ev LI TT) (av TT) Lx s=aj (ev LI TT) (av TT) F6 s:=λ_=>rfl;induction n using Nat.strongRecOn generalizing out with
 |ind n ih=>
  rw[dH,hs];unfold qc;by_cases h:n=0;·subst h;simp -implicitDefEqProofs [F6]
  ·have hp:0<n:=by omega
   have:=ih (n / 10) (by omega) (UInt8.ofNat (48+n%10)::out) (by rw[cG];omega);have e1:((n:Int)).tmod 10=((n%10:Nat):Int):=by rw[CO (by omega)];omega
   have e4:((n:Int)).tdiv 10=((n / 10:Nat):Int):=by rw[TI (by omega)];omega
   have e2:IntKind.i64.wrap (48+((n%10:Nat):Int))=((48+n%10:Nat):Int):=by rw[cJ (by omega) (by omega)];omega
   have e3:IntKind.u8.wrap ((48+n%10:Nat):Int)=((48+n%10:Nat):Int):=Mo (by omega) (by omega);have e5:=S8 (48+n%10) (by omega);have e6:IntKind.i64.wrap ((n / 10:Nat):Int)=((n / 10:Nat):Int):=cJ (by omega) (by omega);simp only[h,dite_false];rw[<-this];simp -implicitDefEqProofs [F6,hp,cV,e1,e2,e3,e4,e5,e6,-Int.natCast_emod,-Int.natCast_ediv,-Int.natCast_add,-UInt8.ofNat_add,kQ,(by omega:1+out.length<=9223372036854775807)]
def Ir(n:Nat)(hk:n<=9223372036854775800):ev LI TT 196 [.int .i64 (n:Int)]=some (.str ⟨(bu n).toArray⟩,[.dead]):=by
 rw[ay (b:=BU) (rs:=[.t 2]) (n:=1) rfl rfl];by_cases h:n=0;·subst h;simp -implicitDefEqProofs [BU,OI]
 have h1:=TY n [] (by simp;omega);rw[Rh n [] h,oW] at h1;simp -implicitDefEqProofs [BU,h,h1];all_goals (repeat' split)<;>first|rfl|omega|(simp_all;done)|(simp_all;omega)|skip
def KO(n:Nat)(b:ag):ag:=bu (sM (bu n++32::(bu b.length++10::b)))++32::(bu n++32::(bu b.length++10::b))
def fJ(n:Int)(b:ag):ag:=if 1<=n/\n<=100000/\b.length<=2000 then KO n.toNat b else []
def Il(n:Int)(b:ag)(hb:b.length<=9223372036854775807):ev LI TT 123 [.int .i64 n,.str ⟨b.toArray⟩]=some (.str ⟨(fJ n b).toArray⟩,[.dead,.dead]):=by
 rw[ay (b:=xg) (rs:=[.t 4]) (n:=2) rfl rfl];by_cases h1:¬(1<=n/\n<=100000)
 ·have h1':¬(1<=n/\n<=100000/\b.length<=2000):=by omega
  simp -implicitDefEqProofs [xg,h1,fJ,h1']
 by_cases h2:2000<b.length
 ·have h1':¬(1<=n/\n<=100000/\b.length<=2000):=by omega
  have mV:(2000:Int)<b.length:=by omega
  simp -implicitDefEqProofs [xg,h1,fJ,h1',h2,mV]
 obtain⟨m,rfl⟩:∃m:Nat,n=m:=⟨n.toNat,by omega⟩;have l1:=vD 5 m (by omega);have l2:=vD 5 b.length (by omega);have l3:=vD 17 (sM (bu m++32::(bu b.length++10::b))) (Nat.lt_trans (L1 _) (by decide));have k1:=Ir m (by omega);have k2:=Ir b.length (by omega);have k4:=Ir (sM (bu m++32::(bu b.length++10::b))) (by have:=L1 (bu m++32::(bu b.length++10::b));omega);have k3:=WA (bu m++32::(bu b.length++10::b)) (by simp;omega);have mV:¬(2000<(b.length:Int)):=by omega
 have h3:1<=m/\m<=100000:=by omega
 have h4:b.length<=2000:=by omega
 simp -implicitDefEqProofs [xg,mV,h3,h4,k1,k2,k3,k4,kQ,fJ,KO];repeat rw[az (by omega)]
end M
namespace M
open Go
variable [Lb]
def UO(fs:List aE)(n:ag)(hb:fs.length<=9223372036854775807):aH (aj (ev LI TT) (av TT) B8) [(0,.row .af 2 (fs.map aK)),(1,.str ⟨n.toArray⟩),(5,.int .i64 0)]=(cU (λf=>decide (f.name=n)) 0 (fs)).elim (some (.exit 0,[(0,.row .af 2 (fs.map aK)),(1,.str ⟨n.toArray⟩),(5,.int .i64 (fs).length),(9,.bool false)])) λx=>some (.ret,(λ(i:Nat) b=>[(4,.int .i64 i)]) x.1 x.2):=by
 refine tY (f:=aj (ev LI TT) (av TT) B8) (fs) (λi=>[(0,.row .af 2 (fs.map aK)),(1,.str ⟨n.toArray⟩),(5,.int .i64 i)]) (λf=>decide (f.name=n)) (λ(i:Nat) b=>[(4,.int .i64 i)]) _ (λi b hi hl=>?_) ?_;·have hw:=bz i (by first|omega|(simp at hl;omega));obtain⟨_,rfl⟩:=aN.1 hi;simp -implicitDefEqProofs [B8,LQ,hl,hw]
 ·simp -implicitDefEqProofs [B8,LQ]
def vu(fs:List aE)(n:ag)(hb:fs.length<=9223372036854775807):ev LI TT 161 [.row .af 2 (fs.map aK),.str ⟨n.toArray⟩]=some (.int .i64 (fU (e9 fs n)),[.dead,.dead]):=by
 rw[ay (b:=B9) (rs:=[.t 4]) (n:=2) rfl rfl];have h:=UO fs n hb;rw[show cU (λf=>decide (f.name=n)) 0 fs=e9 fs n from rfl] at h;simp at h;cases g:e9 fs n with
 |none=>rw[g] at h;simp at h;simp -implicitDefEqProofs [B9,h,fU]
 |some x=>
 rw[g] at h;simp at h;simp -implicitDefEqProofs [B9,h,fU];all_goals (repeat' split)<;>first|rfl|omega|(simp_all;done)|(simp_all;omega)|skip
def Dc(fs:List aE)(n:ag)(hb:fs.length<=9223372036854775807):ev LI TT 160 [.row .af 2 (fs.map aK),.str ⟨n.toArray⟩]=some (.ak [.str ⟨((dR fs n).getD []).toArray⟩,.bool (dR fs n).isSome],[.dead,.dead]):=by
 rw[ay (b:=Br) (rs:=[.t 4,.t 5]) (n:=2) rfl rfl];have h:=vu fs n hb;unfold dR;cases g:e9 fs n with
 |none=>rw[g] at h;simp[fU] at h;simp -implicitDefEqProofs [Br,h]
 |some x=>
 obtain⟨i,b⟩:=x;rw[g] at h;obtain⟨h1,h2,h3⟩:=vO g;simp at h2;simp[fU] at h;have hi:i<fs.length:=(aN.1 h2).1;obtain⟨_,rfl⟩:=aN.1 h2;simp -implicitDefEqProofs [Br,h,hi];all_goals (repeat' split)<;>first|rfl|omega|(simp_all;done)|(simp_all;omega)|skip
def Wf(f:aE)(n:ag):ev LI TT 172 [.agg (aK f),.ptr .af [.str ⟨n.toArray⟩]]=some (.bool (decide (f.name=n)),[.dead,.dead]):=by rw[ay (b:=EO) (rs:=[.t 3]) (n:=2) rfl rfl];simp -implicitDefEqProofs [EO];all_goals (repeat' split)<;>first|rfl|omega|(simp_all;done)|(simp_all;omega)|skip
def UZ(fs:List aE)(n:ag)(hb:fs.length<=9223372036854775807):aH (aj (ev LI TT) (av TT) CA) [(0,.row .af 2 (fs.map aK)),(1,.fn 172 [.ptr .af [.str ⟨n.toArray⟩]]),(7,.int .i64 fs.length),(8,.int .i64 0)]=(cU (λf=>decide (f.name=n)) 0 (fs)).elim (some (.exit 0,[(0,.row .af 2 (fs.map aK)),(1,.fn 172 [.ptr .af [.str ⟨n.toArray⟩]]),(7,.int .i64 fs.length),(8,.int .i64 (fs).length),(9,.bool false)])) λx=>some (.ret,(λ(i:Nat) b=>[(4,.int .i64 i)]) x.1 x.2):=by
 refine tY (f:=aj (ev LI TT) (av TT) CA) (fs) (λi=>[(0,.row .af 2 (fs.map aK)),(1,.fn 172 [.ptr .af [.str ⟨n.toArray⟩]]),(7,.int .i64 fs.length),(8,.int .i64 i)]) (λf=>decide (f.name=n)) (λ(i:Nat) b=>[(4,.int .i64 i)]) _ (λi b hi hl=>?_) ?_;·have hw:=bz i (by first|omega|(simp at hl;omega));obtain⟨_,rfl⟩:=aN.1 hi;have ho:av TT 172=true:=rfl;have hf:=Wf fs[i] n;simp at hf;simp -implicitDefEqProofs [CA,Mq,hl,hw,ho,E0,hf]
 ·simp -implicitDefEqProofs [CA,Mq]
def WQ(fs:List aE)(n:ag)(hb:fs.length<=9223372036854775807):ev LI TT 171 [.row .af 2 (fs.map aK),.fn 172 [.ptr .af [.str ⟨n.toArray⟩]]]=some (.int .i64 (fU (e9 fs n)),[.dead,.dead]):=by
 rw[ay (b:=CB) (rs:=[.t 4]) (n:=2) rfl rfl];have h:=UZ fs n hb;rw[show cU (λf=>decide (f.name=n)) 0 fs=e9 fs n from rfl] at h;simp at h;cases g:e9 fs n with
 |none=>rw[g] at h;simp at h;simp -implicitDefEqProofs [CB,h,fU]
 |some x=>
 rw[g] at h;simp at h;simp -implicitDefEqProofs [CB,h,fU];all_goals (repeat' split)<;>first|rfl|omega|(simp_all;done)|(simp_all;omega)|skip
def NJ(fs:List aE)(n:ag)(hb:fs.length<=9223372036854775807):ev LI TT 89 [.row .af 2 (fs.map aK),.str ⟨n.toArray⟩]=some (.int .i64 (fU (e9 fs n)),[.dead,.dead]):=by rw[ay (b:=EP) (rs:=[.t 4]) (n:=2) rfl rfl];have h:=WQ fs n hb;simp -implicitDefEqProofs [EP,h,lI,iN];all_goals (repeat' split)<;>first|rfl|omega|(simp_all;done)|(simp_all;omega)|skip
def Ic(fs:List aE)(n:ag)(hb:fs.length<=9223372036854775807):ev LI TT 19 [.row .af 2 (fs.map aK),.str ⟨n.toArray⟩]=some (.ak [.str ⟨((dR fs n).getD []).toArray⟩,.bool (dR fs n).isSome],[.dead,.dead]):=by
 rw[ay (b:=Al) (rs:=[.t 4,.t 5]) (n:=2) rfl rfl];have h:=NJ fs n hb;unfold dR;cases g:e9 fs n with
 |none=>rw[g] at h;simp[fU] at h;simp -implicitDefEqProofs [Al,h]
 |some x=>
 obtain⟨i,b⟩:=x;rw[g] at h;obtain⟨h1,h2,h3⟩:=vO g;simp at h2;simp[fU] at h;have hi:i<fs.length:=(aN.1 h2).1;obtain⟨_,rfl⟩:=aN.1 h2;simp -implicitDefEqProofs [Al,h,hi];all_goals (repeat' split)<;>first|rfl|omega|(simp_all;done)|(simp_all;omega)|skip
end M
namespace M
open Go
variable [Lb]
def A5:(⟨#[99,111,110,116,101,110,116,45,108,101,110,103,116,104]⟩:ByteArray)=⟨ff.toArray⟩:=rfl
def Um(fs:List aE)(hb:wL aJ fs<=1073741824):aH (aj (ev LI TT) (av TT) qp) [(0,.row .af 2 (fs.map aK)),(3,.int .i64 0)]=if bq (jy fs) (fs.zipIdx)=true then some (.exit 0,[(0,.row .af 2 (fs.map aK)),(3,.int .i64 (fs.zipIdx).length),(7,.bool false)]) else some (.ret,[(2,.bool false)]):=by
 refine gy (f:=aj (ev LI TT) (av TT) qp) (fs.zipIdx) (λi=>[(0,.row .af 2 (fs.map aK)),(3,.int .i64 i)]) (jy fs) _ _ (λi b hi hl=>?_) ?_
 ·have hw:=bz i (by have:=bx (w:=aJ) fs;simp at hl;omega);obtain⟨_,rfl⟩:=aN.1 hi;simp only[HJ] at hl;have hz:fs.zipIdx[i]'(by simpa using hl)=(fs[i],i):=by simp
  have hm:=Hi (cI hl);have hfl:=bx (w:=aJ) fs;rw[hz];have u1:=Io fs[i].name (by omega);try simp at u1
  have u2:=Iq fs[i].value (by omega);try simp at u2
  have u3:=vu fs fs[i].name (by omega);try simp at u3
  by_cases g1:eu fs[i].name=true;rotate_left;·simp -implicitDefEqProofs [qp,uj,hl,hw,u1,u2,u3,jy,g1]
  by_cases g2:fR fs[i].value=true;rotate_left;·simp -implicitDefEqProofs [qp,uj,hl,hw,u1,u2,u3,jy,g1,g2]
  by_cases g3:fU (e9 fs fs[i].name)=i;rotate_left;·simp -implicitDefEqProofs [qp,uj,hl,hw,u1,u2,u3,jy,g1,g2,eq_false g3]
  by_cases hcl:fs[i].name=ff;·simp -implicitDefEqProofs [qp,uj,hl,hw,u1,u2,u3,g1,g2,eq_true g3,jy,A5,eq_true hcl]
  simp -implicitDefEqProofs [qp,uj,hl,hw,u1,u2,u3,jy,g1,g2,eq_true g3,A5,eq_false hcl];all_goals (repeat' split)<;>first|rfl|omega|(simp_all;done)|(simp_all;omega)|skip
 ·simp -implicitDefEqProofs [qp,uj]
def NQ(fs:List aE)(hb:wL aJ fs<=1073741824):ev LI TT 158 [.row .af 2 (fs.map aK)]=some (.bool ((jX fs)),[.dead]):=by
 rw[ay (b:=FD) (rs:=[.t 2]) (n:=1) rfl rfl];unfold jX;have hfl:=bx (w:=aJ) fs;have u1:=Um fs hb;try simp at u1
 simp -implicitDefEqProofs [FD,u1];all_goals (repeat' split)<;>first|rfl|omega|(simp_all;done)|(simp_all;omega)|skip
def T3(fs:List aE)(hb:wL aJ fs<=1073741824):aH (aj (ev LI TT) (av TT) pV) [(0,.row .af 2 (fs.map aK)),(5,.row .af 2 (fs.map aK)),(6,.int .i64 fs.length),(7,.int .i64 0)]=if bq (jy fs) (fs.zipIdx)=true then some (.exit 0,[(0,.row .af 2 (fs.map aK)),(5,.row .af 2 (fs.map aK)),(6,.int .i64 fs.length),(7,.int .i64 (fs.zipIdx).length),(8,.bool false)]) else some (.ret,[(2,.bool false)]):=by
 refine gy (f:=aj (ev LI TT) (av TT) pV) (fs.zipIdx) (λi=>[(0,.row .af 2 (fs.map aK)),(5,.row .af 2 (fs.map aK)),(6,.int .i64 fs.length),(7,.int .i64 i)]) (jy fs) _ _ (λi b hi hl=>?_) ?_
 ·have hw:=bz i (by have:=bx (w:=aJ) fs;simp at hl;omega);obtain⟨_,rfl⟩:=aN.1 hi;simp only[HJ] at hl;have hz:fs.zipIdx[i]'(by simpa using hl)=(fs[i],i):=by simp
  have hm:=Hi (cI hl);have hfl:=bx (w:=aJ) fs;rw[hz];have u1:=Ii fs[i].name (by omega);try simp at u1
  have u2:=Ij fs[i].value (by omega);try simp at u2
  have u3:=NJ fs fs[i].name (by omega);try simp at u3
  by_cases g1:eu fs[i].name=true;rotate_left;·simp -implicitDefEqProofs [pV,tQ,hl,hw,u1,u2,u3,jy,g1]
  by_cases g2:fR fs[i].value=true;rotate_left;·simp -implicitDefEqProofs [pV,tQ,hl,hw,u1,u2,u3,jy,g1,g2]
  by_cases hcl:fs[i].name=ff;·simp -implicitDefEqProofs [pV,tQ,hl,hw,u1,u2,u3,g1,g2,jy,A5,eq_true hcl]
  by_cases g3:fU (e9 fs fs[i].name)=i;rotate_left;·simp -implicitDefEqProofs [pV,tQ,hl,hw,u1,u2,u3,g1,g2,jy,A5,eq_false hcl,eq_false g3]
  simp -implicitDefEqProofs [pV,tQ,hl,hw,u1,u2,u3,jy,g1,g2,A5,eq_false hcl,eq_true g3];all_goals (repeat' split)<;>first|rfl|omega|(simp_all;done)|(simp_all;omega)|skip
 ·simp -implicitDefEqProofs [pV,tQ]
def VZ(fs:List aE)(hb:wL aJ fs<=1073741824):ev LI TT 94 [.row .af 2 (fs.map aK)]=some (.bool ((jX fs)),[.dead]):=by
 rw[ay (b:=Ey) (rs:=[.t 2]) (n:=1) rfl rfl];unfold jX;have hfl:=bx (w:=aJ) fs;have u1:=T3 fs hb;try simp at u1
 simp -implicitDefEqProofs [Ey,u1];all_goals (repeat' split)<;>first|rfl|omega|(simp_all;done)|(simp_all;omega)|skip
def XU(fs:List aE)(i:Nat)(h:i<fs.length)(v:ag):(fs.map aK).modify i (λe=>e.set 1 (X.str ⟨v.toArray⟩))=(fs.set i ⟨fs[i].name,v⟩).map aK:=by
 apply gX;intro j;rw[ve,cY,cY,vf];by_cases hij:i=j;·subst hij;simp[h]
 ·simp only[hij,ey];cases fs[j]?<;>rfl
def Pq(fs:List aE):fQ (fs.map aK)=true:=by induction fs<;>simp_all[fQ,scalar]
def NT(fs:List aE)(n:ag)(v:ag)(hb:fs.length<=1073741824):ev LI TT 71 [.row .af 2 (fs.map aK),.str ⟨n.toArray⟩,.str ⟨v.toArray⟩]=some (.row .own 2 ((sg fs n v).map aK),[.dead,.dead,.dead]):=by
 rw[ay (b:=BF) (rs:=[.t 6]) (n:=3) rfl rfl];unfold sg;have hk:fs.length*32<=140737488355328:=by omega
 have hk2:(fs.length+1)*32<=140737488355328:=by omega
 have hsc:=Pq fs;have u1:=vu fs n (by omega);try simp at u1
 cases g:e9 fs n with
 |none=>rw[g] at u1;simp[fU] at u1;simp -implicitDefEqProofs [BF,u1,rowAt,hk,hk2,hsc,cE]
 |some x=>
 obtain⟨i,f⟩:=x;obtain⟨hi,rfl,_⟩:=HV g;rw[g] at u1;simp[fU] at u1;simp -implicitDefEqProofs [BF,u1,hk,hk2,hsc,hi,rowAt,XU fs i hi v,-List.map_set];all_goals (repeat' split)<;>first|rfl|omega|(simp_all;done)|(simp_all;omega)|skip
def Im(r:cg)(hb:ct r<=1073741824):ev LI TT 65 [.agg (jv .af r)]=some (.bool ((fm r)),[.dead]):=by
 rw[ay (b:=uA) (rs:=[.t 2]) (n:=1) rfl rfl];have hw:ct r=wL aJ r.fields+r.body.length:=rfl;unfold fm;have u1:=NQ r.fields (by omega);try simp at u1
 by_cases g1:100<=r.status;rotate_left;·simp -implicitDefEqProofs [uA,u1,eq_false g1]
 by_cases g2:r.status<=599;rotate_left;·simp -implicitDefEqProofs [uA,u1,eq_true g1,eq_false g2]
 by_cases g3:jX r.fields=true;rotate_left;·simp -implicitDefEqProofs [uA,u1,eq_true g1,eq_true g2,g3]
 simp -implicitDefEqProofs [uA,u1,eq_true g1,eq_true g2,g3];all_goals (repeat' split)<;>first|rfl|omega|(simp_all;done)|(simp_all;omega)|skip
def ND(r:cg)(hb:ct r<=1073741824):ev LI TT 22 [.agg (jv .af r)]=some (.bool ((fm r)),[.dead]):=by
 rw[ay (b:=tS) (rs:=[.t 2]) (n:=1) rfl rfl];have hw:ct r=wL aJ r.fields+r.body.length:=rfl;unfold fm;have u1:=VZ r.fields (by omega);try simp at u1
 by_cases g1:100<=r.status;rotate_left;·simp -implicitDefEqProofs [tS,u1,eq_false g1]
 by_cases g2:r.status<=599;rotate_left;·simp -implicitDefEqProofs [tS,u1,eq_true g1,eq_false g2]
 by_cases g3:(r.body.length:Int)<=120;rotate_left;·simp -implicitDefEqProofs [tS,u1,eq_true g1,eq_true g2,eq_false g3]
 simp -implicitDefEqProofs [tS,u1,eq_true g1,eq_true g2,eq_true g3];all_goals (repeat' split)<;>first|rfl|omega|(simp_all;done)|(simp_all;omega)|skip
def WK(fs:List aE)(hb:fs.length<=1073741824):ev LI TT 159 [.row .af 2 (fs.map aK)]=some (.row .own 2 (fs.map aK),[.dead]):=by rw[ay (b:=GD) (rs:=[.t 2]) (n:=1) rfl rfl];simp -implicitDefEqProofs [GD,Pq fs,rowAt,(by omega:fs.length*32<=140737488355328)];all_goals (repeat' split)<;>first|rfl|omega|(simp_all;done)|(simp_all;omega)|skip
def N6(r:cg)(hb:r.fields.length<=1073741824):ev LI TT 68 [.agg (jv .af r)]=some (.agg (jv .own r),[.dead]):=by
 rw[ay (b:=GG) (rs:=[.c 2 3 true 29]) (n:=1) rfl rfl];have u1:=WK r.fields hb;try simp at u1
 simp -implicitDefEqProofs [GG,u1];all_goals (repeat' split)<;>first|rfl|omega|(simp_all;done)|(simp_all;omega)|skip
def We(r:cg)(hb:r.fields.length<=1073741824):ev LI TT 58 [.agg (jv .af r)]=some (.agg (jv .own r),[.dead]):=by
 rw[ay (b:=EN) (rs:=[.c 2 3 true 29]) (n:=1) rfl rfl];have u1:=abY r.fields hb;try simp at u1
 simp -implicitDefEqProofs [EN,u1];all_goals (repeat' split)<;>first|rfl|omega|(simp_all;done)|(simp_all;omega)|skip
end M
namespace M
open Go
variable [Lb]
def Hl(s:ag):(js s).length<=s.length+1:=by unfold js;have h1:=TU (λw:ag=>decide (w≠[])) ((cm 44 s).map gd);have h2:=SL 44 s;simp only[dO] at h1;omega
def Cv(s:ag):∀w∈js s,w.length<=s.length:=by intro w hw;unfold js at hw;obtain⟨x,hx,rfl⟩:=aU.1 (List.mem_filter.1 hw).1;have h1:=xX 44 s x hx;have h2:=S5 x;omega
def UH(ws:List ag)(hl0:ws.length<=1073741825)(hb:∀w∈ws,w.length<=1073741824):aH (aj (ev LI TT) (av TT) BP) [(5,.row .own 1 ((jE cH ws 0).map eS)),(6,.int .i64 0)]=some (.exit 0,[(5,.row .own 1 ((jE cH ws (ws).length).map eS)),(6,.int .i64 (ws).length),(17,.bool false)]):=by
 refine Ra (f:=aj (ev LI TT) (av TT) BP) (ws) (λi=>[(5,.row .own 1 ((jE cH ws i).map eS)),(6,.int .i64 i)]) _ (λi b hi hl=>?_) ?_
 ·have hw:=bz i (by first|omega|(simp at hl;omega));obtain⟨_,rfl⟩:=aN.1 hi;have h1:=acy cH ws i hl;have h2:=acz cH ws i hl;have u1:=NR ws[i] (hb _ (cI hl));try simp at u1
  simp -implicitDefEqProofs [BP,Lq,hl,hw,u1,h1,h2,rowAt,-List.map_set]
 ·simp -implicitDefEqProofs [BP,Lq,rowAt]
def Df(fs:List aE)(hb:wL aJ fs<=1073741824):ev LI TT 87 [.row .af 2 (fs.map aK)]=some (.row .own 1 ((dJ fs).map eS),[.dead]):=by
 rw[ay (b:=FV) (rs:=[.t 2]) (n:=1) rfl rfl];have hfl:=bx (w:=aJ) fs;have hg:=tH fs ji;have u1:=Dc fs ji (by omega);try simp at u1
 have u2:=NX ((dR fs ji).getD []) (by omega);try simp at u2
 have u3:=UH (js ((dR fs ji).getD [])) (by have:=Hl ((dR fs ji).getD []);omega) (λw hw=>by have:=Cv _ w hw;omega);try simp at u3
 rw[acA,acv,show (js ((dR fs ji).getD [])).map cH=dJ fs from rfl] at u3;simp -implicitDefEqProofs [FV,u1,u2,u3];all_goals (repeat' split)<;>first|rfl|omega|(simp_all;done)|(simp_all;omega)|skip
def Uc(ws:List ag)(hl0:ws.length<=1073741825)(hb:∀w∈ws,w.length<=1073741824):aH (aj (ev LI TT) (av TT) Az) [(5,.row .own 1 (([]).map eS)),(14,.row .own 1 (ws.map eS)),(15,.int .i64 ws.length),(16,.int .i64 0)]=some (.exit 0,[(5,.row .own 1 ((((ws).flatMap (λw=>[cH w]))).map eS)),(14,.row .own 1 (ws.map eS)),(15,.int .i64 ws.length),(16,.int .i64 (ws).length),(17,.bool false)]):=by
 refine p9 (f:=aj (ev LI TT) (av TT) Az) (ws) (λw=>[cH w]) (λi out=>[(5,.row .own 1 ((out).map eS)),(14,.row .own 1 (ws.map eS)),(15,.int .i64 ws.length),(16,.int .i64 i)]) (λout=>[(5,.row .own 1 ((out).map eS)),(14,.row .own 1 (ws.map eS)),(15,.int .i64 ws.length),(16,.int .i64 (ws).length),(17,.bool false)]) (λi b out hi hl hout=>?_) (λout hout=>?_)
 ·have hw:=bz i (by first|omega|(simp at hl;omega));obtain⟨_,rfl⟩:=aN.1 hi;have hlo:out.length=i:=by rw[hout];exact zv _ _ _ (by omega)
  have hlz:(i+1)*16<=140737488355328:=by omega
  have u1:=V3 ws[i] (hb _ (cI hl));try simp at u1
  simp -implicitDefEqProofs [Az,JY,hl,hw,u1,hlo,hlz,cE]
 ·simp -implicitDefEqProofs [Az,JY]
def Wc(fs:List aE)(hb:wL aJ fs<=1073741824):ev LI TT 118 [.row .af 2 (fs.map aK)]=some (.row .own 1 ((dJ fs).map eS),[.dead]):=by
 rw[ay (b:=EK) (rs:=[.t 2]) (n:=1) rfl rfl];have hfl:=bx (w:=aJ) fs;have hg:=tH fs ji;have u1:=Ic fs ji (by omega);try simp at u1
 have u2:=Wa ((dR fs ji).getD []) (by omega);try simp at u2
 have u3:=Uc (js ((dR fs ji).getD [])) (by have:=Hl ((dR fs ji).getD []);omega) (λw hw=>by have:=Cv _ w hw;omega);try simp at u3
 rw[zu,show (js ((dR fs ji).getD [])).map cH=dJ fs from rfl] at u3;simp -implicitDefEqProofs [EK,u1,u2,u3];all_goals (repeat' split)<;>first|rfl|omega|(simp_all;done)|(simp_all;omega)|skip
def Hg(fs:List aE):(dJ fs).length<=wL aJ fs+1:=by have h1:=Hl ((dR fs ji).getD []);have h2:=tH fs ji;simp[dJ];omega
end M
namespace M
open Go
variable [Lb]
def UY(ps:List (ag×ag))(hb:ps.length<=9223372036854775807):aH (aj (ev LI TT) (av TT) Cz) [(0,.row .af 1 (ps.map λx=>eS x.1)),(1,.row .af 1 (ps.map λx=>eS x.2)),(12,.int .i64 ps.length),(13,.int .i64 0)]=if bq vF (ps)=true then some (.exit 0,[(0,.row .af 1 (ps.map λx=>eS x.1)),(1,.row .af 1 (ps.map λx=>eS x.2)),(12,.int .i64 ps.length),(13,.int .i64 ps.length),(14,.bool false)]) else some (.ret,[(4,.bool false)]):=by
 refine gy (f:=aj (ev LI TT) (av TT) Cz) (ps) (λi=>[(0,.row .af 1 (ps.map λx=>eS x.1)),(1,.row .af 1 (ps.map λx=>eS x.2)),(12,.int .i64 ps.length),(13,.int .i64 i)]) vF _ _ (λi b hi hl=>?_) ?_;·have hw:=bz i (by first|omega|(simp at hl;omega));obtain⟨_,rfl⟩:=aN.1 hi;simp -implicitDefEqProofs [Cz,Mp,hl,hw,vF];first|done|(split<;>simp_all)
 ·simp -implicitDefEqProofs [Cz,Mp]
def N7(a b:List ag)(hb:a.length<=9223372036854775807):ev LI TT 103 [.row .af 1 (a.map eS),.row .af 1 (b.map eS)]=some (.bool (decide (a=b)),[.dead,.dead]):=by
 rw[ay (b:=Hq) (rs:=[.t 4]) (n:=2) rfl rfl];simp -implicitDefEqProofs [Hq];by_cases h:a.length=b.length;·obtain⟨ps,rfl,rfl⟩:=TW h;have h1:=UY ps (by simpa using hb);have h2:=Np ps;simp at h1;cases h3:bq vF ps<;>rw[h3] at h1 h2<;>simp[h1,HE,<-h2]
 ·have:¬a=b:=λe=>h (by rw[e]);simp[this];omega
def TX:∀{a b:List ag},(∀x∈a.zip b,¬(decide (x.1≠x.2))=true)->a.length=b.length->a=b
 |[],[],_,_=>rfl
 |x::a,y::b,h,hl=>by have h1:=h (x,y) (by simp);simp at h1;have h2:a=b:=TX (λz hz=>h z (by simp only[List.zip_cons_cons];exact cz _ hz)) (by simpa using hl);rw[h1,h2]
def ait{a b:List ag}{x:ag×ag}(hx:x∈a.zip b)(h:x.1≠x.2):a≠b:=by
 rintro rfl
 have:∀{l:List ag} {x:ag×ag},x∈l.zip l->x.1=x.2:=by
  intro l;induction l with
  |nil=>intro x h;simp at h
  |cons y l ih=>
   intro x h;simp only[List.zip_cons_cons,cu] at h;rcases h with rfl|h;·rfl
   ·exact ih h
 exact h (this hx)
def UW(a b:List ag)(hb:a.length<=9223372036854775807)(gv:b.length<=9223372036854775807):aH (aj (ev LI TT) (av TT) xU) [(0,.row .af 1 (a.map eS)),(1,.row .af 1 (b.map eS)),(5,.int .i64 0)]=(cU (λx=>decide (x.1≠x.2)) 0 (a.zip b)).elim (some (.exit 0,[(0,.row .af 1 (a.map eS)),(1,.row .af 1 (b.map eS)),(5,.int .i64 (a.zip b).length),(15,.bool false)])) λx=>some (.ret,(λ(i:Nat) b=>[(4,.bool false)]) x.1 x.2):=by
 refine tY (f:=aj (ev LI TT) (av TT) xU) (a.zip b) (λi=>[(0,.row .af 1 (a.map eS)),(1,.row .af 1 (b.map eS)),(5,.int .i64 i)]) (λx=>decide (x.1≠x.2)) (λ(i:Nat) b=>[(4,.bool false)]) _ (λi b hi hl=>?_) ?_
 ·have hw:=bz i (by first|omega|(simp at hl;omega));obtain⟨_,rfl⟩:=aN.1 hi;have ha:i<a.length:=by simp at hl;omega
  have hb':i<b.length:=by simp at hl;omega
  simp -implicitDefEqProofs [xU,GC,hl,hw,ha,hb']
 ·have hz:(a.zip b).length=min a.length b.length:=by simp
  rw[hz];by_cases hh:a.length<=b.length;·rw[nQ hh];simp -implicitDefEqProofs [xU,GC]
  have h1:b.length<=a.length:=by omega
  have h2:(b.length:Int)<a.length:=by omega
  have h3:b.length<a.length:=by omega
  rw[Nat.min_eq_right h1];simp -implicitDefEqProofs [xU,GC,h2,h3]
def Di(a b:List ag)(hb:a.length<=9223372036854775807)(gv:b.length<=9223372036854775807):ev LI TT 86 [.row .af 1 (a.map eS),.row .af 1 (b.map eS)]=some (.bool (decide (a=b)),[.dead,.dead]):=by
 rw[ay (b:=xV) (rs:=[.t 4]) (n:=2) rfl rfl];have h:=UW a b hb gv;cases g:cU (λx:ag×ag=>decide (x.1≠x.2)) 0 (a.zip b) with
 |some x=>obtain⟨i,x⟩:=x;obtain⟨_,h1,h2⟩:=vO g;have h3:¬a=b:=ait (lM h1) (by simpa using h2);rw[g] at h;simp only[Option.elim] at h;simp -implicitDefEqProofs [xV,h,h3]
 |none=>
 have h1:=Pm.1 g;rw[g] at h;simp only[Option.elim] at h;try simp at h
 by_cases hl:a.length=b.length
 ·have h2:=TX h1 hl;subst h2;try simp at h
  simp -implicitDefEqProofs [xV,h]
 have h3:¬a=b:=λe=>hl (by rw[e]);have h4:¬(a.length:Int)=b.length:=by omega
 simp -implicitDefEqProofs [xV,h,h3,h4];all_goals (repeat' split)<;>first|rfl|omega|(simp_all;done)|(simp_all;omega)|skip
end M
namespace M
open Go
variable [Lb]
def Uv(o:Ob)(hb:wL wS o.values<=1073741824):aH (aj (ev LI TT) (av TT) BC) [(1,.ptr .own (aS .af o)),(3,.int .i64 0)]=if bq fR (o.values)=true then some (.exit 0,[(1,.ptr .own (aS .af o)),(3,.int .i64 (o.values).length),(49,.bool false)]) else some (.ret,[(2,.bool false)]):=by
 refine gy (f:=aj (ev LI TT) (av TT) BC) (o.values) (λi=>[(1,.ptr .own (aS .af o)),(3,.int .i64 i)]) fR _ _ (λi b hi hl=>?_) ?_
 ·have hw:=bz i (by have:=bx (w:=wS) o.values;omega);obtain⟨_,rfl⟩:=aN.1 hi;have hm:=yh (cI hl);have u1:=Iq o.values[i] (by omega);try simp at u1
  simp -implicitDefEqProofs [BC,Lf,hl,hw,u1];all_goals (repeat' split)<;>first|rfl|omega|(simp_all;done)|(simp_all;omega)|skip
 ·simp -implicitDefEqProofs [BC,Lf]
def yS(o:Ob)(hb:cr o<=1073741824):ev LI TT 18 [.agg (aS .af o)]=some (.bool ((dn o)),[.dead]):=by
 rw[ay (b:=mz) (rs:=[.t 2]) (n:=1) rfl rfl];have hw:cr o=o.path.length+wL wS o.names+wL wS o.values+ct o.resp:=rfl;have fH:ct o.resp=wL aJ o.resp.fields+o.resp.body.length:=rfl;have hn:=bx (w:=wS) o.names;have hv:=bx (w:=wS) o.values;have hvl:=Hg o.resp.fields;unfold dn nA;have u1:=Im o.resp (by omega);try simp at u1
 have u2:=Is o.path (by omega);try simp at u2
 have u3:=N5 o.names (by omega) (λw hw=>by have:=yh hw;omega);try simp at u3
 have u4:=Df o.resp.fields (by omega);try simp at u4
 have u5:=Di o.names (dJ o.resp.fields) (by omega) (by omega);try simp at u5
 have u6:=Uv o (by omega);try simp at u6
 by_cases g1:fm o.resp=true;rotate_left;·simp -implicitDefEqProofs [mz,u1,u2,u3,u4,u5,u6,g1]
 by_cases g2:iu o.path=true;rotate_left;·simp -implicitDefEqProofs [mz,u1,u2,u3,u4,u5,u6,g1,g2]
 by_cases g3:0<=o.t;rotate_left;·simp -implicitDefEqProofs [mz,u1,u2,u3,u4,u5,u6,g1,g2,eq_false g3]
 by_cases g4:o.t<=1000000;rotate_left;·simp -implicitDefEqProofs [mz,u1,u2,u3,u4,u5,u6,g1,g2,eq_true g3,eq_false g4]
 by_cases g5:bq eu o.names=true;rotate_left;·simp -implicitDefEqProofs [mz,u1,u2,u3,u4,u5,u6,g1,g2,eq_true g3,eq_true g4,g5]
 by_cases g6:(o.names.length:Int)<=4;rotate_left;·simp -implicitDefEqProofs [mz,u1,u2,u3,u4,u5,u6,g1,g2,eq_true g3,eq_true g4,g5,eq_false g6]
 by_cases g7:o.names=dJ o.resp.fields;rotate_left;·simp -implicitDefEqProofs [mz,u1,u2,u3,u4,u5,u6,g1,g2,eq_true g3,eq_true g4,g5,eq_true g6,eq_false g7]
 by_cases g8:o.values.length=o.names.length;rotate_left
 ·have jZ:¬(o.values.length:Int)=o.names.length:=by omega
  simp -implicitDefEqProofs [mz,u1,u2,u3,u4,u5,u6,g1,g2,eq_true g3,eq_true g4,g5,eq_true g6,eq_true g7,eq_false g8,eq_false jZ]
 have jZ:(o.values.length:Int)=o.names.length:=by omega
 simp -implicitDefEqProofs [mz,u1,u2,u3,u4,u5,u6,g1,g2,eq_true g3,eq_true g4,g5,eq_true g6,eq_true g7,eq_true g8,eq_true jZ];all_goals (repeat' split)<;>first|rfl|omega|(simp_all;done)|(simp_all;omega)|skip
def T6(o:Ob)(hb:wL wS o.values<=1073741824):aH (aj (ev LI TT) (av TT) Ap) [(1,.ptr .own (aS .af o)),(5,.aB 1 [] 0 2),(6,.row .af 1 (o.values.map eS)),(7,.int .i64 o.values.length),(8,.int .i64 0)]=if bq fR (o.values)=true then some (.exit 0,[(1,.ptr .own (aS .af o)),(5,.aB 1 [] 0 2),(6,.row .af 1 (o.values.map eS)),(7,.int .i64 o.values.length),(8,.int .i64 (o.values).length),(9,.bool false)]) else some (.ret,[(2,.bool false)]):=by
 refine gy (f:=aj (ev LI TT) (av TT) Ap) (o.values) (λi=>[(1,.ptr .own (aS .af o)),(5,.aB 1 [] 0 2),(6,.row .af 1 (o.values.map eS)),(7,.int .i64 o.values.length),(8,.int .i64 i)]) fR _ _ (λi b hi hl=>?_) ?_
 ·have hw:=bz i (by have:=bx (w:=wS) o.values;omega);obtain⟨_,rfl⟩:=aN.1 hi;have hm:=yh (cI hl);have u1:=Ij o.values[i] (by omega);try simp at u1
  simp -implicitDefEqProofs [Ap,JT,hl,hw,u1];all_goals (repeat' split)<;>first|rfl|omega|(simp_all;done)|(simp_all;omega)|skip
 ·simp -implicitDefEqProofs [Ap,JT]
def Ig(o:Ob)(hb:cr o<=1073741824):ev LI TT 38 [.agg (aS .af o)]=some (.bool ((dn o)),[.dead]):=by
 rw[ay (b:=l6) (rs:=[.t 2]) (n:=1) rfl rfl];have hw:cr o=o.path.length+wL wS o.names+wL wS o.values+ct o.resp:=rfl;have fH:ct o.resp=wL aJ o.resp.fields+o.resp.body.length:=rfl;have hn:=bx (w:=wS) o.names;have hv:=bx (w:=wS) o.values;have hvl:=Hg o.resp.fields;unfold dn nA;have u1:=ND o.resp (by omega);try simp at u1
 have u2:=NK o.path (by omega);try simp at u2
 have u3:=Wh o.names (by omega) (λw hw=>by have:=yh hw;omega);try simp at u3
 have u4:=Wc o.resp.fields (by omega);try simp at u4
 have u5:=N7 o.names (dJ o.resp.fields) (by omega);try simp at u5
 have u6:=T6 o (by omega);try simp at u6
 by_cases g1:bq fR o.values=true;rotate_left;·simp -implicitDefEqProofs [l6,u1,u2,u3,u4,u5,u6,g1]
 by_cases g2:iu o.path=true;rotate_left;·simp -implicitDefEqProofs [l6,u1,u2,u3,u4,u5,u6,g1,g2]
 by_cases g3:0<=o.t;rotate_left;·simp -implicitDefEqProofs [l6,u1,u2,u3,u4,u5,u6,g1,g2,eq_false g3]
 by_cases g4:o.t<=1000000;rotate_left;·simp -implicitDefEqProofs [l6,u1,u2,u3,u4,u5,u6,g1,g2,eq_true g3,eq_false g4]
 by_cases g8:o.values.length=o.names.length;rotate_left
 ·have jZ:¬(o.values.length:Int)=o.names.length:=by omega
  simp -implicitDefEqProofs [l6,u1,u2,u3,u4,u5,u6,g1,g2,eq_true g3,eq_true g4,eq_false g8,eq_false jZ]
 have jZ:(o.values.length:Int)=o.names.length:=by omega
 by_cases h5:bq eu o.names=true;rotate_left;·simp -implicitDefEqProofs [l6,u1,u2,u3,u4,u5,u6,g1,g2,eq_true g3,eq_true g4,eq_true g8,eq_true jZ,h5]
 by_cases h6:(o.names.length:Int)<=4;rotate_left;·simp -implicitDefEqProofs [l6,u1,u2,u3,u4,u5,u6,g1,g2,eq_true g3,eq_true g4,eq_true g8,eq_true jZ,h5,eq_false h6]
 by_cases h7:fm o.resp=true;rotate_left;·simp -implicitDefEqProofs [l6,u1,u2,u3,u4,u5,u6,g1,g2,eq_true g3,eq_true g4,eq_true g8,eq_true jZ,h5,eq_true h6,h7]
 simp -implicitDefEqProofs [l6,u1,u2,u3,u4,u5,u6,g1,g2,eq_true g3,eq_true g4,eq_true g8,eq_true jZ,h5,eq_true h6,h7];all_goals (repeat' split)<;>first|rfl|omega|(simp_all;done)|(simp_all;omega)|skip
def Db(b:Bn)(hb:aW b<=1073741824):ev LI TT 101 [.agg (bK b)]=some (.bool ((dP b)),[.dead]):=by
 rw[ay (b:=qn) (rs:=[.t 2]) (n:=1) rfl rfl];have hw:aW b=b.a.length+b.b.length:=rfl;unfold dP;have u1:=Is b.a (by omega);try simp at u1
 have u2:=Io b.a (by omega);try simp at u2
 have u3:=Iq b.b (by omega);try simp at u3
 by_cases g1:0<=b.t;rotate_left;·simp -implicitDefEqProofs [qn,u1,u2,u3,eq_false g1]
 by_cases g2:b.t<=1000000;rotate_left;·simp -implicitDefEqProofs [qn,u1,u2,u3,eq_true g1,eq_false g2]
 by_cases h1:b.kind=1;·by_cases h2:iu b.a=true<;>simp -implicitDefEqProofs [qn,u1,u2,u3,eq_true g1,eq_true g2,h1,h2]
 by_cases h2:b.kind=2;·by_cases h3:iu b.a=true<;>simp -implicitDefEqProofs [qn,u1,u2,u3,eq_true g1,eq_true g2,h2,h3]
 by_cases h3:b.kind=3;·by_cases h4:eu b.a=true<;>simp -implicitDefEqProofs [qn,u1,u2,u3,eq_true g1,eq_true g2,h3,h4]
 simp -implicitDefEqProofs [qn,u1,u2,u3,eq_true g1,eq_true g2,h1,h2,h3];all_goals (repeat' split)<;>first|rfl|omega|(simp_all;done)|(simp_all;omega)|skip
def NB(b:Bn)(hb:aW b<=1073741824):ev LI TT 105 [.agg (bK b)]=some (.bool ((dP b)),[.dead]):=by
 rw[ay (b:=pU) (rs:=[.t 2]) (n:=1) rfl rfl];have hw:aW b=b.a.length+b.b.length:=rfl;unfold dP;have u1:=NK b.a (by omega);try simp at u1
 have u2:=Ii b.a (by omega);try simp at u2
 have u3:=Ij b.b (by omega);try simp at u3
 by_cases g1:0<=b.t;rotate_left;·simp -implicitDefEqProofs [pU,u1,u2,u3,eq_false g1]
 by_cases g2:b.t<=1000000;rotate_left;·simp -implicitDefEqProofs [pU,u1,u2,u3,eq_true g1,eq_false g2]
 by_cases h1:b.kind=1;·by_cases h2:iu b.a=true<;>simp -implicitDefEqProofs [pU,u1,u2,u3,eq_true g1,eq_true g2,h1,h2]
 by_cases h2:b.kind=2;·by_cases h3:iu b.a=true<;>simp -implicitDefEqProofs [pU,u1,u2,u3,eq_true g1,eq_true g2,h2,h3]
 by_cases h3:b.kind=3;·by_cases h4:eu b.a=true<;>simp -implicitDefEqProofs [pU,u1,u2,u3,eq_true g1,eq_true g2,h3,h4]
 simp -implicitDefEqProofs [pU,u1,u2,u3,eq_true g1,eq_true g2,h1,h2,h3];all_goals (repeat' split)<;>first|rfl|omega|(simp_all;done)|(simp_all;omega)|skip
@[simp] def aiV(t:Int):ev LI TT 183 [.int .i64 t]=some (.bool ((decide (0<=t/\t<=19))),[.dead]):=by rw[ay (b:=ES) (rs:=[.t 2]) (n:=1) rfl rfl];simp -implicitDefEqProofs [ES];all_goals (repeat' split)<;>first|rfl|omega|(simp_all;done)|(simp_all;omega)|skip
@[simp] def aiW(t:Int):ev LI TT 106 [.int .i64 t]=some (.bool ((decide (5<=t/\t<=19))),[.dead]):=by rw[ay (b:=ET) (rs:=[.t 2]) (n:=1) rfl rfl];simp -implicitDefEqProofs [ET];all_goals (repeat' split)<;>first|rfl|omega|(simp_all;done)|(simp_all;omega)|skip
def Uk(d:bD)(hb:d.pending.length<=9223372036854775807):aH (aj (ev LI TT) (av TT) Bp) [(1,.ptr .own (cL .af d)),(3,.int .i64 0)]=if bq nD (d.pending)=true then some (.exit 0,[(1,.ptr .own (cL .af d)),(3,.int .i64 (d.pending).length),(8,.bool false)]) else some (.ret,[(2,.bool false)]):=by
 refine gy (f:=aj (ev LI TT) (av TT) Bp) (d.pending) (λi=>[(1,.ptr .own (cL .af d)),(3,.int .i64 i)]) nD _ _ (λi b hi hl=>?_) ?_;·have hw:=bz i (by first|omega|(simp at hl;omega));obtain⟨_,rfl⟩:=aN.1 hi;simp -implicitDefEqProofs [Bp,K9,hl,hw,nD];all_goals (repeat' split)<;>first|rfl|omega|(simp_all;done)|(simp_all;omega)|skip
 ·simp -implicitDefEqProofs [Bp,K9]
def tq(d:bD)(hb:d.pending.length<=9223372036854775807):ev LI TT 100 [.agg (cL .af d)]=some (.bool ((cO d)),[.dead]):=by
 rw[ay (b:=Fz) (rs:=[.t 2]) (n:=1) rfl rfl];unfold cO;have u1:=Uk d hb;try simp at u1
 simp -implicitDefEqProofs [Fz,u1];all_goals (repeat' split)<;>first|rfl|omega|(simp_all;done)|(simp_all;omega)|skip
def T0(d:bD)(hb:d.pending.length<=9223372036854775807):aH (aj (ev LI TT) (av TT) Aj) [(1,.ptr .own (cL .af d)),(5,.aB 1 [] 0 1),(6,.row .af 2 (d.pending.map eW)),(7,.int .i64 d.pending.length),(8,.int .i64 0)]=if bq nD (d.pending)=true then some (.exit 0,[(1,.ptr .own (cL .af d)),(5,.aB 1 [] 0 1),(6,.row .af 2 (d.pending.map eW)),(7,.int .i64 d.pending.length),(8,.int .i64 (d.pending).length),(9,.bool false)]) else some (.ret,[(2,.bool false)]):=by
 refine gy (f:=aj (ev LI TT) (av TT) Aj) (d.pending) (λi=>[(1,.ptr .own (cL .af d)),(5,.aB 1 [] 0 1),(6,.row .af 2 (d.pending.map eW)),(7,.int .i64 d.pending.length),(8,.int .i64 i)]) nD _ _ (λi b hi hl=>?_) ?_;·have hw:=bz i (by first|omega|(simp at hl;omega));obtain⟨_,rfl⟩:=aN.1 hi;simp -implicitDefEqProofs [Aj,JR,hl,hw,nD];all_goals (repeat' split)<;>first|rfl|omega|(simp_all;done)|(simp_all;omega)|skip
 ·simp -implicitDefEqProofs [Aj,JR]
def VY(d:bD)(hb:d.pending.length<=9223372036854775807):ev LI TT 107 [.agg (cL .af d)]=some (.bool ((cO d)),[.dead]):=by
 rw[ay (b:=Ew) (rs:=[.t 2]) (n:=1) rfl rfl];unfold cO;have u1:=T0 d hb;try simp at u1
 simp -implicitDefEqProofs [Ew,u1];all_goals (repeat' split)<;>first|rfl|omega|(simp_all;done)|(simp_all;omega)|skip
end M
namespace M
open Go
variable [Lb]
def UT(s:ag)(hb:s.length<=1073741824)(g:List ag×Nat)(hinv:g.2<=0/\g.1.length<=0):aH (aj (ev LI TT) (av TT) uS) [(0,.str ⟨s.toArray⟩),(3,.row .own 1 ((g).1.map eS)),(4,.int .i64 ((g).2:Nat)),(5,.int .i64 0)]=some (.exit 0,[(0,.str ⟨s.toArray⟩),(3,.row .own 1 (((foldI (fV 32 (λw=>[w]) s) 0 (s.map some++[none]) g)).1.map eS)),(4,.int .i64 (((foldI (fV 32 (λw=>[w]) s) 0 (s.map some++[none]) g)).2:Nat)),(5,.int .i64 (s.map some++[none]).length),(10,.bool false)]):=by
 refine kK (f:=aj (ev LI TT) (av TT) uS) (s.map some++[none]) (λi (g:List ag×Nat)=>[(0,.str ⟨s.toArray⟩),(3,.row .own 1 ((g).1.map eS)),(4,.int .i64 ((g).2:Nat)),(5,.int .i64 i)]) (fV 32 (λw=>[w]) s) (λg=>[(0,.str ⟨s.toArray⟩),(3,.row .own 1 ((g).1.map eS)),(4,.int .i64 ((g).2:Nat)),(5,.int .i64 (s.map some++[none]).length),(10,.bool false)]) (λi (g:List ag×Nat)=>g.2<=i/\g.1.length<=i) g hinv (λi b g hi hl hinv=>?_) (λi b g hi hinv=>?_) (λg hinv=>?_)
 ·have hw:=bz i (by first|omega|(simp at hl;omega));obtain⟨_,rfl⟩:=aN.1 hi;have hlz:(g.1.length+1)*16<=140737488355328:=by simp at hl;omega
  have zA:∀b:UInt8,((b.toNat:Int)=32)↔b=32:=λb=>⟨λh=>sU.1 (by have e:(32:UInt8).toNat=32:=rfl;omega),λh=>by subst h;rfl⟩;rcases RH s i hl with ⟨hi',e⟩|⟨rfl,e⟩
  ·rw[e];have k1:(i:Int)<=s.length:=by omega
   have k2:i<=s.length:=by omega
   have k3:¬i=s.length:=by omega
   have k4:¬(i:Int)=s.length:=by omega
   by_cases hx:s[i]=32;rotate_left;·have hx':=mt (zA s[i]).1 hx;simp -implicitDefEqProofs [uS,Cg,k1,k2,k3,k4,hi',hw,fV,hx,hx']
   have hx':=(zA s[i]).2 hx;have e3:(s.take i).drop g.2=(s.drop g.2).take (i - g.2):=yx ..;simp -implicitDefEqProofs [uS,Cg,k1,k2,k3,k4,hi',hw,fV,eq_true hx,hx',hinv,Lib.extract_mk,e3,cE,hlz]
  rw[e];have e3:(s.take s.length).drop g.2=(s.drop g.2).take (s.length - g.2):=yx ..;simp only[fV,e3];simp -implicitDefEqProofs [uS,Cg,hl,hw,hinv,Lib.extract_mk,cE,hlz]
 ·exact PR 32 (λw=>[w]) (λ_=>dz 1) s i g b hinv
 ·have Jp:¬((s.length:Int)+1<=s.length):=by omega
  simp -implicitDefEqProofs [uS,Cg,Jp]
def vw(s:ag)(hb:s.length<=1073741824):ev LI TT 210 [.str ⟨s.toArray⟩]=some (.row .own 1 ((cm 32 s).map eS),[.dead]):=by rw[ay (b:=GB) (rs:=[.t 2]) (n:=1) rfl rfl];have u1:=UT s hb ([],0) ⟨by omega,by simp⟩;rw[Px,List.flatMap_singleton' (cm 32 s)] at u1;simp at u1;simp -implicitDefEqProofs [GB,u1];all_goals (repeat' split)<;>first|rfl|omega|(simp_all;done)|(simp_all;omega)|skip
def OB(c:UInt8):∀(s:ag) (k:Nat),(cU (λb=>decide ((b.toNat:Int)=c.toNat)) k s).map (λx=>(x.1 - k))=(ek c s).map λp=>p.1.length
 |[],k=>rfl
 |b::s,k=>by
  have hb:((b.toNat:Int)=c.toNat)↔b=c:=⟨λh=>sU.1 (by omega),λh=>by subst h;rfl⟩;unfold cU ek;by_cases h:b=c;·simp[hb,h]
  ·have ih:=OB c s (k+1);simp only[hb,h,MK,fC,ey];cases hf:cU (λb=>decide ((b.toNat:Int)=c.toNat)) (k+1) s with
   |none=>
    rw[hf] at ih;cases hc:ek c s with
    |none=>rfl
    |some p=>rw[hc] at ih;simp at ih
   |some x=>
    rw[hf] at ih;cases hc:ek c s with
    |none=>rw[hc] at ih;simp at ih
    |some p=>rw[hc] at ih;have hx:=(vO (i:=x.1) (b:=x.2) hf).1;simp at ih⊢;omega
def Ds{c:UInt8}:∀{s:ag} {p:ag×ag},ek c s=some p->s=p.1++c::p.2
 |[],p,h=>by cases h
 |b::s,p,h=>by
  unfold ek at h;split at h;·rename_i hb;cases h;simp[hb]
  ·cases hc:ek c s with
   |none=>rw[hc] at h;cases h
   |some q=>rw[hc] at h;cases h;simp[<-Ds hc]
def UI(s:ag)(k:Nat)(hk:k<=s.length)(hb:s.length<=1073741824):aH (aj (ev LI TT) (av TT) BR) [(0,.str ⟨s.toArray⟩),(1,.int .i64 (k:Nat)),(6,.int .i64 ((k+0:Nat):Int))]=(cU (λb=>decide ((b.toNat:Int)=(10:UInt8).toNat)) 0 (s.drop k)).elim (some (.exit 0,[(0,.str ⟨s.toArray⟩),(1,.int .i64 (k:Nat)),(6,.int .i64 ((k+(s.drop k).length:Nat):Int)),(11,.bool false)])) λx=>some (.ret,(λ(i:Nat) b=>[(4,.str ⟨((s.drop k).take i).toArray⟩),(5,.int .i64 ((k+i+1:Nat):Int))]) x.1 x.2):=by
 refine tY (f:=aj (ev LI TT) (av TT) BR) (s.drop k) (λi=>[(0,.str ⟨s.toArray⟩),(1,.int .i64 (k:Nat)),(6,.int .i64 ((k+i:Nat):Int))]) (λb=>decide ((b.toNat:Int)=(10:UInt8).toNat)) (λ(i:Nat) b=>[(4,.str ⟨((s.drop k).take i).toArray⟩),(5,.int .i64 ((k+i+1:Nat):Int))]) _ (λi b hi hl=>?_) ?_
 ·have hw:=bz i (by simp at hl;omega);obtain⟨_,rfl⟩:=aN.1 hi;simp at hl;have h1:k+i<s.length:=by omega
  have h2:=bz (k+i) (by omega);have h3:((k+i:Nat):Int)<s.length:=by omega
  have h4:(10:UInt8).toNat=10:=rfl;have h5:(k:Int)<=((k+i:Nat):Int):=by omega
  have h6:((k+i:Nat):Int)<=s.length:=by omega
  simp at h2 h3 h5 h6;have h7:((k:Int)+(i:Int)).toNat=k+i:=by omega
  have h8:(0:Int)<=(k:Int)+(i:Int):=by omega
  have h9:(s.take (k+i)).drop k=(s.drop k).take i:=by rw[yx];congr 1;omega
  simp -implicitDefEqProofs [BR,Lr,hl,hw,h1,h2,h3,h4,h5,h6,h7,h8,h9,Lib.extract_mk];all_goals (repeat' split)<;>first|rfl|omega|(simp_all;done)|(simp_all;omega)|skip
 ·have hz:k+(s.length - k)=s.length:=by omega
  have fI:(k:Int)+((s.length - k:Nat):Int)=s.length:=by omega
  simp -implicitDefEqProofs [BR,Lr,hz,fI]
def wA(s:ag)(k:Nat):Int:=match ek 10 (s.drop k) with
 |some p=>((s.length - p.2.length:Nat):Int)
 |none=>-1
def wB(s:ag)(k:Nat):ag:=match ek 10 (s.drop k) with
 |some p=>p.1
 |none=>[]
def Dg(s:ag)(k:Nat)(hk:k<=s.length)(hb:s.length<=1073741824):ev LI TT 209 [.str ⟨s.toArray⟩,.int .i64 (k:Int)]=some (.ak [.str ⟨(wB s k).toArray⟩,.int .i64 (wA s k)],[.dead,.dead]):=by
 rw[ay (b:=BS) (rs:=[.t 4,.t 5]) (n:=2) rfl rfl];have hc:=OB 10 (s.drop k) 0;unfold wB wA;have u1:=UI s k hk hb;try simp at u1
 cases g:cU (λb:UInt8=>decide ((b.toNat:Int)=10)) 0 (s.drop k) with
 |none=>
  have h4:(10:UInt8).toNat=10:=rfl;rw[h4] at hc;simp only[Int.cast_ofNat_Int] at hc;rw[g] at u1 hc;cases hq:ek 10 (s.drop k) with
  |some p=>rw[hq] at hc;simp at hc
  |none=>simp at u1;simp -implicitDefEqProofs [BS,u1]
 |some x=>
 have h4:(10:UInt8).toNat=10:=rfl;rw[h4] at hc;simp only[Int.cast_ofNat_Int] at hc;rw[g] at u1 hc;cases hq:ek 10 (s.drop k) with
 |none=>rw[hq] at hc;simp at hc
 |some p=>
 rw[hq] at hc;have he:=Ds hq;have hx:x.1=p.1.length:=by simpa using hc
 have ht:(s.drop k).take x.1=p.1:=by rw[hx,he];simp
 have hl:=dm List.length he;simp at hl;have hn:((s.length - p.2.length:Nat):Int)=((k+x.1+1:Nat):Int):=by omega
 simp only[Option.elim,ht] at u1;try simp at u1
 simp -implicitDefEqProofs [BS,u1,hn];all_goals (repeat' split)<;>first|rfl|omega|(simp_all;done)|(simp_all;omega)|skip
def ze{s:ag}{p:ag×ag}(h:ek 10 s=some p):p.2.length<s.length/\s.drop (s.length - p.2.length)=p.2/\p.1.length<s.length:=by
 have he:=Ds h;have hl:=dm List.length he;simp at hl;refine⟨by omega,?_,by omega⟩;have:s.length - p.2.length=(p.1++[10]).length:=by simp;omega
 rw[this,he];have e:p.1++10::p.2=(p.1++[10])++p.2:=by simp
 rw[e,vb]
end M
set_option maxHeartbeats 4000000
namespace M
open Go
variable [Lb]
def yg:ag:=[112,97,116,104]
def yd:ag:=[98,101,108,111,119]
def ye:ag:=[102,105,101,108,100]
def Hj(k:Int):ag:=if k=1 then yg else if k=2 then yd else ye
def wu(w:ag):Int:=if w=yg then 1 else if w=yd then 2 else if w=ye then 3 else 0
def ia(b:Bn):ag:=if dP b=true then [98,97,110]++32::(Hj b.kind++32::(eP b.t++32::(b.a++if b.kind=3 then 10::b.b else []))) else []
def VG{b:Bn}(h:dP b=true):b.kind=1\/b.kind=2\/b.kind=3:=by
 unfold dP at h;by_cases h1:b.kind=1;·exact Or.inl h1
 by_cases h2:b.kind=2;·exact Or.inr (Or.inl h2)
 by_cases h3:b.kind=3;·exact Or.inr (Or.inr h3)
 simp[h1,h2,h3] at h
def NL(b:Bn)(hb:aW b<=1073741824):ev LI TT 126 [.agg (bK b)]=some (.str ⟨(ia b).toArray⟩,[.dead]):=by
 rw[ay (b:=Bl) (rs:=[.t 2]) (n:=1) rfl rfl];obtain⟨kd,a0,b0,t0⟩:=b;have hw:aW ⟨kd,a0,b0,t0⟩=a0.length+b0.length:=rfl;have l1:=A6 t0;unfold ia;have u1:=Db ⟨kd,a0,b0,t0⟩ hb;try simp at u1
 have u2:=vt t0;try simp at u2
 by_cases g:dP ⟨kd,a0,b0,t0⟩=true;rotate_left;·simp -implicitDefEqProofs [Bl,u1,u2,g]
 rw[g] at u1;rcases VG g with h|h|h;all_goals simp only at h
 all_goals subst h
 all_goals
 simp -implicitDefEqProofs [Bl,u1,u2,g,Hj,yg,yd,ye,cX,cP,cV,cJ,kQ,K2];all_goals (try simp only[*,not_false_eq_true,ey,oW])
 all_goals (repeat rw[az (by omega)])
 all_goals (try simp)
 all_goals first|done|omega|(refine⟨by omega,by omega,?_⟩;rw[show (⟨#[10]⟩:ByteArray)=⟨([10]:ag).toArray⟩ from rfl,kQ,kQ];simp;done)|skip
end M
set_option maxHeartbeats 4000000
namespace M
open Go
variable [Lb]
def jR:List ag:=[yg,yd,ye]
def AJ(w:ag)(i:Nat)(g:Int)(b:ag):Int:=if b=w then ((1+i:Nat):Int) else g
def ab3(w:ag):foldI (AJ w) 0 jR 0=wu w:=by
 unfold wu AJ;simp only[jR,foldI];by_cases h1:w=yg;·subst h1;rfl
 by_cases h2:w=yd;·subst h2;rfl
 by_cases h3:w=ye;·subst h3;rfl
 simp[h1,h2,h3,yp h1,yp h2,yp h3,eq_comm (b:=w)]
def Ug(s w0 w1 w2 w3 v:ag)(g:Int)(hinv:True):aH (aj (ev LI TT) (av TT) Bk) [(0,.str ⟨s.toArray⟩),(2,.ptr .own [.int .i64 0,.str ⟨#[]⟩,.str ⟨#[]⟩,.int .i64 0]),(6,.ptr .own [.int .i64 g,.str ⟨#[]⟩,.str ⟨v.toArray⟩,.int .i64 0]),(7,.row .own 1 ([w0,w1,w2,w3].map eS)),(8,.row .own 1 (([]::jR).map eS)),(9,.int .i64 ((1+0:Nat):Int))]=some (.exit 0,[(0,.str ⟨s.toArray⟩),(2,.ptr .own [.int .i64 0,.str ⟨#[]⟩,.str ⟨#[]⟩,.int .i64 0]),(6,.ptr .own [.int .i64 (foldI (AJ w1) 0 (jR) g),.str ⟨#[]⟩,.str ⟨v.toArray⟩,.int .i64 0]),(7,.row .own 1 ([w0,w1,w2,w3].map eS)),(8,.row .own 1 (([]::jR).map eS)),(9,.int .i64 4),(33,.bool false)]):=by
 refine kK (f:=aj (ev LI TT) (av TT) Bk) (jR) (λi (g:Int)=>[(0,.str ⟨s.toArray⟩),(2,.ptr .own [.int .i64 0,.str ⟨#[]⟩,.str ⟨#[]⟩,.int .i64 0]),(6,.ptr .own [.int .i64 g,.str ⟨#[]⟩,.str ⟨v.toArray⟩,.int .i64 0]),(7,.row .own 1 ([w0,w1,w2,w3].map eS)),(8,.row .own 1 (([]::jR).map eS)),(9,.int .i64 ((1+i:Nat):Int))]) (AJ w1) (λg=>[(0,.str ⟨s.toArray⟩),(2,.ptr .own [.int .i64 0,.str ⟨#[]⟩,.str ⟨#[]⟩,.int .i64 0]),(6,.ptr .own [.int .i64 g,.str ⟨#[]⟩,.str ⟨v.toArray⟩,.int .i64 0]),(7,.row .own 1 ([w0,w1,w2,w3].map eS)),(8,.row .own 1 (([]::jR).map eS)),(9,.int .i64 4),(33,.bool false)]) (λi (g:Int)=>True) g hinv (λi b g hi hl hinv=>?_) (λi b g hi hinv=>?_) (λg hinv=>?_)
 ·have hw:=bz i (by simp[jR] at hl;omega);obtain⟨_,rfl⟩:=aN.1 hi;have h3:i=0\/i=1\/i=2:=by simp[jR] at hl;omega
  by_cases hq:jR[i]=w1;all_goals rcases h3 with rfl|rfl|rfl
  all_goals simp only[jR,M4,TQ] at hq
  all_goals
  simp -implicitDefEqProofs [Bk,K1,hl,hw,AJ,hq,jR,cJ]
 ·trivial
 ·simp -implicitDefEqProofs [Bk,K1,jR]
def zB:Bn:=⟨0,[],[],0⟩
def qU(s:ag):ag×ag:=match ek 10 s with
 |some p=>p
 |none=>(s,[])
def vn(s v:ag)(ws:List ag):Bn×Bool:=match ws with
 |[_,w,t,a]=>if ia ⟨wu w,a,v,((dx t).getD 0:Nat)⟩=s then (⟨wu w,a,v,((dx t).getD 0:Nat)⟩,true) else (zB,false)
 |_=>(zB,false)
def iX(s:ag):Bn×Bool:=vn s (qU s).2 (cm 32 (qU s).1)
def VP{s v:ag}{ws:List ag}(h:ws.length≠4):vn s v ws=(zB,false):=by
 unfold vn;split;·simp at h
 ·rfl
def QY{ws:List ag}(h:ws.length=4):∃a b c d,ws=[a,b,c,d]:=by
 match ws,h with
 |[a,b,c,d],_=>exact⟨a,b,c,d,rfl⟩
def VF(s:ag):(qU s).1.length<=s.length/\(qU s).2.length<=s.length:=by
 unfold qU;cases h:ek 10 s with
 |none=>simp
 |some p=>have:=dm List.length (Ds h);simp at this⊢;omega
def Wj(s:ag)(hb:s.length<=1048576):ev LI TT 208 [.str ⟨s.toArray⟩]=some (.ak [.agg (bK ((iX s).1)),.bool ((iX s).2)],[.dead]):=by
 rw[ay (b:=qo) (rs:=[.c 2 4 true 83,.t 3]) (n:=1) rfl rfl];have u1:=Dg s 0 (by omega) (by omega);have bl:=VF s;simp only[wB,wA,HH] at u1;unfold iX
 have hX:∃l v e,qU s=(l,v)/\((e=-1/\v=[]/\l=s/\ev LI TT 209 [.str ⟨s.toArray⟩,.int .i64 0]=some (.ak [.str ⟨#[]⟩,.int .i64 (-1)],[.dead,.dead]))\/(∃m:Nat,e=(m:Int)/\m<=s.length/\s.length - m=v.length/\s.drop m=v/\ev LI TT 209 [.str ⟨s.toArray⟩,.int .i64 0]=some (.ak [.str ⟨l.toArray⟩,.int .i64 m],[.dead,.dead]))):=by
  unfold qU;cases hc:ek 10 s with
  |none=>rw[hc] at u1;exact⟨s,[],-1,rfl,Or.inl ⟨rfl,rfl,rfl,by simpa using u1⟩⟩
  |some p=>obtain⟨l,v⟩:=p;rw[hc] at u1;obtain⟨d1,d2,d3⟩:=ze hc;exact⟨l,v,_,rfl,Or.inr ⟨s.length - v.length,rfl,by omega,by simp only at d1;omega,d2,by simpa using u1⟩⟩
 clear u1;obtain⟨l,v,e,he,hX⟩:=hX;rw[he] at bl⊢;simp only at bl⊢;have u2:=vw l (by omega);have hm:=xX 32 l;by_cases h4:(cm 32 l).length=4;rotate_left
 ·rw[VP h4];have D7:¬(((cm 32 l).length:Int)=4):=by omega
  try simp at u2
  rcases hX with ⟨rfl,rfl,rfl,u1⟩|⟨m,rfl,k1,k2,k3,u1⟩;·simp -implicitDefEqProofs [qo,u1,u2,D7,zB]
  ·have k4:¬((m:Int)<0):=by omega
   have k5:(m:Int)<=s.length:=by omega
   simp -implicitDefEqProofs [qo,u1,u2,D7,zB,k1,k2,k3,k4,k5,Lib.extract_mk]
 obtain⟨w0,w1,w2,w3,hw⟩:=QY h4;rw[hw] at u2 hm⊢;have u3:=vr w2 (by have:=hm w2 (by simp);omega);have u4:=NL ⟨wu w1,w3,v,((dx w2).getD 0:Nat)⟩ (by have:=hm w3 (by simp);simp only[aW];omega);have u5:=Ug s w0 w1 w2 w3 v 0 trivial;rw[ab3] at u5;obtain⟨n,hn⟩:∃n,(dx w2).getD 0=n:=⟨_,rfl⟩;unfold vn;simp only[hn] at u3 u4⊢;simp[jR,yg,yd,ye] at u2 u3 u4 u5;by_cases g:ia ⟨wu w1,w3,v,(n:Int)⟩=s;all_goals rcases hX with ⟨rfl,rfl,rfl,u1⟩|⟨m,rfl,k1,k2,k3,u1⟩
 ·simp -implicitDefEqProofs [qo,u1,u2,u3,u4,u5,eq_true g,zB]
 ·have k4:¬((m:Int)<0):=by omega
  have k5:(m:Int)<=s.length:=by omega
  simp -implicitDefEqProofs [qo,u1,u2,u3,u4,u5,eq_true g,zB,k1,k2,k3,k4,k5,Lib.extract_mk]
 ·simp -implicitDefEqProofs [qo,u1,u2,u3,u4,u5,eq_false g,zB]
 have k4:¬((m:Int)<0):=by omega
 have k5:(m:Int)<=s.length:=by omega
 simp -implicitDefEqProofs [qo,u1,u2,u3,u4,u5,eq_false g,zB,k1,k2,k3,k4,k5,Lib.extract_mk];all_goals (repeat' split)<;>first|rfl|omega|(simp_all;done)|(simp_all;omega)|skip
end M
set_option maxHeartbeats 4000000
namespace M
open Go
variable [Lb]
def ad7(l:List ag)(k:Nat)(n:Nat)(h:∀s∈l,s.length<=n):(l.getD k []).length<=n:=by
 rw[jO];cases hk:l[k]? with
 |none=>simp
 |some s=>exact h s (lM hk)
def fy(c:bp)(l:List ag)(n:Nat)(h1:0<l.length)(h2:l.length<=1000)(h:∀s∈l,s.length<=n):∃(c':bp) (s:ag),s.length<=n/\ev LI TT 151 [.ptr .own (aR c),.row .af 1 (l.map eS)]=some (.str ⟨s.toArray⟩,[.ptr .own (aR c'),.dead]):=
 ⟨_,_,ad7 _ _ n h,N4 c l h1 (by omega)⟩
def jI(c:bp)(m:Int)(h1:0<m)(h2:m<=9223372036854775807):∃(c':bp) (n:Int),0<=n/\n<m/\ev LI TT 110 [.ptr .own (aR c),.int .i64 m]=some (.int .i64 n,[.ptr .own (aR c'),.dead]):=
 ⟨_,_,(tn c m h1 h2).1,(tn c m h1 h2).2,yV c m h2⟩
def Cw(c:bp)(m:Int)(h2:m<=9223372036854775807):∃(c':bp) (b:Bool),ev LI TT 73 [.ptr .own (aR c),.int .i64 m]=some (.bool b,[.ptr .own (aR c'),.dead]):=
 ⟨_,_,WD c m h2⟩
def yl(c:bp)(l:List Int)(h1:0<l.length)(h2:l.length<=1000):∃(c':bp) (s:Int),s∈l/\ev LI TT 124 [.ptr .own (aR c),.row .af 1 (l.map eI)]=some (.int .i64 s,[.ptr .own (aR c'),.dead]):=by refine⟨_,_,?_,WE c l h1 (by omega)⟩;have b:=tn c l.length (by omega) (by omega);rw[jO,bZ (by omega)];exact cI _
def aii(c:bp):∃(c':bp) (n:Int),bI n/\ev LI TT 57 [.ptr .own (aR c)]=some (.int .i64 n,[.ptr .own (aR c')]):=by
 obtain⟨c1,b,u1⟩:=Cw c 15 (by omega);cases b;·obtain⟨c2,n,h1,h2,u2⟩:=jI c1 40 (by omega) (by omega);refine⟨c2,n,(by unfold bI;omega),?_⟩;rw[ay (b:=xT) (rs:=[.t 2]) (n:=1) rfl rfl];simp -implicitDefEqProofs [xT,u1,u2]
 ·obtain⟨c2,n,hn,u2⟩:=yl c1 [-1,1000000,1000001,9223372036854775807,-9223372036854775808] (by simp) (by simp);refine⟨c2,n,(by unfold bI;simp at hn;omega),?_⟩;simp at u2;rw[ay (b:=xT) (rs:=[.t 2]) (n:=1) rfl rfl];simp -implicitDefEqProofs [xT,u1,u2,cX,cP]
def Tp(c:bp)(t:Int):∃(c':bp) (b:Bn),aW b<=100/\ev LI TT 127 [.ptr .own (aR c),.int .i64 t]=some (.agg (bK b),[.ptr .own (aR c'),.dead]):=by
 obtain⟨c1,k,h1,h2,u1⟩:=jI c 3 (by omega) (by omega);by_cases g0:k=0;·subst g0;obtain⟨c2,s,hs,u2⟩:=fy c1 [[47],[47,97],[47,97,47,98],[47,98]] 4 (by simp) (by simp) (by simp);refine⟨c2,⟨1,s,[],t⟩,(by simp[aW];omega),?_⟩;simp at u2;rw[ay (b:=sC) (rs:=_) (n:=2) rfl rfl];simp -implicitDefEqProofs [sC,u1,u2,cX,cP,cV]
 by_cases g1:k=1;·subst g1;obtain⟨c2,s,hs,u2⟩:=fy c1 [[47],[47,97],[47,98,47,99]] 4 (by simp) (by simp) (by simp);refine⟨c2,⟨2,s,[],t⟩,(by simp[aW];omega),?_⟩;simp at u2;rw[ay (b:=sC) (rs:=_) (n:=2) rfl rfl];simp -implicitDefEqProofs [sC,u1,u2,cX,cP,cV]
 ·obtain⟨c2,s,hs,u2⟩:=fy c1 [[101,116,97,103],[120,45,97]] 4 (by simp) (by simp) (by simp);obtain⟨c3,s3,hs3,u3⟩:=fy c2 [[97],[98],[49]] 4 (by simp) (by simp) (by simp);refine⟨c3,⟨3,s,s3,t⟩,(by simp[aW];omega),?_⟩;simp at u2 u3;rw[ay (b:=sC) (rs:=_) (n:=2) rfl rfl];simp -implicitDefEqProofs [sC,u1,u2,u3,g0,g1,cX,cP,cV]
def ah4(c:bp):∃(c':bp) (b:Bn),aW b<=200/\ev LI TT 146 [.ptr .own (aR c)]=some (.agg (bK b),[.ptr .own (aR c')]):=by
 obtain⟨c1,k1,_,_,u1⟩:=jI c 40 (by omega) (by omega);obtain⟨c2,⟨kd,a,b,t⟩,hb,u2⟩:=Tp c1 k1;obtain⟨c3,k,h1,h2,u3⟩:=jI c2 15 (by omega) (by omega);simp at u2;simp only[aW] at hb;by_cases g0:k=0;·subst g0;obtain⟨c4,n,h4,h5,u4⟩:=jI c3 6 (by omega) (by omega);have hw:IntKind.i64.wrap (n - 1)=n - 1:=cJ (by omega) (by omega);refine⟨c4,⟨n - 1,a,b,t⟩,(by simp only[aW];omega),?_⟩;rw[ay (b:=mC) (rs:=_) (n:=1) rfl rfl];simp -implicitDefEqProofs [mC,u1,u2,u3,u4,hw]
 by_cases g1:k=1;·subst g1;obtain⟨c4,n,h4,u4⟩:=aii c3;refine⟨c4,⟨kd,a,b,n⟩,(by simp only[aW];omega),?_⟩;rw[ay (b:=mC) (rs:=_) (n:=1) rfl rfl];simp -implicitDefEqProofs [mC,u1,u2,u3,u4]
 by_cases g2:k=2;·subst g2;obtain⟨c4,x,hx,u4⟩:=fy c3 [[],[65],[47,32]] 2 (by simp) (by simp) (by simp);simp at u4;refine⟨c4,⟨kd,x,b,t⟩,(by simp only[aW];omega),?_⟩;rw[ay (b:=mC) (rs:=_) (n:=1) rfl rfl];simp -implicitDefEqProofs [mC,u1,u2,u3,u4,cX,cP,cV]
 by_cases g3:k=3;·subst g3;obtain⟨c4,x,hx,u4⟩:=fy c3 [[],[113],[32,113]] 2 (by simp) (by simp) (by simp);simp at u4;refine⟨c4,⟨kd,a,x,t⟩,(by simp only[aW];omega),?_⟩;rw[ay (b:=mC) (rs:=_) (n:=1) rfl rfl];simp -implicitDefEqProofs [mC,u1,u2,u3,u4,cX,cP,cV]
 refine⟨c3,⟨kd,a,b,t⟩,(by simp only[aW];omega),?_⟩;rw[ay (b:=mC) (rs:=_) (n:=1) rfl rfl];simp -implicitDefEqProofs [mC,u1,u2,u3,g0,g1,g2,g3]
end M
set_option maxHeartbeats 4000000
namespace M
open Go
variable [Lb]
def Cq:List ag:=[[32],[44],[97],[90],[55],[45],[61],[120],[58],[1],[64],[91]]
def afq(k:Nat)(h:k<12):∃b,Cq.getD k []=[b]:=by
 have:k=0\/k=1\/k=2\/k=3\/k=4\/k=5\/k=6\/k=7\/k=8\/k=9\/k=10\/k=11:=by omega
 rcases this with rfl|rfl|rfl|rfl|rfl|rfl|rfl|rfl|rfl|rfl|rfl|rfl<;>exact⟨_,rfl⟩
def aic(c:bp):∃(c':bp) (t:ag),t.length<=100/\ev LI TT 228 [.ptr .own (aR c)]=some (.str ⟨t.toArray⟩,[.ptr .own (aR c')]):=by
 obtain⟨⟨⟨c',i⟩,out⟩,⟨hs,hi⟩,e⟩:=acs (f:=aj (ev LI TT) (av TT) Gm)
  (λ(g:(bp×Nat)×ag)=>[(0,.aB 100000 [] 0 0),(3,.row .own 1 (g.2.map eU)),(4,.int .i64 g.1.2),(100000,.ptr .own (aR g.1.1))])
  (λg=>200 - g.1.2) (λg=>g.2.length=g.1.2/\g.1.2<=20)
  (λg=>[(0,.aB 100000 [] 0 0),(3,.row .own 1 (g.2.map eU)),(4,.int .i64 g.1.2),(9,.bool false),(100000,.ptr .own (aR g.1.1))])
  (λg hg=>by
   obtain⟨⟨c,i⟩,out⟩:=g;obtain⟨h1,h2⟩:=hg;simp only at h1 h2;have b:=tn c 14 (by omega) (by omega);have e1:=yV c 14 (by omega);obtain⟨v,hv⟩:∃v,ku c 14=v:=⟨_,rfl⟩;rw[hv] at e1 b;have e2:=N4 (iZ c 14) Cq (by decide) (by decide);have b2:=tn (iZ c 14) 12 (by omega) (by omega);obtain⟨x,hx⟩:=afq (ku (iZ c 14) 12).toNat (by omega);have e3:(ku (iZ c 14) Cq.length)=ku (iZ c 14) 12:=rfl;have e4:(iZ (iZ c 14) Cq.length)=iZ (iZ c 14) 12:=rfl;rw[e3,e4,hx] at e2;simp[Cq] at e2;by_cases h:(i:Int)<v;·right;have hw:=bz i (by omega);refine⟨((iZ (iZ c 14) 12,i+1),out++[x]),⟨by simp[h1],by simp only;omega⟩,by simp only;omega,?_⟩;simp -implicitDefEqProofs [Gm,LP,e1,e2,h,hw,cE,h1,(by omega:i+1<=140737488355328)]
   ·left;refine⟨((iZ c 14,i),out),⟨h1,h2⟩,?_⟩;simp -implicitDefEqProofs [Gm,LP,e1,h])
  ((c,0),[]) ⟨rfl,by simp⟩
 refine⟨c',out,by simp only at hs hi;omega,?_⟩;rw[ay (b:=Gn) (rs:=[.t 2]) (n:=1) rfl rfl];have hu:qE (out.map eU)=some out:=Mh out;simp only at hs hi;simp at e;simp -implicitDefEqProofs [Gn,e,hu,(by omega:out.length<=9223372036854775807)]
end M
set_option maxHeartbeats 4000000
namespace M
open Go
variable [Lb]
def AP{xt:Nat}{γ:Type}{f:ah->cB}(st:γ->ah)(μ:γ->Nat)(Inv:γ->Prop)(E:γ->ah)
  (h:∀g,Inv g->(∃g',Inv g'/\f (st g)=some (.exit xt,E g'))\/∃g',Inv g'/\μ g'<μ g/\f (st g)=some (.normal,st g'))(g:γ)(hg:Inv g):∃g',Inv g'/\aH f (st g)=some (.exit xt,E g'):=by
 suffices H:∀n g,μ g=n->Inv g->∃g',Inv g'/\aH f (st g)=some (.exit xt,E g') from H _ g rfl hg
 intro n;induction n using Nat.strongRecOn with
 |ind n ih=>
  intro g hn hI;rcases h g hI with ⟨g',h1,h2⟩|⟨g',h1,h2,h3⟩;·exact⟨g',h1,by rw[dH,h2];rfl⟩
  ·obtain⟨g2,h4,h5⟩:=ih _ (by omega) g' rfl h1;exact⟨g2,h4,by rw[dH,h3];exact h5⟩
def Th{l:List aE}{m:Nat}(h:∀f∈l,aJ f<=100)(hl:l.length<=m):wL aJ l<=m*101:=by
 have:wL aJ l<=l.length*101:=by
  clear hl;induction l with
  |nil=>simp[wL]
  |cons a l ih=>have h1:=ih λf hf=>h f (cz _ hf);have h2:=h a bE;simp only[wL,cG,aY,oR] at h1⊢;omega
 have:l.length*101<=m*101:=nR _ hl;omega
def aie(c:bp):∃(c':bp) (f:aE),aJ f<=100/\ev LI TT 224 [.ptr .own (aR c)]=some (.agg (aK f),[.ptr .own (aR c')]):=by
 obtain⟨c1,k,h1,h2,u1⟩:=jI c 9 (by omega) (by omega);by_cases g0:k=0;·subst g0;obtain⟨c2,s,hs,u2⟩:=fy c1 [[109,97,120,45,97,103,101,61,53],[109,97,120,45,97,103,101,61,50,48],[110,111,45,115,116,111,114,101],[110,111,45,99,97,99,104,101],[112,114,105,118,97,116,101],[109,97,120,45,97,103,101,61,57,44,32,109,117,115,116,45,114,101,118,97,108,105,100,97,116,101],[109,97,120,45,97,103,101,61,120],[77,65,88,45,65,71,69,61,51]] 30 (by simp) (by simp) (by simp);refine⟨c2,⟨[99,97,99,104,101,45,99,111,110,116,114,111,108],s⟩,(by simp[aJ];omega),?_⟩;simp at u2;rw[ay (b:=iP) (rs:=_) (n:=1) rfl rfl];simp -implicitDefEqProofs [iP,u1,u2,cX,cP,cV]
 by_cases g1:k=1;·subst g1;obtain⟨c2,s,hs,u2⟩:=fy c1 [[97],[98]] 30 (by simp) (by simp) (by simp);refine⟨c2,⟨[101,116,97,103],s⟩,(by simp[aJ];omega),?_⟩;simp at u2;rw[ay (b:=iP) (rs:=_) (n:=1) rfl rfl];simp -implicitDefEqProofs [iP,u1,u2,cX,cP,cV]
 by_cases g2:k=2;·subst g2;obtain⟨c2,s,hs,u2⟩:=fy c1 [[108,97,110,103],[108,97,110,103,44,32,107,105,110,100],[42]] 30 (by simp) (by simp) (by simp);refine⟨c2,⟨[118,97,114,121],s⟩,(by simp[aJ];omega),?_⟩;simp at u2;rw[ay (b:=iP) (rs:=_) (n:=1) rfl rfl];simp -implicitDefEqProofs [iP,u1,u2,cX,cP,cV]
 by_cases g3:k=3;·subst g3;obtain⟨c2,s,hs,u2⟩:=fy c1 [[100,101],[101,110]] 30 (by simp) (by simp) (by simp);refine⟨c2,⟨[108,97,110,103],s⟩,(by simp[aJ];omega),?_⟩;simp at u2;rw[ay (b:=iP) (rs:=_) (n:=1) rfl rfl];simp -implicitDefEqProofs [iP,u1,u2,cX,cP,cV]
 by_cases g4:k=4;·subst g4;obtain⟨c2,s,hs,u2⟩:=fy c1 [[120],[121]] 30 (by simp) (by simp) (by simp);refine⟨c2,⟨[107,105,110,100],s⟩,(by simp[aJ];omega),?_⟩;simp at u2;rw[ay (b:=iP) (rs:=_) (n:=1) rfl rfl];simp -implicitDefEqProofs [iP,u1,u2,cX,cP,cV]
 by_cases g5:k=5;·subst g5;obtain⟨c2,s,hs,u2⟩:=fy c1 [[48],[51],[57,48],[120]] 30 (by simp) (by simp) (by simp);refine⟨c2,⟨[97,103,101],s⟩,(by simp[aJ];omega),?_⟩;simp at u2;rw[ay (b:=iP) (rs:=_) (n:=1) rfl rfl];simp -implicitDefEqProofs [iP,u1,u2,cX,cP,cV]
 by_cases g6:k=6;·subst g6;obtain⟨c2,s,hs,u2⟩:=fy c1 [[97],[98]] 30 (by simp) (by simp) (by simp);refine⟨c2,⟨[105,102,45,110,111,110,101,45,109,97,116,99,104],s⟩,(by simp[aJ];omega),?_⟩;simp at u2;rw[ay (b:=iP) (rs:=_) (n:=1) rfl rfl];simp -implicitDefEqProofs [iP,u1,u2,cX,cP,cV]
 ·obtain⟨c2,s,hs,u2⟩:=fy c1 [[120,45,97],[120,45,98],[100,97,116,101]] 30 (by simp) (by simp) (by simp);obtain⟨c3,v,hv,u3⟩:=fy c2 [[49],[116,119,111,32,119,111,114,100,115],[113]] 30 (by simp) (by simp) (by simp);refine⟨c3,⟨s,v⟩,(by simp[aJ];omega),?_⟩;simp at u2 u3;rw[ay (b:=iP) (rs:=_) (n:=1) rfl rfl];simp -implicitDefEqProofs [iP,u1,u2,u3,g0,g1,g2,g3,g4,g5,g6,cX,cP,cV]
def aif(c:bp):∃(c':bp) (fs:List aE),fs.length<=5/\(∀f∈fs,aJ f<=100)/\ev LI TT 223 [.ptr .own (aR c)]=some (.row .own 2 (fs.map aK),[.ptr .own (aR c')]):=by
 obtain⟨⟨⟨c',i⟩,out⟩,⟨h1,h2,h3⟩,e⟩:=AP (xt:=0) (f:=aj (ev LI TT) (av TT) Cb)
  (λ(g:(bp×Nat)×List aE)=>[(0,.aB 100000 [] 0 0),(3,.row .own 2 (g.2.map aK)),(4,.int .i64 g.1.2),(100000,.ptr .own (aR g.1.1))])
  (λg=>20 - g.1.2) (λg=>g.2.length<=g.1.2/\g.1.2<=5/\∀f∈g.2,aJ f<=100)
  (λg=>[(0,.aB 100000 [] 0 0),(3,.row .own 2 (g.2.map aK)),(4,.int .i64 g.1.2),(10,.bool false),(100000,.ptr .own (aR g.1.1))])
  (λg hg=>by
   obtain⟨⟨c,i⟩,out⟩:=g;obtain⟨h1,h2,h3⟩:=hg;simp only at h1 h2 h3;obtain⟨c1,v,hv0,hv,e1⟩:=jI c 5 (by omega) (by omega);by_cases h:(i:Int)<v
   ·right;have hw:=bz i (by omega);obtain⟨c2,f,hf,e2⟩:=aie c1;have e3:=vu out f.name (by omega);try simp at e2
    try simp at e3
    have h8:(out.length+1)*32<=140737488355328:=by omega
    by_cases ha:fU (e9 out f.name)<0
    ·refine⟨((c2,i+1),out++[f]),⟨by simp;omega,by simp only;omega,λx hx=>?_⟩,by simp only;omega,?_⟩
     ·rcases dX.1 hx with hx|hx;·exact h3 x hx
      ·simp at hx;rw[hx];exact hf
     ·simp -implicitDefEqProofs [Cb,Gx,e1,e2,e3,h,hw,ha,cE,h8]
    ·refine⟨((c2,i+1),out),⟨by simp only;omega,by simp only;omega,h3⟩,by simp only;omega,?_⟩;simp -implicitDefEqProofs [Cb,Gx,e1,e2,e3,h,hw,ha,cE,h8]
   ·left;refine⟨((c1,i),out),⟨h1,h2,h3⟩,?_⟩;simp -implicitDefEqProofs [Cb,Gx,e1,h])
  ((c,0),[]) ⟨by simp,by simp,by simp⟩
 refine⟨c',out,by simp only at h1 h2;omega,h3,?_⟩;rw[ay (b:=Gy) (rs:=_) (n:=1) rfl rfl];simp at e;simp -implicitDefEqProofs [Gy,e]
def Tq(c:bp):∃(c':bp) (t:ag),t.length<=100/\ev LI TT 165 [.ptr .own (aR c)]=some (.str ⟨t.toArray⟩,[.ptr .own (aR c')]):=by
 obtain⟨c1,b,u1⟩:=Cw c 2 (by omega);cases b
 ·obtain⟨c2,t,ht,u2⟩:=aic c1;refine⟨c2,t,ht,?_⟩;try simp at u2
  rw[ay (b:=xN) (rs:=_) (n:=1) rfl rfl];simp -implicitDefEqProofs [xN,u1,u2]
 ·obtain⟨c2,t,ht,u2⟩:=fy c1 [[],[104,101,108,108,111],[13,10,13,10],[97,0,98],[111,110,101,32,116,119,111]] 100 (by simp) (by simp) (by simp);refine⟨c2,t,ht,?_⟩;simp at u2;rw[ay (b:=xN) (rs:=_) (n:=1) rfl rfl];simp -implicitDefEqProofs [xN,u1,u2,cX,cP,cV]
def aih(c:bp):∃(c':bp) (r:cg),ct r<=2000/\bI r.status/\ev LI TT 198 [.ptr .own (aR c)]=some (.agg (jv .own r),[.ptr .own (aR c')]):=by
 obtain⟨c1,st,hst,u1⟩:=yl c [200,200,200,200,404,500,304] (by simp) (by simp);obtain⟨c2,fs,h1,h2,u2⟩:=aif c1;obtain⟨c3,t,ht,u3⟩:=Tq c2;obtain⟨c4,b,u4⟩:=Cw c3 2 (by omega);have hw:=Th h2 h1;have hs:bI st:=by unfold bI;simp at hst;omega
 try simp at u1
 try simp at u2
 try simp at u3
 cases b;·refine⟨c4,⟨st,fs,t⟩,by simp only[ct];omega,hs,?_⟩;rw[ay (b:=xP) (rs:=_) (n:=1) rfl rfl];simp -implicitDefEqProofs [xP,u1,u2,u3,u4,cX,cP,cV]
 ·obtain⟨c5,v,hv,u5⟩:=fy c4 [[109,97,120,45,97,103,101,61,53],[109,97,120,45,97,103,101,61,50,48],[109,97,120,45,97,103,101,61,57]] 30 (by simp) (by simp) (by simp);have u6:=NT fs [99,97,99,104,101,45,99,111,110,116,114,111,108] v (by omega);have hp:=RW fs [99,97,99,104,101,45,99,111,110,116,114,111,108] v;refine⟨c5,⟨st,sg fs [99,97,99,104,101,45,99,111,110,116,114,111,108] v,t⟩,?_,hs,?_⟩;·simp only[ct];simp at hp;omega
  ·simp at u5;try simp at u6
   rw[ay (b:=xP) (rs:=_) (n:=1) rfl rfl];simp -implicitDefEqProofs [xP,LR,LS,u1,u2,u3,u4,u5,u6,cX,cP,cV]
end M
set_option maxHeartbeats 8000000
namespace M
open Go
variable [Lb]
def Ts(c:bp):∃(c':bp) (q:Rq),eV q<=2000/\bI q.method/\ev LI TT 75 [.ptr .own (aR c)]=some (.agg (dw .own q),[.ptr .own (aR c')]):=by
 obtain⟨c1,m,hm,u1⟩:=yl c [1,1,1,1,2,3,4] (by simp) (by simp);obtain⟨c2,p,hp,u2⟩:=fy c1 [[47],[47,97],[47,97,47,98],[47,98]] 10 (by simp) (by simp) (by simp);have Qc:bI m:=by unfold bI;simp at hm;omega
 obtain⟨⟨⟨c3,i⟩,out⟩,⟨h1,h2,h3⟩,e⟩:=AP (xt:=0) (f:=aj (ev LI TT) (av TT) sI)
  (λ(g:(bp×Nat)×List aE)=>[(0,.aB 100000 [] 0 0),(2,.ptr .own [.int .i64 0,.str ⟨#[]⟩,.row .own 2 [],.str ⟨#[]⟩]),(3,.ptr .own (dw .own ⟨m,p,g.2,[]⟩)),(4,.int .i64 g.1.2),(100000,.ptr .own (aR g.1.1))])
  (λg=>20 - g.1.2) (λg=>g.2.length<=g.1.2/\g.1.2<=4/\∀f∈g.2,aJ f<=100)
  (λg=>[(0,.aB 100000 [] 0 0),(2,.ptr .own [.int .i64 0,.str ⟨#[]⟩,.row .own 2 [],.str ⟨#[]⟩]),(3,.ptr .own (dw .own ⟨m,p,g.2,[]⟩)),(4,.int .i64 g.1.2),(17,.bool false),(100000,.ptr .own (aR g.1.1))])
  (λg hg=>by
   obtain⟨⟨c,i⟩,out⟩:=g;obtain⟨h1,h2,h3⟩:=hg;simp only at h1 h2 h3;obtain⟨c1,v,hv0,hv,e1⟩:=jI c 4 (by omega) (by omega);by_cases h:(i:Int)<v
   ·right;have hw:=bz i (by omega);obtain⟨c2,f,hf,e2⟩:=fy c1 [[108,97,110,103],[107,105,110,100],[99,97,99,104,101,45,99,111,110,116,114,111,108],[105,102,45,110,111,110,101,45,109,97,116,99,104],[120,45,97]] 20 (by simp) (by simp) (by simp);have e3:=vu out f (by omega);simp at e2;try simp at e3
    have h8:(out.length+1)*32<=140737488355328:=by omega
    by_cases ha:fU (e9 out f)<0
    ·obtain⟨c3,w,fH,e4⟩:=fy c2 [[100,101],[101,110]] 20 (by simp) (by simp) (by simp);simp at e4;by_cases g1:f=[107,105,110,100]
     ·obtain⟨c4,w2,z8,e5⟩:=fy c3 [[120],[121]] 20 (by simp) (by simp) (by simp);simp at e5;subst g1;refine⟨((c4,i+1),out++[⟨[107,105,110,100],w2⟩]),⟨by simp;omega,by simp only;omega,λx hx=>?_⟩,by simp only;omega,?_⟩
      ·rcases dX.1 hx with hx|hx;·exact h3 x hx
       ·simp at hx;rw[hx];simp[aJ];omega
      ·simp -implicitDefEqProofs [sI,uP,e1,e2,e3,e4,e5,h,hw,ha,cE,h8,cX,cP,cV]
     by_cases g2:f=[99,97,99,104,101,45,99,111,110,116,114,111,108]
     ·obtain⟨c4,w2,z8,e5⟩:=fy c3 [[110,111,45,99,97,99,104,101],[110,111,45,115,116,111,114,101],[109,97,120,45,97,103,101,61,51]] 20 (by simp) (by simp) (by simp);simp at e5;subst g2;refine⟨((c4,i+1),out++[⟨[99,97,99,104,101,45,99,111,110,116,114,111,108],w2⟩]),⟨by simp;omega,by simp only;omega,λx hx=>?_⟩,by simp only;omega,?_⟩
      ·rcases dX.1 hx with hx|hx;·exact h3 x hx
       ·simp at hx;rw[hx];simp[aJ];omega
      ·simp -implicitDefEqProofs [sI,uP,e1,e2,e3,e4,e5,h,hw,ha,cE,h8,cX,cP,cV]
     by_cases g3:f=[105,102,45,110,111,110,101,45,109,97,116,99,104]
     ·obtain⟨c4,w2,z8,e5⟩:=fy c3 [[97],[98]] 20 (by simp) (by simp) (by simp);simp at e5;subst g3;refine⟨((c4,i+1),out++[⟨[105,102,45,110,111,110,101,45,109,97,116,99,104],w2⟩]),⟨by simp;omega,by simp only;omega,λx hx=>?_⟩,by simp only;omega,?_⟩
      ·rcases dX.1 hx with hx|hx;·exact h3 x hx
       ·simp at hx;rw[hx];simp[aJ];omega
      ·simp -implicitDefEqProofs [sI,uP,e1,e2,e3,e4,e5,h,hw,ha,cE,h8,cX,cP,cV]
     ·refine⟨((c3,i+1),out++[⟨f,w⟩]),⟨by simp;omega,by simp only;omega,λx hx=>?_⟩,by simp only;omega,?_⟩
      ·rcases dX.1 hx with hx|hx;·exact h3 x hx
       ·simp at hx;rw[hx];simp[aJ];omega
      ·simp -implicitDefEqProofs [sI,uP,e1,e2,e3,e4,h,hw,ha,cE,h8,cX,cP,cV,g1,g2,g3]
    ·refine⟨((c2,i+1),out),⟨by simp only;omega,by simp only;omega,h3⟩,by simp only;omega,?_⟩;simp -implicitDefEqProofs [sI,uP,e1,e2,e3,h,hw,ha,cE,h8,cX,cP,cV]
   ·left;refine⟨((c1,i),out),⟨h1,h2,h3⟩,?_⟩;simp -implicitDefEqProofs [sI,uP,e1,h])
  ((c2,0),[]) ⟨by simp,by simp,by simp⟩
 simp only at h1 h2 h3;have hwf:=Th (m:=4) h3 (by omega);try simp at u1
 try simp at u2
 try simp at e
 by_cases g3:m=3
 ·obtain⟨c4,t,ht,u4⟩:=Tq c3;refine⟨c4,⟨m,p,out,t⟩,by simp only[eV];omega,Qc,?_⟩;try simp at u4
  rw[ay (b:=xO) (rs:=_) (n:=1) rfl rfl];simp -implicitDefEqProofs [xO,u1,u2,e,u4,eq_true g3,cX,cP,cV]
 ·refine⟨c3,⟨m,p,out,[]⟩,by simp only[eV];simp;omega,Qc,?_⟩;rw[ay (b:=xO) (rs:=_) (n:=1) rfl rfl];simp -implicitDefEqProofs [xO,u1,u2,e,g3,cX,cP,cV]
def ri(fs:List aE)(n:ag):List aE:=(foldI (λi (g:List aE) b=>if ((i:Nat):Int)=fU (e9 fs n) then g else g++[b]) 0 fs [])
def IE(a:Int):∀(fs:List aE) (i:Nat) (g:List aE),wL aJ (foldI (λi (g:List aE) b=>if ((i:Nat):Int)=a then g else g++[b]) i fs g)<=wL aJ g+wL aJ fs/\(foldI (λi (g:List aE) b=>if ((i:Nat):Int)=a then g else g++[b]) i fs g).length<=g.length+fs.length
 |[],i,g=>by simp[foldI,wL]
 |f::fs,i,g=>by
  simp only[foldI];have h:=IE a fs (i+1) (if ((i:Nat):Int)=a then g else g++[f]);split at h
  ·rename_i hh;rw[az hh];refine⟨iT h.1 ?_,iT h.2 ?_⟩;·simp only[wL,cG,aY,oR];omega
   ·simp only[cG];omega
  ·rename_i hh;rw[aC hh];refine⟨iT h.1 ?_,iT h.2 ?_⟩;·simp only[wL,cG,aY,oR,fE,iA,ym,gH,gi,Hx];omega
   ·simp only[cG,fE,gH];omega
def OL(fs:List aE)(n:ag):wL aJ (ri fs n)<=wL aJ fs:=by have:=(IE (fU (e9 fs n)) fs 0 []).1;unfold ri;simp[wL] at this⊢;exact this
def Xl(fs:List aE)(n:ag):(ri fs n).length<=fs.length:=by have:=(IE (fU (e9 fs n)) fs 0 []).2;unfold ri;simpa using this
def Ul(fs:List aE)(a:Int)(hb:fs.length<=1000000)(g:List aE)(hinv:g.length<=0):aH (aj (ev LI TT) (av TT) w8) [(0,.row .af 2 (fs.map aK)),(5,.int .i64 a),(6,.row .own 2 (g.map aK)),(7,.int .i64 0)]=some (.exit 0,[(0,.row .af 2 (fs.map aK)),(5,.int .i64 a),(6,.row .own 2 ((foldI (λi g b=>if ((i:Nat):Int)=a then g else g++[b]) 0 (fs) g).map aK)),(7,.int .i64 (fs).length),(15,.bool false)]):=by
 refine kK (f:=aj (ev LI TT) (av TT) w8) (fs) (λi (g:List aE)=>[(0,.row .af 2 (fs.map aK)),(5,.int .i64 a),(6,.row .own 2 (g.map aK)),(7,.int .i64 i)]) (λi g b=>if ((i:Nat):Int)=a then g else g++[b]) (λg=>[(0,.row .af 2 (fs.map aK)),(5,.int .i64 a),(6,.row .own 2 (g.map aK)),(7,.int .i64 (fs).length),(15,.bool false)]) (λi (g:List aE)=>g.length<=i) g hinv (λi b g hi hl hinv=>?_) (λi b g hi hinv=>?_) (λg hinv=>?_)
 ·have hw:=bz i (by first|omega|(simp at hl;omega));obtain⟨_,rfl⟩:=aN.1 hi;have h8:(g.length+1)*32<=140737488355328:=by omega
  by_cases ha:((i:Nat):Int)=a;·subst ha;simp -implicitDefEqProofs [w8,FB,hl,hw]
  simp -implicitDefEqProofs [w8,FB,hl,hw,ha,cE,h8];all_goals (repeat' split)<;>first|rfl|omega|(simp_all;done)|(simp_all;omega)|skip
 ·split<;>(try simp)<;>omega
 ·simp -implicitDefEqProofs [w8,FB]
def NP(fs:List aE)(n:ag)(hb:fs.length<=1000000):ev LI TT 199 [.row .af 2 (fs.map aK),.str ⟨n.toArray⟩]=some (.row .own 2 ((ri fs n).map aK),[.dead,.dead]):=by
 rw[ay (b:=FC) (rs:=[.t 4]) (n:=2) rfl rfl];unfold ri;have u1:=vu fs n (by omega);try simp at u1
 have u2:=Ul fs (fU (e9 fs n)) hb [] (by simp);try simp at u2
 simp -implicitDefEqProofs [FC,u1,u2];all_goals (repeat' split)<;>first|rfl|omega|(simp_all;done)|(simp_all;omega)|skip
end M
set_option maxHeartbeats 8000000
namespace M
open Go
variable [Lb]
end M
namespace M
open Go
variable [Lb]
def Ux(s:Sh)(hb:bC s<=1073741824):aH (aj (ev LI TT) (av TT) BH) [(1,.ptr .own (aO .af s)),(3,.int .i64 0)]=if bq dP (s.aF)=true then some (.exit 0,[(1,.ptr .own (aO .af s)),(3,.int .i64 (s.aF).length),(33,.bool false)]) else some (.ret,[(2,.bool false)]):=by
 refine gy (f:=aj (ev LI TT) (av TT) BH) (s.aF) (λi=>[(1,.ptr .own (aO .af s)),(3,.int .i64 i)]) dP _ _ (λi b hi hl=>?_) ?_
 ·have hw:=bz i (by have dM:bC s=bU s.aG+wL bH s.ai+wL aW s.aF:=rfl;have:=bx (w:=aW) s.aF;omega);obtain⟨_,rfl⟩:=aN.1 hi;have dM:bC s=bU s.aG+wL bH s.ai+wL aW s.aF:=rfl;have hm:=Hh (cI hl);have u1:=Db s.aF[i] (by omega);try simp at u1
  simp -implicitDefEqProofs [BH,Lh,hl,hw,u1];all_goals (repeat' split)<;>first|rfl|omega|(simp_all;done)|(simp_all;omega)|skip
 ·simp -implicitDefEqProofs [BH,Lh]
def Uy(s:Sh)(n:Nat)(k:Kp)(hn:n<=s.ai.length)(hb:s.ai.length<=1073741824):aH (aj (ev LI TT) (av TT) BI) [(1,.ptr .own (aO .af s)),(4,.int .i64 n),(5,.ptr .own (aM .af k)),(6,.int .i64 0)]=if bq (λy=>decide ¬y.at_=k.at_) (s.ai.take n)=true then some (.exit 4,[(1,.ptr .own (aO .af s)),(4,.int .i64 n),(5,.ptr .own (aM .af k)),(6,.int .i64 (s.ai.take n).length),(92,.bool false)]) else some (.ret,[(2,.bool false)]):=by
 refine gy (f:=aj (ev LI TT) (av TT) BI) (s.ai.take n) (λi=>[(1,.ptr .own (aO .af s)),(4,.int .i64 n),(5,.ptr .own (aM .af k)),(6,.int .i64 i)]) (λy=>decide ¬y.at_=k.at_) _ _ (λi b hi hl=>?_) ?_
 ·have hw:=bz i (by first|omega|(simp at hl;omega));obtain⟨_,rfl⟩:=aN.1 hi;have h1:i<n:=by simp at hl;omega
  have h2:i<s.ai.length:=by omega
  simp -implicitDefEqProofs [BI,Li,hl,hw,h1,h2];all_goals (repeat' split)<;>first|rfl|omega|(simp_all;done)|(simp_all;omega)|skip
 ·have hmin:min n s.ai.length=n:=by omega
  simp -implicitDefEqProofs [BI,Li,hmin]
def Uz(s:Sh)(hb:bC s<=1073741824)(hs:1<=s.seq/\s.seq<=100000):aH (aj (ev LI TT) (av TT) mB) [(1,.ptr .own (aO .af s)),(4,.int .i64 0)]=if bq (lC s.seq s.ai) (s.ai.zipIdx)=true then some (.exit 2,[(1,.ptr .own (aO .af s)),(4,.int .i64 (s.ai.zipIdx).length),(47,.bool false)]) else some (.ret,[(2,.bool false)]):=by
 refine gy (f:=aj (ev LI TT) (av TT) mB) (s.ai.zipIdx) (λi=>[(1,.ptr .own (aO .af s)),(4,.int .i64 i)]) (lC s.seq s.ai) _ _ (λi b hi hl=>?_) ?_
 ·have hw:=bz i (by have dM:bC s=bU s.aG+wL bH s.ai+wL aW s.aF:=rfl;have:=bx (w:=bH) s.ai;simp at hl;omega);obtain⟨_,rfl⟩:=aN.1 hi;simp only[HJ] at hl;have dM:bC s=bU s.aG+wL bH s.ai+wL aW s.aF:=rfl;have hlen:=bx (w:=bH) s.ai;have hz:s.ai.zipIdx[i]'(by simpa using hl)=(s.ai[i],i):=by simp
  have hm:=sO (cI hl);have hS:IntKind.i64.wrap (s.seq - 1)=s.seq - 1:=cJ (by omega) (by omega);rw[hz];have hmin:min i s.ai.length=i:=by omega
  have u1:=yS s.ai[i].obj (by omega);try simp at u1
  have u2:=Uy s i s.ai[i] (by omega) (by omega);try simp at u2
  by_cases g1:dn (s.ai[i]).obj=true;rotate_left;·simp -implicitDefEqProofs [mB,oK,hl,hw,u1,u2,lC,hS,hmin,g1]
  by_cases g2:5<=(s.ai[i]).at_;rotate_left;·simp -implicitDefEqProofs [mB,oK,hl,hw,u1,u2,lC,hS,hmin,g1,eq_false g2]
  by_cases g3:(s.ai[i]).at_<=19;rotate_left;·simp -implicitDefEqProofs [mB,oK,hl,hw,u1,u2,lC,hS,hmin,g1,eq_true g2,eq_false g3]
  by_cases g4:1<=(s.ai[i]).seq;rotate_left;·simp -implicitDefEqProofs [mB,oK,hl,hw,u1,u2,lC,hS,hmin,g1,eq_true g2,eq_true g3,eq_false g4]
  by_cases g5:(s.ai[i]).seq<=s.seq - 1;rotate_left;·simp -implicitDefEqProofs [mB,oK,hl,hw,u1,u2,lC,hS,hmin,g1,eq_true g2,eq_true g3,eq_true g4,eq_false g5]
  by_cases g6:i=0
  ·subst g6;try simp at u2 hw
   simp -implicitDefEqProofs [mB,oK,hl,hw,u1,u2,lC,hS,hmin,g1,eq_true g2,eq_true g3,eq_true g4,eq_true g5]
  obtain⟨j,rfl⟩:∃j,i=j+1:=⟨i - 1,by omega⟩;have hj:j<s.ai.length:=by omega
  have hJ:IntKind.i64.wrap (j:Int)=j:=cJ (by omega) (by omega);have hp:=Bf s.ai j hj;try simp at u2 hw hS
  have hpos:(0:Int)<(j:Int)+1:=by omega
  have hlc:(j:Int)+1<s.ai.length:=by omega
  have fW:(0:Int)<=(j:Int)+1:=by omega
  by_cases g7:(s.ai[j]).seq<(s.ai[j+1]).seq;rotate_left
  ·have I5:(s.ai[j+1]).seq<=(s.ai[j]).seq:=by omega
   simp -implicitDefEqProofs [mB,oK,hl,hw,u1,u2,lC,hS,hmin,g1,eq_true g2,eq_true g3,eq_true g4,eq_true g5,hj,hJ,hp,hpos,hlc,fW,eq_false g7,eq_true I5]
  have I5:¬(s.ai[j+1]).seq<=(s.ai[j]).seq:=by omega
  simp -implicitDefEqProofs [mB,oK,hl,hw,u1,u2,lC,hS,hmin,g1,eq_true g2,eq_true g3,eq_true g4,eq_true g5,hj,hJ,hp,hpos,hlc,fW,eq_true g7,eq_false I5];all_goals (repeat' split)<;>first|rfl|omega|(simp_all;done)|(simp_all;omega)|skip
 ·simp -implicitDefEqProofs [mB,oK]
def yT(s:Sh)(hb:bC s<=1073741824):ev LI TT 28 [.agg (aO .af s)]=some (.bool ((de s)),[.dead]):=by
 rw[ay (b:=oL) (rs:=[.t 2]) (n:=1) rfl rfl];have dM:bC s=bU s.aG+wL bH s.ai+wL aW s.aF:=rfl;have JN:bU s.aG=wL wS s.aG.cells+wL di s.aG.pending:=rfl;have hlen:=bx (w:=di) s.aG.pending;unfold de;have u1:=tq s.aG (by omega);try simp at u1
 have u2:=Ux s hb;try simp at u2
 by_cases g1:cO s.aG=true;rotate_left;·simp -implicitDefEqProofs [oL,u1,u2,g1]
 by_cases g2:(s.aF.length:Int)<=5;rotate_left;·simp -implicitDefEqProofs [oL,u1,u2,g1,eq_false g2]
 by_cases g3:5<=s.next
 rotate_left;·simp -implicitDefEqProofs [oL,u1,u2,g1,eq_true g2,eq_false g3]
 by_cases g4:s.next<=19
 rotate_left;·simp -implicitDefEqProofs [oL,u1,u2,g1,eq_true g2,eq_true g3,eq_false g4]
 by_cases g5:1<=s.seq;rotate_left;·simp -implicitDefEqProofs [oL,u1,u2,g1,eq_true g2,eq_true g3,eq_true g4,eq_false g5]
 by_cases g6:s.seq<=100000;rotate_left;·simp -implicitDefEqProofs [oL,u1,u2,g1,eq_true g2,eq_true g3,eq_true g4,eq_true g5,eq_false g6]
 have u3:=Uz s hb ⟨by omega,by omega⟩;rw[ab5] at u3;simp at u3;have jY:¬5<(s.aF.length:Int):=by omega
 simp -implicitDefEqProofs [oL,u1,u2,g1,eq_true g2,eq_true g3,eq_true g4,eq_true g5,eq_true g6,u3,jY];all_goals (repeat' split)<;>first|rfl|omega|(simp_all;done)|(simp_all;omega)|skip
end M
namespace M
open Go
variable [Lb]
def V9(x k:Kp):ev LI TT 185 [.agg (aM .af x),.ptr .af (aM .af k)]=some (.bool (decide (x.at_=k.at_)),[.dead,.dead]):=by rw[ay (b:=EC) (rs:=[.t 3]) (n:=2) rfl rfl];simp -implicitDefEqProofs [EC];all_goals (repeat' split)<;>first|rfl|omega|(simp_all;done)|(simp_all;omega)|skip
def U0(l:List Kp)(k:Kp)(gf:Nat)(p:Kp->Bool)(ho:av TT gf=true)(hf:∀x∈l,ev LI TT gf [.agg (aM .af x),.ptr .af (aM .af k)]=some (.bool (p x),[.dead,.dead]))(hb:l.length<=9223372036854775807):aH (aj (ev LI TT) (av TT) CC) [(0,.row .af 9 (l.map (aM .af))),(1,.fn gf [.ptr .af (aM .af k)]),(7,.int .i64 l.length),(8,.int .i64 0)]=(cU p 0 (l)).elim (some (.exit 0,[(0,.row .af 9 (l.map (aM .af))),(1,.fn gf [.ptr .af (aM .af k)]),(7,.int .i64 l.length),(8,.int .i64 (l).length),(9,.bool false)])) λx=>some (.ret,(λ(i:Nat) b=>[(4,.int .i64 i)]) x.1 x.2):=by
 refine tY (f:=aj (ev LI TT) (av TT) CC) (l) (λi=>[(0,.row .af 9 (l.map (aM .af))),(1,.fn gf [.ptr .af (aM .af k)]),(7,.int .i64 l.length),(8,.int .i64 i)]) p (λ(i:Nat) b=>[(4,.int .i64 i)]) _ (λi b hi hl=>?_) ?_
 ·have hw:=bz i (by first|omega|(simp at hl;omega));obtain⟨_,rfl⟩:=aN.1 hi;have u1:=hf l[i] (cI hl);try simp at u1
  simp -implicitDefEqProofs [CC,Mr,hl,hw,u1,ho,E0];all_goals (repeat' split)<;>first|rfl|omega|(simp_all;done)|(simp_all;omega)|skip
 ·simp -implicitDefEqProofs [CC,Mr]
def WR(l:List Kp)(k:Kp)(gf:Nat)(p:Kp->Bool)(ho:av TT gf=true)(hf:∀x∈l,ev LI TT gf [.agg (aM .af x),.ptr .af (aM .af k)]=some (.bool (p x),[.dead,.dead]))(hb:l.length<=9223372036854775807):ev LI TT 236 [.row .af 9 (l.map (aM .af)),.fn gf [.ptr .af (aM .af k)]]=some (.int .i64 ((cU p 0 l).elim (-1) λx=>(x.1:Int)),[.dead,.dead]):=by
 rw[ay (b:=CD) (rs:=[.t 4]) (n:=2) rfl rfl];have u1:=U0 l k gf p ho hf hb;try simp at u1
 cases g:cU p 0 l with
 |none=>rw[g] at u1;simp at u1;simp -implicitDefEqProofs [CD,u1]
 |some x=>
 rw[g] at u1;simp at u1;simp -implicitDefEqProofs [CD,u1];all_goals (repeat' split)<;>first|rfl|omega|(simp_all;done)|(simp_all;omega)|skip
def WN(l:List Kp)(k:Kp)(gf:Nat)(p:Kp->Bool)(ho:av TT gf=true)(hf:∀x∈l,ev LI TT gf [.agg (aM .af x),.ptr .af (aM .af k)]=some (.bool (p x),[.dead,.dead]))(hb:l.length<=9223372036854775807):ev LI TT 184 [.row .af 9 (l.map (aM .af)),.fn gf [.ptr .af (aM .af k)]]=some (.bool (!bq (λx=> !p x) l),[.dead,.dead]):=by
 rw[ay (b:=Cx) (rs:=[.t 4]) (n:=2) rfl rfl];have u1:=WR l k gf p ho hf hb;try simp at u1
 rw[<-Pj p l 0];cases g:cU p 0 l with
 |none=>rw[g] at u1;simp at u1;simp -implicitDefEqProofs [Cx,u1]
 |some x=>
 rw[g] at u1;simp at u1;simp -implicitDefEqProofs [Cx,u1];all_goals (repeat' split)<;>first|rfl|omega|(simp_all;done)|(simp_all;omega)|skip
def Uf(s:Sh)(hb:bC s<=1073741824):∃sl,aH (aj (ev LI TT) (av TT) nq) [(0,.ptr .af (aO .af s)),(3,.int .i64 0),(7,.ptr .af (aO .af s)),(8,.ptr .af (aO .af s)),(9,.ptr .af ((aO .af s).drop 2)),(10,.row .af 9 (s.ai.map (aM .af))),(11,.int .i64 s.ai.length),(12,.int .i64 0)]=if oz s.seq s.ai=true then some (.exit 0,sl) else some (.ret,[(2,.bool false)]):=by
 have dM:bC s=bU s.aG+wL bH s.ai+wL aW s.aF:=rfl;have hlen:=bx (w:=bH) s.ai;refine⟨_,gy (f:=aj (ev LI TT) (av TT) nq) s.ai.zipIdx (λi=>[(0,.ptr .af (aO .af s)),(3,.int .i64 (kg s.ai i)),(7,.ptr .af (aO .af s)),(8,.ptr .af (aO .af s)),(9,.ptr .af ((aO .af s).drop 2)),(10,.row .af 9 (s.ai.map (aM .af))),(11,.int .i64 s.ai.length),(12,.int .i64 i)]) (ow s.seq s.ai) [(2,.bool false)] [(0,.ptr .af (aO .af s)),(3,.int .i64 (kg s.ai s.ai.length)),(7,.ptr .af (aO .af s)),(8,.ptr .af (aO .af s)),(9,.ptr .af ((aO .af s).drop 2)),(10,.row .af 9 (s.ai.map (aM .af))),(11,.int .i64 s.ai.length),(12,.int .i64 s.ai.length),(13,.bool false)] (λi b hi hl=>?_) ?_⟩
 ·simp only[HJ] at hl;have hw:=bz i (by omega);obtain⟨_,rfl⟩:=aN.1 hi;have hz:s.ai.zipIdx[i]'(by simpa using hl)=(s.ai[i],i):=by simp
  have hm:=sO (cI hl);have hp:=Bf s.ai i hl;rw[hz];have hs:fQ []=true:=rfl;have u1:=Ig s.ai[i].obj (by omega);have u2:=WN (s.ai.take i) s.ai[i] 185 (λx=>decide (x.at_=(s.ai[i]).at_)) rfl (λx _=>V9 x s.ai[i]) (by simp;omega);have hle:(i:Int)<=s.ai.length:=by omega
  have hle2:i<=s.ai.length:=by omega
  simp at u1 u2;unfold ow;by_cases g1:dn (s.ai[i]).obj=true;rotate_left;·simp -implicitDefEqProofs [nq,pX,hl,hw,hle,hle2,lI,iN,gD,u1,u2,g1]
  by_cases g2:5<=(s.ai[i]).at_;rotate_left;·simp -implicitDefEqProofs [nq,pX,hl,hw,hle,hle2,lI,iN,gD,u1,u2,g1,eq_false g2]
  by_cases g3:(s.ai[i]).at_<=19;rotate_left;·simp -implicitDefEqProofs [nq,pX,hl,hw,hle,hle2,lI,iN,gD,u1,u2,g1,eq_true g2,eq_false g3]
  by_cases g4:bq (λy:Kp=> !decide (y.at_=(s.ai[i]).at_)) (s.ai.take i)=true;rotate_left;·simp -implicitDefEqProofs [nq,pX,hl,hw,hle,hle2,lI,iN,gD,u1,u2,g1,eq_true g2,eq_true g3,g4]
  by_cases g5:kg s.ai i<(s.ai[i]).seq;rotate_left
  ·have DW:(s.ai[i]).seq<=kg s.ai i:=by omega
   simp -implicitDefEqProofs [nq,pX,hl,hw,hle,hle2,lI,iN,gD,u1,u2,g1,eq_true g2,eq_true g3,g4,eq_false g5,eq_true DW]
  have DW:¬(s.ai[i]).seq<=kg s.ai i:=by omega
  by_cases g6:(s.ai[i]).seq<s.seq;rotate_left
  ·have I4:s.seq<=(s.ai[i]).seq:=by omega
   simp -implicitDefEqProofs [nq,pX,hl,hw,hle,hle2,lI,iN,gD,u1,u2,g1,eq_true g2,eq_true g3,g4,eq_true g5,eq_false DW,eq_false g6,eq_true I4]
  have I4:¬s.seq<=(s.ai[i]).seq:=by omega
  simp -implicitDefEqProofs [nq,pX,hl,hw,hle,hle2,lI,iN,gD,u1,u2,g1,eq_true g2,eq_true g3,g4,eq_true g5,eq_false DW,eq_true g6,eq_false I4,hp]
 ·simp -implicitDefEqProofs [nq,pX]
def V8(s:Sh)(hb:bC s<=1073741824):ev LI TT 108 [.ptr .af (aO .af s)]=some (.bool (oz s.seq s.ai),[.dead]):=by rw[ay (b:=ED) (rs:=[.t 2]) (n:=1) rfl rfl];obtain⟨sl,u1⟩:=Uf s hb;simp at u1;simp -implicitDefEqProofs [ED,u1];all_goals (repeat' split)<;>first|rfl|omega|(simp_all;done)|(simp_all;omega)|skip
def T8(s:Sh)(hb:bC s<=1073741824):aH (aj (ev LI TT) (av TT) Av) [(1,.ptr .own (aO .af s)),(5,.aB 1 [] 0 3),(6,.row .af 4 (s.aF.map bK)),(7,.int .i64 s.aF.length),(8,.int .i64 0)]=if bq dP (s.aF)=true then some (.exit 0,[(1,.ptr .own (aO .af s)),(5,.aB 1 [] 0 3),(6,.row .af 4 (s.aF.map bK)),(7,.int .i64 s.aF.length),(8,.int .i64 (s.aF).length),(9,.bool false)]) else some (.ret,[(2,.bool false)]):=by
 refine gy (f:=aj (ev LI TT) (av TT) Av) (s.aF) (λi=>[(1,.ptr .own (aO .af s)),(5,.aB 1 [] 0 3),(6,.row .af 4 (s.aF.map bK)),(7,.int .i64 s.aF.length),(8,.int .i64 i)]) dP _ _ (λi b hi hl=>?_) ?_
 ·have hw:=bz i (by have dM:bC s=bU s.aG+wL bH s.ai+wL aW s.aF:=rfl;have:=bx (w:=aW) s.aF;omega);obtain⟨_,rfl⟩:=aN.1 hi;have dM:bC s=bU s.aG+wL bH s.ai+wL aW s.aF:=rfl;have hm:=Hh (cI hl);have u1:=NB s.aF[i] (by omega);try simp at u1
  simp -implicitDefEqProofs [Av,JV,hl,hw,u1];all_goals (repeat' split)<;>first|rfl|omega|(simp_all;done)|(simp_all;omega)|skip
 ·simp -implicitDefEqProofs [Av,JV]
def NF(s:Sh)(hb:bC s<=1073741824):ev LI TT 31 [.agg (aO .af s)]=some (.bool ((de s)),[.dead]):=by
 rw[ay (b:=nk) (rs:=[.t 2]) (n:=1) rfl rfl];have dM:bC s=bU s.aG+wL bH s.ai+wL aW s.aF:=rfl;have JN:bU s.aG=wL wS s.aG.cells+wL di s.aG.pending:=rfl;have hlen:=bx (w:=di) s.aG.pending;unfold de;have u1:=VY s.aG (by omega);try simp at u1
 have u2:=T8 s hb;try simp at u2
 have u3:=V8 s hb;try simp at u3
 by_cases g1:bq dP s.aF=true;rotate_left;·simp -implicitDefEqProofs [nk,u1,u2,u3,g1]
 by_cases g2:(s.aF.length:Int)<=5;rotate_left;·simp -implicitDefEqProofs [nk,u1,u2,u3,g1,eq_false g2]
 by_cases g3:5<=s.next
 rotate_left;·simp -implicitDefEqProofs [nk,u1,u2,u3,g1,eq_true g2,eq_false g3]
 by_cases g4:s.next<=19
 rotate_left;·simp -implicitDefEqProofs [nk,u1,u2,u3,g1,eq_true g2,eq_true g3,eq_false g4]
 by_cases g5:1<=s.seq;rotate_left;·simp -implicitDefEqProofs [nk,u1,u2,u3,g1,eq_true g2,eq_true g3,eq_true g4,eq_false g5]
 by_cases g6:s.seq<=100000;rotate_left;·simp -implicitDefEqProofs [nk,u1,u2,u3,g1,eq_true g2,eq_true g3,eq_true g4,eq_true g5,eq_false g6]
 by_cases g7:cO s.aG=true;rotate_left;·simp -implicitDefEqProofs [nk,u1,u2,u3,g1,eq_true g2,eq_true g3,eq_true g4,eq_true g5,eq_true g6,g7]
 simp -implicitDefEqProofs [nk,u1,u2,u3,g1,eq_true g2,eq_true g3,eq_true g4,eq_true g5,eq_true g6,g7];all_goals (repeat' split)<;>first|rfl|omega|(simp_all;done)|(simp_all;omega)|skip
end M
set_option maxHeartbeats 4000000
namespace M
open Go
variable [Lb]
def IU(l:List aE):(ja l).length<=4*wL aJ l:=by
 unfold ja;induction l with
 |nil=>simp[wL]
 |cons f l ih=>simp only[jN,fE,wL,cG,aY,oR,rz,aJ,gH] at*;omega
def acj:(⟨#[58,32]⟩:ByteArray)=⟨colon.toArray⟩:=rfl
def Kh:(⟨#[13,10]⟩:ByteArray)=⟨crlf.toArray⟩:=rfl
def acn:(⟨#[13,10,13,10]⟩:ByteArray)=⟨bw.toArray⟩:=rfl
def Q8:(⟨#[72,84,84,80,47,49,46,49,32]⟩:ByteArray)=⟨(oy++[32]).toArray⟩:=rfl
def ack:(⟨#[32,46]⟩:ByteArray)=⟨([32,46]:ag).toArray⟩:=rfl
def acm:(⟨#[32,46,13,10]⟩:ByteArray)=⟨([32,46]++crlf:ag).toArray⟩:=rfl
def Q5:(⟨#[99,111,110,116,101,110,116,45,108,101,110,103,116,104,58,32]⟩:ByteArray)=⟨(ff++colon).toArray⟩:=rfl
def Q6:(⟨#[111,98,106,32]⟩:ByteArray)=⟨(mc++[32]).toArray⟩:=rfl
def Q7:(⟨#[32]⟩:ByteArray)=⟨([32]:ag).toArray⟩:=rfl
def E4:(⟨#[10]⟩:ByteArray)=⟨([10]:ag).toArray⟩:=rfl
def AL:colon.length=2:=rfl
def AM:crlf.length=2:=rfl
def Q9:bw.length=4:=rfl
def Ki:oy.length=8:=rfl
def E5:ff.length=14:=rfl
def AN:mc.length=3:=rfl
def Un(fs:List aE)(hb:wL aJ fs<=1073741824)(g:ag)(hinv:g.length<=4*(wL aJ (fs.take 0))):aH (aj (ev LI TT) (av TT) Bq) [(0,.row .af 2 (fs.map aK)),(3,.str ⟨(g).toArray⟩),(4,.int .i64 0)]=some (.exit 0,[(0,.row .af 2 (fs.map aK)),(3,.str ⟨((foldI (λ_ g f=>g++rz f) 0 (fs) g)).toArray⟩),(4,.int .i64 (fs).length),(8,.bool false)]):=by
 refine kK (f:=aj (ev LI TT) (av TT) Bq) (fs) (λi (g:ag)=>[(0,.row .af 2 (fs.map aK)),(3,.str ⟨(g).toArray⟩),(4,.int .i64 i)]) (λ_ g f=>g++rz f) (λg=>[(0,.row .af 2 (fs.map aK)),(3,.str ⟨(g).toArray⟩),(4,.int .i64 (fs).length),(8,.bool false)]) (λi (g:ag)=>g.length<=4*(wL aJ (fs.take i))) g hinv (λi b g hi hl hinv=>?_) (λi b g hi hinv=>?_) (λg hinv=>?_)
 ·have hw:=bz i (by have:=bx (w:=aJ) fs;omega);obtain⟨_,rfl⟩:=aN.1 hi;have hm:=Hi (cI hl);have ht:=Mn aJ fs i;have q1:g.length+(fs[i]).name.length<=9223372036854775807:=by omega
  have q2:g.length+((fs[i]).name.length+2)<=9223372036854775807:=by omega
  have q3:g.length+((fs[i]).name.length+(2+(fs[i]).value.length))<=9223372036854775807:=by omega
  simp -implicitDefEqProofs [Bq,Lc,hl,hw,acj,Kh,kQ,AL,AM,rz];exact⟨by omega,by omega,by omega,by omega,by simp[colon,crlf]⟩
 ·obtain⟨hl,rfl⟩:=aN.1 hi;rw[qH hl];simp only[wL,fE,iA,ym,cG,gH,aY,gi,oR,Hx,rz,aJ] at*;omega
 ·simp -implicitDefEqProofs [Bq,Lc]
def DQ{β:Type}(f:β->ag):∀(l:List β) (i:Nat) (g:ag),foldI (λ_ g b=>g++f b) i l g=g++l.flatMap f
 |[],_,g=>by simp[foldI]
 |b::l,i,g=>by rw[foldI,DQ f l];simp
def Wo(fs:List aE)(hb:wL aJ fs<=1073741824):ev LI TT 67 [.row .af 2 (fs.map aK)]=some (.str ⟨(ja fs).toArray⟩,[.dead]):=by
 rw[ay (b:=FE) (rs:=[.t 2]) (n:=1) rfl rfl];have u1:=Un fs hb [] (by simp);try simp at u1
 rw[DQ,kn,show fs.flatMap (λf=>rz f)=ja fs from rfl] at u1;simp -implicitDefEqProofs [FE,u1];all_goals (repeat' split)<;>first|rfl|omega|(simp_all;done)|(simp_all;omega)|skip
structure U6 (r:cg):Prop where
 s0:100<=r.status
 s1:r.status<=599
 f:jX r.fields=true
 b:r.body.length<=120
 nt:eP r.status=bu r.status.toNat
 nb:eP (r.body.length:Int)=bu r.body.length
 ls:(bu r.status.toNat).length<=7
 lb:(bu r.body.length).length<=7
 Mg:fZ r=oy++32::(bu r.status.toNat++32::46::(crlf++(ja r.fields++(ff++(colon++(bu r.body.length++(bw++r.body)))))))
def Ft{r:cg}(h:fm r=true):U6 r:=by
 obtain⟨h1,h2,h3⟩:=KR h;refine⟨h1.1,h1.2,h2,h3,?_,?_,nX _ (by omega),nX _ (by omega),?_⟩;·unfold eP;rw[az (by omega)]
 ·exact Fh _ (by omega)
 ·unfold fZ;rw[az h,Sk];simp[kN,ke,colon]
def NV(r:cg)(hb:ct r<=1073741824):ev LI TT 12 [.agg (jv .af r)]=some (.str ⟨(fZ r).toArray⟩,[.dead]):=by
 rw[ay (b:=BG) (rs:=[.t 2]) (n:=1) rfl rfl];have hw:ct r=wL aJ r.fields+r.body.length:=rfl;have hfl:=IU r.fields;have hft:=Wo r.fields (by omega);have u1:=Im r hb;try simp at u1
 have u2:=vt r.status;try simp at u2
 have u3:=vt (r.body.length:Int);try simp at u3
 by_cases hok:fm r=true;rotate_left;·have e:fZ r=[]:=(KT r).2 hok;rw[show fm r=false by simpa using hok] at u1;simp -implicitDefEqProofs [BG,u1,e]
 rw[hok] at u1;have A:=Ft hok;rw[A.nt] at u2;rw[A.nb] at u3;have a1:=A.ls;have a2:=A.lb;have a3:=A.b;try simp at hft
 rw[A.Mg];generalize ja r.fields=T at hft hfl;generalize bu r.status.toNat=D at u2 a1;generalize bu r.body.length=E at u3 a2;simp -implicitDefEqProofs [BG,u1,u2,u3,hft,Q8,acm,Q5,acn,kQ,Ki,AM,E5,AL,Q9];all_goals (try omega)
def Wg(b:ag)(hb:b.length<=1000000):ev LI TT 64 [.str ⟨b.toArray⟩]=some (.str ⟨(ff++(colon++(bu b.length++crlf))).toArray⟩,[.dead]):=by
 rw[ay (b:=EV) (rs:=[.t 2]) (n:=1) rfl rfl];have l7:=nX b.length hb;have u1:=Dj b.length (by omega);try simp at u1
 simp -implicitDefEqProofs [EV,u1,Q5,Kh,kQ,E5,AL,AM];all_goals (try omega)
def V5(r:cg)(hb:ct r<=1073741824):ev LI TT 11 [.agg (jv .af r)]=some (.str ⟨(fZ r).toArray⟩,[.dead]):=by
 rw[ay (b:=Au) (rs:=[.t 2]) (n:=1) rfl rfl];have hw:ct r=wL aJ r.fields+r.body.length:=rfl;have hfl:=IU r.fields;have rJ:=bx (w:=aJ) r.fields;have hft:=V0 r.fields (by omega) (by omega);have u1:=ND r hb;try simp at u1
 by_cases hok:fm r=true;rotate_left;·have e:fZ r=[]:=(KT r).2 hok;rw[show fm r=false by simpa using hok] at u1;simp -implicitDefEqProofs [Au,u1,e]
 rw[hok] at u1;have A:=Ft hok;have a0:=A.s0;have a0':=A.s1;have a1:=A.ls;have a2:=A.lb;have a3:=A.b;have hst:r.status=((r.status.toNat:Nat):Int):=by omega
 have u2:=Dj r.status.toNat (by omega);rw[<-hst] at u2;have u3:=Wg r.body (by omega);try simp at hft
 try simp at u2
 try simp at u3
 rw[A.Mg];generalize ja r.fields=T at hft hfl;generalize bu r.status.toNat=D at u2 a1;generalize bu r.body.length=E at u3 a2;simp -implicitDefEqProofs [Au,u1,hft,u2,u3,Q8,ack,Kh,kQ,Ki,AM,E5,AL];refine⟨by omega,by omega,by omega,by omega,by omega,by omega,by omega,?_⟩;simp[crlf,bw]
def Ml(l:List ag):(kT l).length<=2*wL wS l:=by
 unfold kT;induction l with
 |nil=>simp[wL]
 |cons v l ih=>simp only[jN,fE,wL,cG,aY,oR,wS,gH] at*;omega
def KY(r:cg):(fZ r).length<=4*ct r+60:=by
 by_cases h:fm r=true;·have A:=Ft h;have hfl:=IU r.fields;have a1:=A.ls;have a2:=A.lb;rw[A.Mg];have hw:ct r=wL aJ r.fields+r.body.length:=rfl;simp[Ki,AM,E5,AL,Q9];omega
 ·rw[(KT r).2 h];simp
def Uw(o:Ob)(hb:cr o<=1073741824)(g:ag)(hinv:g.length<=9223372036+2*(wL wS (o.values.take 0))):aH (aj (ev LI TT) (av TT) BD) [(1,.ptr .own (aS .af o)),(3,.str ⟨(g).toArray⟩),(4,.int .i64 0)]=some (.exit 0,[(1,.ptr .own (aS .af o)),(3,.str ⟨((foldI (λ_ g v=>g++(v++[10])) 0 (o.values) g)).toArray⟩),(4,.int .i64 (o.values).length),(27,.bool false)]):=by
 refine kK (f:=aj (ev LI TT) (av TT) BD) (o.values) (λi (g:ag)=>[(1,.ptr .own (aS .af o)),(3,.str ⟨(g).toArray⟩),(4,.int .i64 i)]) (λ_ g v=>g++(v++[10])) (λg=>[(1,.ptr .own (aS .af o)),(3,.str ⟨(g).toArray⟩),(4,.int .i64 (o.values).length),(27,.bool false)]) (λi (g:ag)=>g.length<=9223372036+2*(wL wS (o.values.take i))) g hinv (λi b g hi hl hinv=>?_) (λi b g hi hinv=>?_) (λg hinv=>?_);·have hw:=bz i (by have hw:cr o=o.path.length+wL wS o.names+wL wS o.values+ct o.resp:=rfl;have:=bx (w:=wS) o.values;omega);obtain⟨_,rfl⟩:=aN.1 hi;have hw0:cr o=o.path.length+wL wS o.names+wL wS o.values+ct o.resp:=rfl;have hm:=yh (cI hl);have ht:=Mn wS o.values i;simp -implicitDefEqProofs [BD,Lg,hl,hw,E4,kQ];all_goals (try omega)
 ·obtain⟨hl,rfl⟩:=aN.1 hi;rw[qH hl];simp only[wL,fE,iA,ym,cG,gH,aY,gi,oR,Hx,wS] at*;omega
 ·simp -implicitDefEqProofs [BD,Lg]
def NS(o:Ob)(hb:cr o<=1073741824):ev LI TT 36 [.agg (aS .af o)]=some (.str ⟨(dU o).toArray⟩,[.dead]):=by
 rw[ay (b:=BE) (rs:=[.t 2]) (n:=1) rfl rfl];have hw:cr o=o.path.length+wL wS o.names+wL wS o.values+ct o.resp:=rfl;have hrl:=KY o.resp;have hvl:=Ml o.values;have hft:=NV o.resp (by omega);have u1:=yS o (by omega);try simp at u1
 have u2:=vt o.t;try simp at u2
 have u3:=vt (o.values.length:Int);try simp at u3
 by_cases hok:dn o=true;rotate_left;·have e:dU o=[]:=(KA o).2 hok;rw[show dn o=false by simpa using hok] at u1;simp -implicitDefEqProofs [BE,u1,e]
 rw[hok] at u1;have A:=A7 hok;have a1:=A.len;have a2:=A.n4;have a3:=A6 o.t;have a4:=nX o.values.length (by omega);rw[Fh o.values.length (by omega)] at u3;have et:dU o=mc++32::(o.path++32::(eP o.t++32::(bu o.values.length++10::(kT o.values++fZ o.resp)))):=by unfold dU nB qi fZ;rw[az hok,az A.resp];simp
 have hlp:=Uw o hb (mc++32::(o.path++32::(eP o.t++32::(bu o.values.length++[10])))) (by simp[AN];omega);rw[DQ,show o.values.flatMap (λv=>v++[10])=kT o.values from rfl] at hlp;try simp at hlp
 try simp at hft
 rw[et];generalize fZ o.resp=R at hft hrl;generalize bu o.values.length=E at u3 a4 hlp;generalize kT o.values=V at hvl hlp;simp -implicitDefEqProofs [BE,u1,u2,u3,hft,hlp,Q6,Q7,E4,kQ,AN];all_goals (try omega)
def T7(o:Ob)(hb:cr o<=1073741824)(g:ag)(hinv:g.length<=9223372036+2*(wL wS (o.values.take 0))):aH (aj (ev LI TT) (av TT) Ar) [(1,.ptr .own (aS .af o)),(3,.str ⟨(g).toArray⟩),(24,.aB 1 [] 0 2),(25,.row .af 1 (o.values.map eS)),(26,.int .i64 o.values.length),(27,.int .i64 0)]=some (.exit 0,[(1,.ptr .own (aS .af o)),(3,.str ⟨((foldI (λ_ g v=>g++(v++[10])) 0 (o.values) g)).toArray⟩),(24,.aB 1 [] 0 2),(25,.row .af 1 (o.values.map eS)),(26,.int .i64 o.values.length),(27,.int .i64 (o.values).length),(28,.bool false)]):=by
 refine kK (f:=aj (ev LI TT) (av TT) Ar) (o.values) (λi (g:ag)=>[(1,.ptr .own (aS .af o)),(3,.str ⟨(g).toArray⟩),(24,.aB 1 [] 0 2),(25,.row .af 1 (o.values.map eS)),(26,.int .i64 o.values.length),(27,.int .i64 i)]) (λ_ g v=>g++(v++[10])) (λg=>[(1,.ptr .own (aS .af o)),(3,.str ⟨(g).toArray⟩),(24,.aB 1 [] 0 2),(25,.row .af 1 (o.values.map eS)),(26,.int .i64 o.values.length),(27,.int .i64 (o.values).length),(28,.bool false)]) (λi (g:ag)=>g.length<=9223372036+2*(wL wS (o.values.take i))) g hinv (λi b g hi hl hinv=>?_) (λi b g hi hinv=>?_) (λg hinv=>?_);·have hw:=bz i (by have hw:cr o=o.path.length+wL wS o.names+wL wS o.values+ct o.resp:=rfl;have:=bx (w:=wS) o.values;omega);obtain⟨_,rfl⟩:=aN.1 hi;have hw0:cr o=o.path.length+wL wS o.names+wL wS o.values+ct o.resp:=rfl;have hm:=yh (cI hl);have ht:=Mn wS o.values i;simp -implicitDefEqProofs [Ar,JU,hl,hw,E4,kQ];all_goals (try omega)
 ·obtain⟨hl,rfl⟩:=aN.1 hi;rw[qH hl];simp only[wL,fE,iA,ym,cG,gH,aY,gi,oR,Hx,wS] at*;omega
 ·simp -implicitDefEqProofs [Ar,JU]
def Ih(o:Ob)(hb:cr o<=1073741824):ev LI TT 27 [.agg (aS .af o)]=some (.str ⟨(dU o).toArray⟩,[.dead]):=by
 rw[ay (b:=As) (rs:=[.t 2]) (n:=1) rfl rfl];have hw:cr o=o.path.length+wL wS o.names+wL wS o.values+ct o.resp:=rfl;have hrl:=KY o.resp;have hvl:=Ml o.values;have hvn:=bx (w:=wS) o.values;have hft:=V5 o.resp (by omega);have u1:=Ig o (by omega);try simp at u1
 have u2:=V4 o.t;try simp at u2
 have u3:=Dj o.values.length (by omega);try simp at u3
 by_cases hok:dn o=true;rotate_left;·have e:dU o=[]:=(KA o).2 hok;rw[show dn o=false by simpa using hok] at u1;simp -implicitDefEqProofs [As,u1,e]
 rw[hok] at u1;have A:=A7 hok;have a1:=A.len;have a2:=A.n4;have a3:=A6 o.t;have a4:=nX o.values.length (by omega);have et:dU o=mc++32::(o.path++32::(eP o.t++32::(bu o.values.length++10::(kT o.values++fZ o.resp)))):=by unfold dU nB qi fZ;rw[az hok,az A.resp];simp
 have hlp:=T7 o hb (mc++32::(o.path++32::(eP o.t++32::(bu o.values.length++[10])))) (by simp[AN];omega);rw[DQ,show o.values.flatMap (λv=>v++[10])=kT o.values from rfl] at hlp;try simp at hlp
 try simp at hft
 rw[et];generalize fZ o.resp=R at hft hrl;generalize bu o.values.length=E at u3 a4 hlp;generalize kT o.values=V at hvl hlp;simp -implicitDefEqProofs [As,u1,u2,u3,hft,hlp,Q6,Q7,E4,kQ,AN];all_goals (try omega)
end M
set_option maxHeartbeats 4000000
namespace M
open Go
variable [Lb]
def PW(fs:List aE)(n v:ag):(decide (dR fs n=some v))=((dR fs n).isSome && decide ((dR fs n).getD []=v)):=by cases dR fs n<;>simp
def aec(p s:ag):p.isPrefixOf s=(decide (p.length<=s.length) && decide (s.take p.length=p)):=by have:=Lib.hasPrefix_of_take s p;unfold Lib.hasPrefix at this;rw[<-this];congr 1;rw[MI];simp
def Wq(b:Bn)(o:Ob)(h1:aW b<=1073741824)(h2:cr o<=1073741824):ev LI TT 181 [.agg (bK b),.agg (aS .af o)]=some (.bool (lZ b o),[.dead,.dead]):=by
 rw[ay (b:=nG) (rs:=[.t 4]) (n:=2) rfl rfl];have hw:aW b=b.a.length+b.b.length:=rfl;have fH:cr o=o.path.length+wL wS o.names+wL wS o.values+ct o.resp:=rfl;have z8:ct o.resp=wL aJ o.resp.fields+o.resp.body.length:=rfl;have l1:=bx (w:=aJ) o.resp.fields;unfold lZ;rw[PW,aec];have u1:=Db b h1;try simp at u1
 have u2:=yS o (by omega);try simp at u2
 have u3:=Dc o.resp.fields b.a (by omega);try simp at u3
 generalize dP b=b1 at u1;cases b1;·simp -implicitDefEqProofs [nG,u1]
 generalize dn o=b2 at u2;cases b2;·simp -implicitDefEqProofs [nG,u1,u2]
 by_cases g1:o.t<=b.t;rotate_left
 ·have dB:b.t<o.t:=by omega
  simp -implicitDefEqProofs [nG,u1,u2,g1,dB]
 have dB:¬b.t<o.t:=by omega
 by_cases g2:b.kind=1;·rw[g2] at u1;simp -implicitDefEqProofs [nG,u1,u2,g1,dB,g2]
 by_cases g3:b.kind=2
 ·rw[g3] at u1;by_cases g4:b.a.length<=o.path.length
  ·have rE:(b.a.length:Int)<=o.path.length:=by omega
   by_cases g5:o.path.take b.a.length=b.a;·simp -implicitDefEqProofs [nG,u1,u2,g1,dB,g2,g3,g4,rE,Lib.extract_mk,eq_true g5]
   ·simp -implicitDefEqProofs [nG,u1,u2,g1,dB,g2,g3,g4,rE,Lib.extract_mk,eq_false g5]
  ·have rE:¬(b.a.length:Int)<=o.path.length:=by omega
   simp -implicitDefEqProofs [nG,u1,u2,g1,dB,g2,g3,g4,rE]
 generalize (dR o.resp.fields b.a).isSome=b3 at u3;cases b3;all_goals
 simp -implicitDefEqProofs [nG,u1,u2,u3,g1,dB,g2,g3];all_goals (repeat' split)<;>first|rfl|omega|(simp_all;done)|(simp_all;omega)|skip
def V2(b:Bn)(o:Ob)(h1:aW b<=1073741824)(h2:cr o<=1073741824):ev LI TT 53 [.agg (bK b),.agg (aS .af o)]=some (.bool (lZ b o),[.dead,.dead]):=by
 rw[ay (b:=pW) (rs:=[.t 4]) (n:=2) rfl rfl];have hw:aW b=b.a.length+b.b.length:=rfl;have fH:cr o=o.path.length+wL wS o.names+wL wS o.values+ct o.resp:=rfl;have z8:ct o.resp=wL aJ o.resp.fields+o.resp.body.length:=rfl;have l1:=bx (w:=aJ) o.resp.fields;unfold lZ;rw[PW,show b.a.isPrefixOf o.path=Lib.hasPrefix o.path b.a from rfl];have u1:=NB b h1;try simp at u1
 have u2:=Ig o (by omega);try simp at u2
 have u3:=Ic o.resp.fields b.a (by omega);try simp at u3
 have u4:=WT o.path b.a;try simp at u4
 by_cases g1:o.t<=b.t;rotate_left
 ·have dB:b.t<o.t:=by omega
  simp -implicitDefEqProofs [pW,u1,u2,g1,dB]
 have dB:¬b.t<o.t:=by omega
 generalize dP b=b1 at u1;cases b1;·simp -implicitDefEqProofs [pW,u1,g1,dB]
 generalize dn o=b2 at u2;cases b2;·simp -implicitDefEqProofs [pW,u1,u2,g1,dB]
 by_cases g2:b.kind=1;·rw[g2] at u1;simp -implicitDefEqProofs [pW,u1,u2,g1,dB,g2]
 by_cases g3:b.kind=2;·rw[g3] at u1;simp -implicitDefEqProofs [pW,u1,u2,u4,g1,dB,g2,g3]
 generalize (dR o.resp.fields b.a).isSome=b3 at u3;cases b3;all_goals
 simp -implicitDefEqProofs [pW,u1,u2,u3,u4,g1,dB,g2,g3];all_goals (repeat' split)<;>first|rfl|omega|(simp_all;done)|(simp_all;omega)|skip
def Qn(l:List Bn)(o:Ob):bq (λb=> !lZ b o) l= !fL l o:=by
 unfold fL bq;induction l with
 |nil=>rfl
 |cons b l ih=>simp only[List.all_cons,List.any_cons,ih,Bool.not_or]
def Up(l:List Bn)(o:Ob)(h1:wL aW l<=1073741824)(h2:cr o<=1073741824):aH (aj (ev LI TT) (av TT) Bt) [(0,.row .af 4 (l.map bK)),(3,.ptr .own (aS .af o)),(5,.int .i64 0)]=if bq (λb=> !lZ b o) (l)=true then some (.exit 0,[(0,.row .af 4 (l.map bK)),(3,.ptr .own (aS .af o)),(5,.int .i64 (l).length),(9,.bool false)]) else some (.ret,[(4,.bool true)]):=by
 refine gy (f:=aj (ev LI TT) (av TT) Bt) (l) (λi=>[(0,.row .af 4 (l.map bK)),(3,.ptr .own (aS .af o)),(5,.int .i64 i)]) (λb=> !lZ b o) _ _ (λi b hi hl=>?_) ?_
 ·have hw:=bz i (by have:=bx (w:=aW) l;omega);obtain⟨_,rfl⟩:=aN.1 hi;have hm:=Hh (cI hl);have u1:=Wq l[i] o (by omega) h2;try simp at u1
  cases hh:lZ l[i] o<;>rw[hh] at u1;all_goals
  simp -implicitDefEqProofs [Bt,Ld,hl,hw,u1,hh];all_goals (repeat' split)<;>first|rfl|omega|(simp_all;done)|(simp_all;omega)|skip
 ·simp -implicitDefEqProofs [Bt,Ld]
def Dd(l:List Bn)(o:Ob)(h1:wL aW l<=1073741824)(h2:cr o<=1073741824):ev LI TT 98 [.row .af 4 (l.map bK),.agg (aS .af o)]=some (.bool (fL l o),[.dead,.dead]):=by
 rw[ay (b:=FG) (rs:=[.t 4]) (n:=2) rfl rfl];have u1:=Up l o h1 h2;try simp at u1
 rw[Qn] at u1;cases hh:fL l o<;>rw[hh] at u1;all_goals try simp at u1
 all_goals
 simp -implicitDefEqProofs [FG,u1];all_goals (repeat' split)<;>first|rfl|omega|(simp_all;done)|(simp_all;omega)|skip
def T4(l:List Bn)(o:Ob)(h1:wL aW l<=1073741824)(h2:cr o<=1073741824):aH (aj (ev LI TT) (av TT) Am) [(0,.row .af 4 (l.map bK)),(3,.ptr .own (aS .af o)),(7,.row .af 4 (l.map bK)),(8,.int .i64 l.length),(9,.int .i64 0)]=if bq (λb=> !lZ b o) (l)=true then some (.exit 0,[(0,.row .af 4 (l.map bK)),(3,.ptr .own (aS .af o)),(7,.row .af 4 (l.map bK)),(8,.int .i64 l.length),(9,.int .i64 (l).length),(10,.bool false)]) else some (.ret,[(4,.bool true)]):=by
 refine gy (f:=aj (ev LI TT) (av TT) Am) (l) (λi=>[(0,.row .af 4 (l.map bK)),(3,.ptr .own (aS .af o)),(7,.row .af 4 (l.map bK)),(8,.int .i64 l.length),(9,.int .i64 i)]) (λb=> !lZ b o) _ _ (λi b hi hl=>?_) ?_
 ·have hw:=bz i (by have:=bx (w:=aW) l;omega);obtain⟨_,rfl⟩:=aN.1 hi;have hm:=Hh (cI hl);have u1:=V2 l[i] o (by omega) h2;try simp at u1
  cases hh:lZ l[i] o<;>rw[hh] at u1;all_goals
  simp -implicitDefEqProofs [Am,JS,hl,hw,u1,hh];all_goals (repeat' split)<;>first|rfl|omega|(simp_all;done)|(simp_all;omega)|skip
 ·simp -implicitDefEqProofs [Am,JS]
def NC(l:List Bn)(o:Ob)(h1:wL aW l<=1073741824)(h2:cr o<=1073741824):ev LI TT 30 [.row .af 4 (l.map bK),.agg (aS .af o)]=some (.bool (fL l o),[.dead,.dead]):=by
 rw[ay (b:=Ez) (rs:=[.t 4]) (n:=2) rfl rfl];have u1:=T4 l o h1 h2;try simp at u1
 rw[Qn] at u1;cases hh:fL l o<;>rw[hh] at u1;all_goals try simp at u1
 all_goals
 simp -implicitDefEqProofs [Ez,u1];all_goals (repeat' split)<;>first|rfl|omega|(simp_all;done)|(simp_all;omega)|skip
end M
namespace M
open Go
variable [Lb]
def nM(fs:List aE)(n:ag):ag:=(dR fs n).getD [45]
def valuesOf(ns:List ag)(fs:List aE):List ag:=ns.map (nM fs)
def Mm(ns:List ag)(fs:List aE):(valuesOf ns fs).length=ns.length:=by simp[valuesOf]
def UG(ns:List ag)(fs:List aE)(hb:ns.length<=1073741824)(hf:fs.length<=9223372036854775807):aH (aj (ev LI TT) (av TT) BO) [(0,.row .af 1 (ns.map eS)),(1,.row .af 2 (fs.map aK)),(5,.row .own 1 (([]).map eS)),(6,.int .i64 0)]=some (.exit 0,[(0,.row .af 1 (ns.map eS)),(1,.row .af 2 (fs.map aK)),(5,.row .own 1 ((((ns).flatMap (λn=>[nM fs n]))).map eS)),(6,.int .i64 (ns).length),(13,.bool false)]):=by
 refine p9 (f:=aj (ev LI TT) (av TT) BO) (ns) (λn=>[nM fs n]) (λi out=>[(0,.row .af 1 (ns.map eS)),(1,.row .af 2 (fs.map aK)),(5,.row .own 1 ((out).map eS)),(6,.int .i64 i)]) (λout=>[(0,.row .af 1 (ns.map eS)),(1,.row .af 2 (fs.map aK)),(5,.row .own 1 ((out).map eS)),(6,.int .i64 (ns).length),(13,.bool false)]) (λi b out hi hl hout=>?_) (λout hout=>?_)
 ·have hw:=bz i (by first|omega|(simp at hl;omega));obtain⟨_,rfl⟩:=aN.1 hi;have h:=Dc fs ns[i] hf;have hlo:out.length=i:=by rw[hout];exact zv _ _ _ (by omega)
  have hlz:(i+1)*16<=140737488355328:=by omega
  unfold nM;cases g:dR fs ns[i]<;>rw[g] at h;all_goals
  simp -implicitDefEqProofs [BO,Lp,hl,hw,h,hlo,hlz,cE]
 ·simp -implicitDefEqProofs [BO,Lp]
def NY(ns:List ag)(fs:List aE)(hb:ns.length<=1073741824)(hf:fs.length<=9223372036854775807):ev LI TT 180 [.row .af 1 (ns.map eS),.row .af 2 (fs.map aK)]=some (.row .own 1 ((valuesOf ns fs).map eS),[.dead,.dead]):=by
 rw[ay (b:=FU) (rs:=[.t 4]) (n:=2) rfl rfl];have u1:=UG ns fs hb hf;try simp at u1
 rw[zu,show ns.map (λn=>nM fs n)=valuesOf ns fs from rfl] at u1;simp -implicitDefEqProofs [FU,u1];all_goals (repeat' split)<;>first|rfl|omega|(simp_all;done)|(simp_all;omega)|skip
def Ub(ns:List ag)(fs:List aE)(hb:ns.length<=1073741824)(hf:fs.length<=9223372036854775807):aH (aj (ev LI TT) (av TT) Ay) [(0,.row .af 1 (ns.map eS)),(1,.row .af 2 (fs.map aK)),(5,.row .own 1 (([]).map eS)),(10,.row .af 1 (ns.map eS)),(11,.int .i64 ns.length),(12,.int .i64 0)]=some (.exit 0,[(0,.row .af 1 (ns.map eS)),(1,.row .af 2 (fs.map aK)),(5,.row .own 1 ((((ns).flatMap (λn=>[nM fs n]))).map eS)),(10,.row .af 1 (ns.map eS)),(11,.int .i64 ns.length),(12,.int .i64 (ns).length),(13,.bool false)]):=by
 refine p9 (f:=aj (ev LI TT) (av TT) Ay) (ns) (λn=>[nM fs n]) (λi out=>[(0,.row .af 1 (ns.map eS)),(1,.row .af 2 (fs.map aK)),(5,.row .own 1 ((out).map eS)),(10,.row .af 1 (ns.map eS)),(11,.int .i64 ns.length),(12,.int .i64 i)]) (λout=>[(0,.row .af 1 (ns.map eS)),(1,.row .af 2 (fs.map aK)),(5,.row .own 1 ((out).map eS)),(10,.row .af 1 (ns.map eS)),(11,.int .i64 ns.length),(12,.int .i64 (ns).length),(13,.bool false)]) (λi b out hi hl hout=>?_) (λout hout=>?_)
 ·have hw:=bz i (by first|omega|(simp at hl;omega));obtain⟨_,rfl⟩:=aN.1 hi;have h:=Ic fs ns[i] hf;have hlo:out.length=i:=by rw[hout];exact zv _ _ _ (by omega)
  have hlz:(i+1)*16<=140737488355328:=by omega
  unfold nM;cases g:dR fs ns[i]<;>rw[g] at h;all_goals
  simp -implicitDefEqProofs [Ay,JX,hl,hw,h,hlo,hlz,cE]
 ·simp -implicitDefEqProofs [Ay,JX]
def Wb(ns:List ag)(fs:List aE)(hb:ns.length<=1073741824)(hf:fs.length<=9223372036854775807):ev LI TT 104 [.row .af 1 (ns.map eS),.row .af 2 (fs.map aK)]=some (.row .own 1 ((valuesOf ns fs).map eS),[.dead,.dead]):=by
 rw[ay (b:=EJ) (rs:=[.t 4]) (n:=2) rfl rfl];have u1:=Ub ns fs hb hf;try simp at u1
 rw[zu,show ns.map (λn=>nM fs n)=valuesOf ns fs from rfl] at u1;simp -implicitDefEqProofs [EJ,u1];all_goals (repeat' split)<;>first|rfl|omega|(simp_all;done)|(simp_all;omega)|skip
def xY(ns:List ag):Bool:=(cU (λn=>decide (n=[42])) 0 ns).isSome
def UU(ns:List ag)(hb:ns.length<=9223372036854775807):aH (aj (ev LI TT) (av TT) Ch) [(0,.row .af 1 (ns.map eS)),(3,.int .i64 0)]=(cU (λn=>decide (n=[42])) 0 (ns)).elim (some (.exit 0,[(0,.row .af 1 (ns.map eS)),(3,.int .i64 (ns).length),(7,.bool false)])) λx=>some (.ret,(λ(i:Nat) b=>[(2,.bool true)]) x.1 x.2):=by
 refine tY (f:=aj (ev LI TT) (av TT) Ch) (ns) (λi=>[(0,.row .af 1 (ns.map eS)),(3,.int .i64 i)]) (λn=>decide (n=[42])) (λ(i:Nat) b=>[(2,.bool true)]) _ (λi b hi hl=>?_) ?_;·have hw:=bz i (by first|omega|(simp at hl;omega));obtain⟨_,rfl⟩:=aN.1 hi;have h42:(⟨#[42]⟩:ByteArray)=⟨([42]:ag).toArray⟩:=rfl;simp -implicitDefEqProofs [Ch,LV,hl,hw,h42]
 ·simp -implicitDefEqProofs [Ch,LV]
def WJ(ns:List ag)(hb:ns.length<=9223372036854775807):ev LI TT 179 [.row .af 1 (ns.map eS)]=some (.bool (xY ns),[.dead]):=by
 rw[ay (b:=Ci) (rs:=[.t 2]) (n:=1) rfl rfl];have u1:=UU ns hb;try simp at u1
 unfold xY;cases g:cU (λn=>decide (n=([42]:ag))) 0 ns with
 |none=>rw[g] at u1;simp at u1;simp -implicitDefEqProofs [Ci,u1]
 |some x=>
 rw[g] at u1;simp at u1;simp -implicitDefEqProofs [Ci,u1];all_goals (repeat' split)<;>first|rfl|omega|(simp_all;done)|(simp_all;omega)|skip
def U4(ns:List ag)(s:ag)(hb:ns.length<=9223372036854775807):aH (aj (ev LI TT) (av TT) CE) [(0,.row .af 1 (ns.map eS)),(1,.str ⟨s.toArray⟩),(7,.int .i64 ns.length),(8,.int .i64 0)]=(cU (λn=>decide (n=s)) 0 (ns)).elim (some (.exit 0,[(0,.row .af 1 (ns.map eS)),(1,.str ⟨s.toArray⟩),(7,.int .i64 ns.length),(8,.int .i64 (ns).length),(9,.bool false)])) λx=>some (.ret,(λ(i:Nat) b=>[(4,.int .i64 i)]) x.1 x.2):=by
 refine tY (f:=aj (ev LI TT) (av TT) CE) (ns) (λi=>[(0,.row .af 1 (ns.map eS)),(1,.str ⟨s.toArray⟩),(7,.int .i64 ns.length),(8,.int .i64 i)]) (λn=>decide (n=s)) (λ(i:Nat) b=>[(4,.int .i64 i)]) _ (λi b hi hl=>?_) ?_;·have hw:=bz i (by first|omega|(simp at hl;omega));obtain⟨_,rfl⟩:=aN.1 hi;simp -implicitDefEqProofs [CE,Ms,hl,hw,eq_comm (a:=s)]
 ·simp -implicitDefEqProofs [CE,Ms]
def WS(ns:List ag)(s:ag)(hb:ns.length<=9223372036854775807):ev LI TT 182 [.row .af 1 (ns.map eS),.str ⟨s.toArray⟩]=some (.int .i64 (((cU (λn=>decide (n=s)) 0 ns).elim (-1) λx=>(x.1:Int))),[.dead,.dead]):=by
 rw[ay (b:=CF) (rs:=[.t 4]) (n:=2) rfl rfl];have u1:=U4 ns s hb;try simp at u1
 cases g:cU (λn=>decide (n=s)) 0 ns with
 |none=>rw[g] at u1;simp at u1;simp -implicitDefEqProofs [CF,u1]
 |some x=>
 rw[g] at u1;simp at u1;simp -implicitDefEqProofs [CF,u1];all_goals (repeat' split)<;>first|rfl|omega|(simp_all;done)|(simp_all;omega)|skip
def WO(ns:List ag)(s:ag)(hb:ns.length<=9223372036854775807):ev LI TT 102 [.row .af 1 (ns.map eS),.str ⟨s.toArray⟩]=some (.bool ((cU (λn=>decide (n=s)) 0 ns).isSome),[.dead,.dead]):=by
 rw[ay (b:=Cy) (rs:=[.t 4]) (n:=2) rfl rfl];have u1:=WS ns s hb;try simp at u1
 cases g:cU (λn=>decide (n=s)) 0 ns with
 |none=>rw[g] at u1;simp at u1;simp -implicitDefEqProofs [Cy,u1]
 |some x=>
 rw[g] at u1;simp at u1;simp -implicitDefEqProofs [Cy,u1];all_goals (repeat' split)<;>first|rfl|omega|(simp_all;done)|(simp_all;omega)|skip
def mE(ns vs:List ag)(fs:List aE):Bool:= !xY ns && decide (valuesOf ns fs=vs)
def Wz(ns:List ag)(vs:List ag)(fs:List aE)(hb:ns.length<=1073741824)(hv:vs.length<=1073741824)(hf:fs.length<=9223372036854775807):ev LI TT 97 [.row .af 1 (ns.map eS),.row .af 1 (vs.map eS),.row .af 2 (fs.map aK)]=some (.bool (mE ns vs fs),[.dead,.dead,.dead]):=by
 rw[ay (b:=FP) (rs:=[.t 6]) (n:=3) rfl rfl];have u1:=WJ ns (by omega);try simp at u1
 have u2:=NY ns fs hb hf;try simp at u2
 have u3:=Di (valuesOf ns fs) vs (by rw[Mm];omega) (by omega);try simp at u3
 unfold mE;cases g:xY ns<;>rw[g] at u1;all_goals
 simp -implicitDefEqProofs [FP,u1,u2,u3];all_goals (repeat' split)<;>first|rfl|omega|(simp_all;done)|(simp_all;omega)|skip
def NG(ns:List ag)(vs:List ag)(fs:List aE)(hb:ns.length<=1073741824)(hv:vs.length<=1073741824)(hf:fs.length<=9223372036854775807):ev LI TT 29 [.row .af 1 (ns.map eS),.row .af 1 (vs.map eS),.row .af 2 (fs.map aK)]=some (.bool (mE ns vs fs),[.dead,.dead,.dead]):=by
 rw[ay (b:=EG) (rs:=[.t 6]) (n:=3) rfl rfl];have u1:=WO ns [42] (by omega);try simp at u1
 have u2:=Wb ns fs hb hf;try simp at u2
 have u3:=N7 (valuesOf ns fs) vs (by rw[Mm];omega);try simp at u3
 rw[show (cU (λn:ag=>decide (n=[42])) 0 ns).isSome=xY ns from rfl] at u1;unfold mE;cases g:xY ns<;>rw[g] at u1;all_goals
 simp -implicitDefEqProofs [EG,u1,u2,u3];all_goals (repeat' split)<;>first|rfl|omega|(simp_all;done)|(simp_all;omega)|skip
end M
set_option maxHeartbeats 4000000
namespace M
open Go
variable [Lb]
def yU(o:Ob)(hb:cr o<=1073741824):ev LI TT 99 [.agg (aS .af o)]=some (.agg (aS .own o),[.dead]):=by
 rw[ay (b:=FW) (rs:=[.c 2 7 true 31]) (n:=1) rfl rfl];have hw:cr o=o.path.length+wL wS o.names+wL wS o.values+ct o.resp:=rfl;have fH:ct o.resp=wL aJ o.resp.fields+o.resp.body.length:=rfl;have l1:=bx (w:=aJ) o.resp.fields;have l2:=bx (w:=wS) o.names;have l3:=bx (w:=wS) o.values;have u1:=N6 o.resp (by omega);try simp at u1
 simp -implicitDefEqProofs [FW,u1,GH,rowAt,(by omega:o.names.length*16<=140737488355328),(by omega:o.values.length*16<=140737488355328)];all_goals (repeat' split)<;>first|rfl|omega|(simp_all;done)|(simp_all;omega)|skip
def Wd(o:Ob)(hb:cr o<=1073741824):ev LI TT 178 [.agg (aS .af o)]=some (.agg (aS .own o),[.dead]):=by
 rw[ay (b:=EM) (rs:=[.c 2 7 true 31]) (n:=1) rfl rfl];have hw:cr o=o.path.length+wL wS o.names+wL wS o.values+ct o.resp:=rfl;have fH:ct o.resp=wL aJ o.resp.fields+o.resp.body.length:=rfl;have l1:=bx (w:=aJ) o.resp.fields;have l2:=bx (w:=wS) o.names;have l3:=bx (w:=wS) o.values;have u1:=We o.resp (by omega);try simp at u1
 have u2:=QO o.names (by omega);try simp at u2
 have u3:=QO o.values (by omega);try simp at u3
 simp -implicitDefEqProofs [EM,u1,u2,u3];all_goals (repeat' split)<;>first|rfl|omega|(simp_all;done)|(simp_all;omega)|skip
def iF(s:Sh)(q:Rq)(k:Kp):Bool:=decide (k.obj.path=q.path) && mE k.obj.names k.obj.values q.fields && !fL s.aF k.obj
def rA(s:Sh)(q:Rq):Option Ob:=(s.ai.reverse.find? (iF s q)).map λk=>k.obj
def gO(s:Sh)(q:Rq):Option Ob:=if de s=true then rA s q else none
def eX:Ob:=⟨[],[],[],⟨0,[],[]⟩,0⟩
def Uo(s:Sh)(q:Rq)(hs:bC s<=100000000)(hq:eV q<=100000000)(hok:de s=true):
  aH (aj (ev LI TT) (av TT) oI) [(2,.ptr .own (aO .af s)),(3,.ptr .own (dw .af q)),(4,.ptr .own (aS .own eX)),(6,.int .i64 (s.ai.length - 1))]=(s.ai.reverse.find? (iF s q)).elim (some (.exit 0,[(2,.ptr .own (aO .af s)),(3,.ptr .own (dw .af q)),(4,.ptr .own (aS .own eX)),(6,.int .i64 (-1)),(17,.bool false)])) (λk=>some (.ret,[(4,.ptr .own (aS .own k.obj)),(5,.bool true)])):=by
 have dM:bC s=bU s.aG+wL bH s.ai+wL aW s.aF:=rfl;have Er:eV q=q.path.length+wL aJ q.fields+q.body.length:=rfl;have rM:=bx (w:=aJ) q.fields;have hlo:=bx (w:=bH) s.ai;refine aco (f:=aj (ev LI TT) (av TT) oI) s.ai (λi=>[(2,.ptr .own (aO .af s)),(3,.ptr .own (dw .af q)),(4,.ptr .own (aS .own eX)),(6,.int .i64 i)]) (iF s q) (λk=>[(4,.ptr .own (aS .own k.obj)),(5,.bool true)]) _ (λi b hi hl=>?_) ?_
 ·have hw:IntKind.i64.wrap ((i:Int) - 1)=(i:Int) - 1:=cJ (by omega) (by omega);obtain⟨_,rfl⟩:=aN.1 hi;have hm:=sO (cI hl);have ho:cr (s.ai[i]).obj=(s.ai[i]).obj.path.length+wL wS (s.ai[i]).obj.names+wL wS (s.ai[i]).obj.values+ct (s.ai[i]).obj.resp:=rfl;have l2:=bx (w:=wS) (s.ai[i]).obj.names;have l3:=bx (w:=wS) (s.ai[i]).obj.values;have u1:=yT s (by omega);have u2:=Wz (s.ai[i]).obj.names (s.ai[i]).obj.values q.fields (by omega) (by omega) (by omega);have u3:=Dd s.aF (s.ai[i]).obj (by omega) (by omega);have u4:=yU (s.ai[i]).obj (by omega);rw[hok] at u1;unfold iF;generalize mE (s.ai[i]).obj.names (s.ai[i]).obj.values q.fields=b2 at u2;generalize fL s.aF (s.ai[i]).obj=b3 at u3;have fW:(0:Int)<=i:=by omega
  try simp at u1
  try simp at u2
  try simp at u3
  try simp at u4
  by_cases g1:(s.ai[i]).obj.path=q.path;rotate_left;·simp -implicitDefEqProofs [oI,uk,hl,hw,fW,u1,eq_false g1]
  cases b2;·simp -implicitDefEqProofs [oI,uk,hl,hw,fW,u1,u2,eq_true g1]
  cases b3;·simp -implicitDefEqProofs [oI,uk,hl,hw,fW,u1,u2,u3,u4,eq_true g1]
  ·simp -implicitDefEqProofs [oI,uk,hl,hw,fW,u1,u2,u3,u4,eq_true g1]
 ·simp -implicitDefEqProofs [oI,uk]
def Wp(s:Sh)(q:Rq)(hs:bC s<=100000000)(hq:eV q<=100000000):ev LI TT 26 [.agg (aO .af s),.agg (dw .af q)]=some (.ak [.agg (aS .own ((gO s q).getD eX)),.bool ((gO s q).isSome)],[.dead,.dead]):=by
 rw[ay (b:=w9) (rs:=[.c 4 7 true 31,.t 5]) (n:=2) rfl rfl];have dM:bC s=bU s.aG+wL bH s.ai+wL aW s.aF:=rfl;have hlo:=bx (w:=bH) s.ai;have hw:IntKind.i64.wrap ((s.ai.length:Int) - 1)=(s.ai.length:Int) - 1:=cJ (by omega) (by omega);unfold gO;by_cases hok:de s=true
 ·have h:=Uo s q hs hq hok;unfold rA;cases hf:s.ai.reverse.find? (iF s q) with
  |none=>rw[hf] at h;simp[eX] at h;simp -implicitDefEqProofs [w9,h,hw,hok,eX]
  |some k=>rw[hf] at h;simp[eX] at h;simp -implicitDefEqProofs [w9,h,hw,hok,eX]
 have u1:=yT s (by omega);rw[show de s=false by simpa using hok] at u1;try simp at u1
 have hlp:∀(i:Int),aH (aj (ev LI TT) (av TT) oI) [(2,.ptr .own (aO .af s)),(3,.ptr .own (dw .af q)),(4,.ptr .own (aS .own eX)),(6,.int .i64 i)]=some (.exit 0,[(2,.ptr .own (aO .af s)),(3,.ptr .own (dw .af q)),(4,.ptr .own (aS .own eX)),(6,.int .i64 i),(17,.bool false)]):=by intro i;rw[dH];by_cases hi:0<=i<;>simp -implicitDefEqProofs [oI,uk,u1,hi]
 have h:=hlp (s.ai.length - 1);simp[eX] at h;simp -implicitDefEqProofs [w9,h,hw,hok,eX];all_goals (repeat' split)<;>first|rfl|omega|(simp_all;done)|(simp_all;omega)|skip
end M
set_option maxHeartbeats 4000000
namespace M
open Go
variable [Lb]
structure Cc where
 ns:Bool
 nc:Bool
 pr:Bool
 mu:Bool
 ha:Bool
 HQ:Int
@[simp] def nY(c:Cc):List X:=[.bool c.ns,.bool c.nc,.bool c.pr,.bool c.mu,.bool c.ha,.int .i64 c.HQ]
def jT:Cc:=⟨false,false,false,false,false,0⟩
def Ky:ag:=[110,111,45,115,116,111,114,101]
def Kw:ag:=[110,111,45,99,97,99,104,101]
def Kz:ag:=[112,114,105,118,97,116,101]
def Kv:ag:=[109,117,115,116,45,114,101,118,97,108,105,100,97,116,101]
def qh:ag:=[109,97,120,45,97,103,101,61]
def yW(w:ag):Option Nat:=if Lib.hasPrefix w qh=true then some ((dx (w.drop 8)).getD 0) else none
def yX(c:Cc)(w:ag):Cc:=if w=Ky then {c with ns:=true} else if w=Kw then {c with nc:=true} else if w=Kz then {c with pr:=true} else if w=Kv then {c with mu:=true} else
 match yW w with
 |some n=>{c with ha:=true,HQ:=if c.ha=true then min (n:Int) c.HQ else n}
 |none=>c
def Dm(v:ag):Cc:=(js v).foldl (λc w=>yX c (cH w)) jT
def pn(fs:List aE):Cc:=Dm ((dR fs wN).getD [])
def Rs:(⟨#[110,111,45,115,116,111,114,101]⟩:ByteArray)=⟨Ky.toArray⟩/\(⟨#[110,111,45,99,97,99,104,101]⟩:ByteArray)=⟨Kw.toArray⟩/\(⟨#[112,114,105,118,97,116,101]⟩:ByteArray)=⟨Kz.toArray⟩/\(⟨#[109,117,115,116,45,114,101,118,97,108,105,100,97,116,101]⟩:ByteArray)=⟨Kv.toArray⟩/\(⟨#[109,97,120,45,97,103,101,61]⟩:ByteArray)=⟨qh.toArray⟩:=⟨rfl,rfl,rfl,rfl,rfl⟩
def WI(w:ag)(hb:w.length<=1073741824):ev LI TT 229 [.str ⟨w.toArray⟩]=some (.ak [.int .i64 ((((yW w).getD 0:Nat):Int)),.bool ((yW w).isSome)],[.dead]):=by
 rw[ay (b:=xS) (rs:=[.t 2,.t 3]) (n:=1) rfl rfl];have hp:=Lib.hasPrefix_of_take w qh;have l8:qh.length=8:=rfl;have z:qh.toArray.size=8:=rfl;obtain⟨t1,t2,t3,t4,t5⟩:=Rs;rw[l8] at hp;unfold yW;by_cases g8:w.length<8
 ·have:Lib.hasPrefix w qh=false:=by rw[<-hp];simp;omega
  have jZ:(w.length:Int)<8:=by omega
  simp -implicitDefEqProofs [xS,t5,this,g8,jZ,ByteArray.size,z,l8]
 have jZ:¬(w.length:Int)<8:=by omega
 have g9:(8:Int)<=w.length:=by omega
 have g10:8<=w.length:=by omega
 have g11:decide (8<=w.length)=true:=by simp;omega
 rw[g11,MO] at hp;by_cases g:w.take 8=qh;rotate_left
 ·have:Lib.hasPrefix w qh=false:=by rw[<-hp];simpa using g
  simp -implicitDefEqProofs [xS,t5,this,g8,jZ,g9,g10,ByteArray.size,z,l8,Lib.extract_mk,eq_false g]
 have:Lib.hasPrefix w qh=true:=by rw[<-hp];simpa using g
 have u1:=vr (w.drop 8) (by simp;omega);have hz:(w.drop 8).take (w.length - 8)=w.drop 8:=yo (by simp);simp -implicitDefEqProofs [xS,t5,this,g8,jZ,g9,g10,ByteArray.size,z,l8,Lib.extract_mk,eq_true g,u1,hz];all_goals (repeat' split)<;>first|rfl|omega|(simp_all;done)|(simp_all;omega)|skip
def Ui(ws:List ag)(hl0:ws.length<=1073741825)(hb:∀w∈ws,w.length<=1073741824)(g:Cc):aH (aj (ev LI TT) (av TT) oH) [(2,.ptr .own (nY jT)),(3,.ptr .own (nY g)),(4,.row .own 1 (ws.map eS)),(5,.int .i64 0)]=some (.exit 0,[(2,.ptr .own (nY jT)),(3,.ptr .own (nY ((ws).foldl (λc w=>yX c (cH w)) g))),(4,.row .own 1 (ws.map eS)),(5,.int .i64 (ws).length),(15,.bool false)]):=by
 refine Kk (f:=aj (ev LI TT) (av TT) oH) (ws) (λi (g:Cc)=>[(2,.ptr .own (nY jT)),(3,.ptr .own (nY g)),(4,.row .own 1 (ws.map eS)),(5,.int .i64 i)]) (λc w=>yX c (cH w)) (λg=>[(2,.ptr .own (nY jT)),(3,.ptr .own (nY g)),(4,.row .own 1 (ws.map eS)),(5,.int .i64 (ws).length),(15,.bool false)]) (λ_ _=>True) g trivial (λi b g hi hl _=>?_) (λ_ _ _ _ _=>trivial) (λg _=>?_)
 ·have hw:=bz i (by first|omega|(simp at hl;omega));obtain⟨_,rfl⟩:=aN.1 hi;obtain⟨t1,t2,t3,t4,t5⟩:=Rs;have hx:=hb _ (cI hl);have v1:=NR ws[i] hx;have v2:(cH ws[i]).length<=1073741824:=by simp[cH];exact hx
  generalize cH ws[i]=w at v1 v2;have v3:=WI w v2;try simp at v1
  try simp at v3
  unfold yX;by_cases g1:w=Ky;·simp -implicitDefEqProofs [oH,su,hl,hw,v1,v3,t1,eq_true g1,jT]
  by_cases g2:w=Kw;·simp -implicitDefEqProofs [oH,su,hl,hw,v1,v3,t1,t2,eq_false g1,eq_true g2,jT]
  by_cases g3:w=Kz;·simp -implicitDefEqProofs [oH,su,hl,hw,v1,v3,t1,t2,t3,eq_false g1,eq_false g2,eq_true g3,jT]
  by_cases g4:w=Kv;·simp -implicitDefEqProofs [oH,su,hl,hw,v1,v3,t1,t2,t3,t4,eq_false g1,eq_false g2,eq_false g3,eq_true g4,jT]
  cases ha:yW w with
  |none=>rw[ha] at v3;simp at v3;simp -implicitDefEqProofs [oH,su,hl,hw,v1,v3,t1,t2,t3,t4,eq_false g1,eq_false g2,eq_false g3,eq_false g4,jT]
  |some n=>
  rw[ha] at v3;simp at v3;cases gh:g.ha;all_goals
  simp -implicitDefEqProofs [oH,su,hl,hw,v1,v3,t1,t2,t3,t4,eq_false g1,eq_false g2,eq_false g3,eq_false g4,gh,jT];all_goals (repeat' split)<;>first|rfl|omega|(simp_all;done)|(simp_all;omega)|skip
 ·simp -implicitDefEqProofs [oH,su]
def Wl(v:ag)(hb:v.length<=1073741824):ev LI TT 166 [.str ⟨v.toArray⟩]=some (.agg (nY (Dm v)),[.dead]):=by
 rw[ay (b:=Fv) (rs:=[.c 2 6 true 72]) (n:=1) rfl rfl];have hm:=Cv v;have hn:=Hl v;have u1:=NX v hb;try simp at u1
 have u2:=Ui (js v) (by omega) (λw hw=>by have:=hm w hw;omega) jT;try simp at u2
 rw[show (js v).foldl (λc w=>yX c (cH w)) jT=Dm v from rfl] at u2;simp[jT] at u2;simp -implicitDefEqProofs [Fv,u1,u2,jT];all_goals (repeat' split)<;>first|rfl|omega|(simp_all;done)|(simp_all;omega)|skip
def NM(fs:List aE)(hb:wL aJ fs<=1073741824):ev LI TT 80 [.row .af 2 (fs.map aK)]=some (.agg (nY (pn fs)),[.dead]):=by
 rw[ay (b:=Fu) (rs:=[.c 2 6 true 72]) (n:=1) rfl rfl];have hfl:=bx (w:=aJ) fs;have hg:=tH fs wN;have t3:(⟨#[99,97,99,104,101,45,99,111,110,116,114,111,108]⟩:ByteArray)=⟨wN.toArray⟩:=rfl;have u1:=Dc fs wN (by omega);try simp at u1
 have u2:=Wl ((dR fs wN).getD []) (by omega);try simp at u2
 rw[show Dm ((dR fs wN).getD [])=pn fs from rfl] at u2;simp -implicitDefEqProofs [Fu,u1,u2,t3];all_goals (repeat' split)<;>first|rfl|omega|(simp_all;done)|(simp_all;omega)|skip
end M
set_option maxHeartbeats 4000000
namespace M
open Go
variable [Lb]
def Wx(q:Rq)(hb:eV q<=1073741824):ev LI TT 78 [.agg (dw .af q)]=some (.bool (wU q),[.dead]):=by
 rw[ay (b:=xh) (rs:=[.t 2]) (n:=1) rfl rfl];have z8:eV q=q.path.length+wL aJ q.fields+q.body.length:=rfl;unfold wU;have u1:=Is q.path (by omega);try simp at u1
 have u2:=NQ q.fields (by omega);try simp at u2
 by_cases g1:1<=q.method;rotate_left;·simp -implicitDefEqProofs [xh,u1,u2,eq_false g1]
 by_cases g2:q.method<=4;rotate_left;·simp -implicitDefEqProofs [xh,u1,u2,eq_true g1,eq_false g2]
 cases g3:iu q.path<;>cases g4:jX q.fields<;>rw[g3] at u1<;>rw[g4] at u2;all_goals
 simp -implicitDefEqProofs [xh,u1,u2,eq_true g1,eq_true g2];all_goals (repeat' split)<;>first|rfl|omega|(simp_all;done)|(simp_all;omega)|skip
def Nu(q:Rq):Bool:=wU q && decide (q.method=1) && !(pn q.fields).ns
def Vs(a b:Rq):Bool:=Nu a && Nu b && decide (a.path=b.path) && decide (a.fields=b.fields)
end M
set_option maxHeartbeats 4000000
namespace M
open Go
variable [Lb]
end M
set_option maxHeartbeats 4000000
namespace M
open Go
variable [Lb]
end M
set_option maxHeartbeats 4000000
namespace M
open Go
variable [Lb]
def Dh(d:bD)(h1:d.cells.length<=1073741824)(h2:d.pending.length<=1073741824):ev LI TT 137 [.agg (cL .af d)]=some (.agg (cL .own d),[.dead]):=by rw[ay (b:=FY) (rs:=[.c 2 2 true 50]) (n:=1) rfl rfl];simp -implicitDefEqProofs [FY,GH,Sw,rowAt,(by omega:d.cells.length*16<=140737488355328),(by omega:d.pending.length*24<=140737488355328),FZ,Ls,F1,Lt,Lu,Lv];all_goals (repeat' split)<;>first|rfl|omega|(simp_all;done)|(simp_all;omega)|skip
def Nq(ws:List Wr):Prop:=∀w∈ws,0<=w.at_/\w.at_<=19
def jl{d:bD}(h:cO d=true):Nq d.pending/\d.cells.length=20/\d.pending.length<=16:=by simp only[cO,aq,bn] at h;refine⟨λw hw=>?_,by omega,by omega⟩;simpa [nD] using eZ.1 h.1.1 w hw
def gP(d:bD):bD:=⟨p6 (kJ [] true) d.cells d.pending,[]⟩
def UJ(d:bD)(keep:List Bool)(all:Bool)(hb:d.pending.length<=9223372036854775807)(ho:Nq d.pending)(hk:keep.length<=9223372036854775807)(cs:List ag)(hinv:cs.length=20):aH (aj (ev LI TT) (av TT) uM) [(1,.row .af 1 (keep.map eB)),(2,.bool all),(3,.ptr .own (cL .af d)),(6,.ptr .own [.row .own 1 [],.row .own 2 []]),(7,.ptr .own [.row .own 1 ((cs).map eS),.row .own 2 []]),(8,.int .i64 0)]=some (.exit 0,[(1,.row .af 1 (keep.map eB)),(2,.bool all),(3,.ptr .own (cL .af d)),(6,.ptr .own [.row .own 1 [],.row .own 2 []]),(7,.ptr .own [.row .own 1 (((foldI (lD (kJ keep all)) 0 (d.pending) cs)).map eS),.row .own 2 []]),(8,.int .i64 (d.pending).length),(18,.bool false)]):=by
 refine kK (f:=aj (ev LI TT) (av TT) uM) (d.pending) (λi (cs:List ag)=>[(1,.row .af 1 (keep.map eB)),(2,.bool all),(3,.ptr .own (cL .af d)),(6,.ptr .own [.row .own 1 [],.row .own 2 []]),(7,.ptr .own [.row .own 1 ((cs).map eS),.row .own 2 []]),(8,.int .i64 i)]) (lD (kJ keep all)) (λcs=>[(1,.row .af 1 (keep.map eB)),(2,.bool all),(3,.ptr .own (cL .af d)),(6,.ptr .own [.row .own 1 [],.row .own 2 []]),(7,.ptr .own [.row .own 1 ((cs).map eS),.row .own 2 []]),(8,.int .i64 (d.pending).length),(18,.bool false)]) (λi (cs:List ag)=>cs.length=20) cs hinv (λi b cs hi hl hinv=>?_) (λi b cs hi hinv=>?_) (λcs hinv=>?_)
 ·have hw:=bz i (by first|omega|(simp at hl;omega));obtain⟨_,rfl⟩:=aN.1 hi;have h1:=ho _ (cI hl);have h2:(d.pending[i]).at_.toNat<cs.length:=by omega
  cases all
  ·by_cases h4:i<keep.length;·cases h5:keep[i]<;>simp -implicitDefEqProofs [uM,BT,hl,hw,h1,h2,lD,kJ,h4,h5]
   ·simp -implicitDefEqProofs [uM,BT,hl,hw,h1,h2,lD,kJ,h4]
  simp -implicitDefEqProofs [uM,BT,hl,hw,h1,h2,lD,kJ]
 ·rw[QW];exact hinv
 ·simp -implicitDefEqProofs [uM,BT]
def NZ(d:bD)(keep:List Bool)(all:Bool)(h:cO d=true)(hk:keep.length<=9223372036854775807):ev LI TT 221 [.agg (cL .af d),.row .af 1 (keep.map eB),.bool all]=some (.agg (cL .own (⟨p6 (kJ keep all) d.cells d.pending,[]⟩)),[.dead,.dead,.dead]):=by
 rw[ay (b:=F5) (rs:=[.c 6 2 true 50]) (n:=3) rfl rfl];obtain⟨h0,h1,h1'⟩:=jl h;have h2:=UJ d keep all (by omega) h0 hk d.cells h1;try simp at h2
 simp -implicitDefEqProofs [F5,h1,h2,p6,GH,rowAt];all_goals (repeat' split)<;>first|rfl|omega|(simp_all;done)|(simp_all;omega)|skip
def yR(d:bD)(h:cO d=true):ev LI TT 148 [.agg (cL .af d)]=some (.agg (cL .own (gP d)),[.dead]):=by
 rw[ay (b:=FF) (rs:=[.c 2 2 true 50]) (n:=1) rfl rfl];obtain⟨h0,h1,h1'⟩:=jl h;have h2:=tq d (by omega);have h3:=NZ d [] true h (by simp);rw[h] at h2;try simp at h2
 try simp at h3
 simp -implicitDefEqProofs [FF,h2,h3,gP];all_goals (repeat' split)<;>first|rfl|omega|(simp_all;done)|(simp_all;omega)|skip
def Ik(d:bD)(at_:Int)(t:ag)(h:cO d=true)(ha:0<=at_/\at_<=19)(hp:d.pending.length<16):ev LI TT 122 [.agg (cL .af d),.int .i64 at_,.str ⟨t.toArray⟩]=some (.ak [.agg (cL .own (⟨d.cells,d.pending++[⟨at_,t⟩]⟩)),.bool true],[.dead,.dead,.dead]):=by
 rw[ay (b:=wZ) (rs:=[.c 6 2 true 50,.t 7]) (n:=3) rfl rfl];obtain⟨h0,h1,h1'⟩:=jl h;have h2:=tq d (by omega);have h3:=Dh d (by omega) (by omega);rw[h] at h2;try simp at h2
 try simp at h3
 have h4:¬(d.pending.length:Int)=16:=by omega
 have h5:(d.pending.length+1)*24<=140737488355328:=by omega
 simp -implicitDefEqProofs [wZ,h2,h3,h4,h5,ha,cE,rowAt];all_goals (repeat' split)<;>first|rfl|omega|(simp_all;done)|(simp_all;omega)|skip
def lG(d:bD)(a:Int)(t:ag):bD:=if 16<=(d.pending.length:Int) then ⟨(gP d).cells,[⟨a,t⟩]⟩ else ⟨d.cells,d.pending++[⟨a,t⟩]⟩
def Fm(s:Sh)(a:Int)(t:ag):Sh:=⟨lG s.aG a t,s.ai,s.aF,s.next,s.seq⟩
def vP{d:bD}(h:cO d=true):cO (gP d)=true:=by obtain⟨h0,h1,h1'⟩:=jl h;have:=QV (kJ [] true) d.cells d.pending;unfold cO gP;simp only[this,h1];rfl
def N2(s:Sh)(at_:Int)(t:ag)(h:cO s.aG=true)(ha:0<=at_/\at_<=19):ev LI TT 145 [.agg (aO .own s),.int .i64 at_,.str ⟨t.toArray⟩]=some (.agg (aO .own (Fm s at_ t)),[.dead,.dead,.dead]):=by
 rw[ay (b:=B6) (rs:=[.c 6 6 true 54]) (n:=3) rfl rfl];obtain⟨h0,h1,h1'⟩:=jl h;have h2:=yR s.aG h;try simp at h2
 unfold Fm lG;by_cases g:(s.aG.pending.length:Int)=16
 ·have h3:=Ik (gP s.aG) at_ t (vP h) ha (by simp[gP]);try simp[gP] at h3
  have g2:(16:Int)<=s.aG.pending.length:=by omega
  simp -implicitDefEqProofs [B6,h2,h3,g,gP]
 have h3:=Ik s.aG at_ t h ha (by omega);try simp at h3
 have g2:¬(16:Int)<=s.aG.pending.length:=by omega
 simp -implicitDefEqProofs [B6,h3,g,g2];all_goals (repeat' split)<;>first|rfl|omega|(simp_all;done)|(simp_all;omega)|skip
def rY(a:Int):Int:=if a=19 then 5 else a+1
def N0(a:Int)(h:5<=a/\a<=19):ev LI TT 139 [.int .i64 a]=some (.int .i64 (rY a),[.dead]):=by rw[ay (b:=F7) (rs:=[.t 2]) (n:=1) rfl rfl];unfold rY;have hw:IntKind.i64.wrap (a+1)=a+1:=cJ (by omega) (by omega);simp -implicitDefEqProofs [F7,hw];all_goals (repeat' split)<;>first|rfl|omega|(simp_all;done)|(simp_all;omega)|skip
def kS(a b:Ob):Bool:=decide (a.path=b.path) && decide (a.names=b.names) && decide (a.values=b.values)
def N3(a:Ob)(b:Ob)(ha:cr a<=1073741824)(hb:cr b<=1073741824):ev LI TT 138 [.agg (aS .af a),.agg (aS .af b)]=some (.bool (kS a b),[.dead,.dead]):=by
 rw[ay (b:=xK) (rs:=[.t 4]) (n:=2) rfl rfl];have hw:cr a=a.path.length+wL wS a.names+wL wS a.values+ct a.resp:=rfl;have fH:cr b=b.path.length+wL wS b.names+wL wS b.values+ct b.resp:=rfl;have l1:=bx (w:=wS) a.names;have l2:=bx (w:=wS) a.values;have l3:=bx (w:=wS) b.names;have l4:=bx (w:=wS) b.values;unfold kS;have u1:=Di a.names b.names (by omega) (by omega);try simp at u1
 have u2:=Di a.values b.values (by omega) (by omega);try simp at u2
 by_cases g:a.path=b.path;rotate_left;·simp -implicitDefEqProofs [xK,eq_false g]
 by_cases g2:a.names=b.names;rotate_left;·rw[decide_eq_false g2] at u1;simp -implicitDefEqProofs [xK,eq_true g,u1,eq_false g2]
 rw[decide_eq_true g2] at u1;simp -implicitDefEqProofs [xK,u1,u2,eq_true g,eq_true g2];all_goals (repeat' split)<;>first|rfl|omega|(simp_all;done)|(simp_all;omega)|skip
end M
namespace M
open Go
variable [Lb]
def dc(s:ag):Int×ag×Bool:=match ek 10 s with
 |some (l,b)=>match cm 32 l with
  |[_,w,_]=>if fJ ((dx w).getD 0:Nat) b=s then ((((dx w).getD 0:Nat):Int),b,true) else (0,[],false)
  |_=>(0,[],false)
 |none=>(0,[],false)
def NU(s:ag)(hb:s.length<=1073741824):ev LI TT 132 [.str ⟨s.toArray⟩]=some (.ak [.int .i64 ((dc s).1),.str ⟨((dc s).2.1).toArray⟩,.bool ((dc s).2.2)],[.dead]):=by
 rw[ay (b:=qu) (rs:=[.t 2,.t 3,.t 4]) (n:=1) rfl rfl];have u1:=Dg s 0 (by omega) hb;simp only[wB,wA,HH] at u1;unfold dc;cases hc:ek 10 s with
 |none=>rw[hc] at u1;have u2:=vw [] (by simp);simp at u1 u2;simp -implicitDefEqProofs [qu,u1,u2]
 |some p=>
 obtain⟨l,b⟩:=p;rw[hc] at u1;have hd:=ze hc;simp only at hd;obtain⟨d1,d2,d3⟩:=hd;have u2:=vw l (by omega);have d4:¬(((s.length - b.length:Nat):Int)<0):=by omega
 have d5:s.length - b.length<=s.length:=by omega
 have d6:¬s=[]:=by rintro rfl;simp at d1
 have hm:=xX 32 l;simp only at u1;generalize s.length - b.length=e at u1 d2 d4 d5;have d7:(e:Int)<=s.length:=by omega
 rcases hw:cm 32 l with _|⟨w0,_|⟨w1,_|⟨w2,_|⟨w3,ws⟩⟩⟩⟩;·exact absurd hw (GR 32 l)
 ·rw[hw] at u2;simp at u1 u2;simp -implicitDefEqProofs [qu,u1,u2,hw,d4]
 ·rw[hw] at u2;simp at u1 u2;simp -implicitDefEqProofs [qu,u1,u2,hw,d4]
 rotate_left
 ·rw[hw] at u2;have hn:¬((ws.length:Int)+1+1+1+1=3):=by omega
  simp at u1 u2;simp -implicitDefEqProofs [qu,u1,u2,hw,d4,hn]
 have hw1:=hm w1 (by rw[hw];simp);rw[hw] at u2;have u3:=vr w1 (by omega);have u4:=Il ((dx w1).getD 0:Nat) b (by omega);simp at u1 u2 u3;obtain⟨n,hn⟩:∃n,(dx w1).getD 0=n:=⟨_,rfl⟩;rw[hn] at u3 u4;have d8:s.length - e=b.length:=by rw[<-d2];simp
 by_cases g:fJ (n:Int) b=s;·simp -implicitDefEqProofs [qu,u1,u2,hw,u3,u4,d2,d4,d5,d6,d7,d8,hn,eq_true g,Lib.extract_mk]
 simp -implicitDefEqProofs [qu,u1,u2,hw,u3,u4,d2,d4,d5,d6,d7,d8,hn,eq_false g,Lib.extract_mk];all_goals (repeat' split)<;>first|rfl|omega|(simp_all;done)|(simp_all;omega)|skip
end M
set_option maxHeartbeats 4000000
namespace M
open Go
variable [Lb]
def R5{s:ag}(h:(dc s).2.2=false):dc s=(0,[],false):=by
 unfold dc at h⊢;(repeat' split at h)<;>first|(cases h;done)|skip
 all_goals (repeat' split)<;>simp_all
def Fq{s:ag}(h:(dc s).2.2=true):1<=(dc s).1/\(dc s).1<=100000/\(dc s).2.1.length<=2000/\fJ (dc s).1 (dc s).2.1=s/\s≠[]:=by
 unfold dc at h⊢;cases hc:ek 10 s with
 |none=>simp[hc] at h
 |some p=>
  obtain⟨l,b⟩:=p;have hs:s≠[]:=by rintro rfl;simp[ek] at hc
  simp only[hc] at h⊢;split at h
  ·rename_i w0 w w2 hw;split at h
   ·rename_i g;simp only[hw,g,dr];have g2:=g;unfold fJ at g;split at g;·rename_i c;exact⟨c.1,c.2.1,c.2.2,by trivial,hs⟩
    ·exact absurd g.symm hs
   ·cases h
  ·cases h
def R3(s:ag):(dc s).2.1.length<=2000:=by
 cases h:(dc s).2.2;·rw[R5 h];simp
 ·exact(Fq h).2.2.1
def Mb{s:ag}(h:eu s=true):s.length<=20:=by unfold eu at h;simp only[aq,bn] at h;omega
def Mj{s:ag}(h:fR s=true):s.length<=60:=by unfold fR at h;simp only[aq,bn] at h;omega
def RL{s:ag}(h:iu s=true):s.length<=60:=by unfold iu at h;simp only[aq,bn] at h;omega
def sP{α:Type}{w:α->Nat}{l:List α}{n m:Nat}(h:∀x∈l,w x<=n)(hl:l.length<=m):wL w l<=m*(n+1):=by
 suffices H:wL w l<=l.length*(n+1) from iT H (nR _ hl)
 clear hl;induction l with
 |nil=>simp[wL]
 |cons x l ih=>have h1:=h x (bE ..);have h2:=ih λy hy=>h y (cz _ hy);simp only[wL,cG,aY,oR,fB,Hy] at h2⊢;omega
def KS{r:cg}(h:fm r=true):ct r<=800:=by
 have A:=Ft h;have h1:wL aJ r.fields<=8*(80+1):=sP (λf hf=>by have:=DK A.f hf;have h1:=Mb this.1;have h2:=Mj this.2.1;simp only[aJ];omega) (O8 A.f)
 have h2:=A.b;simp only[ct];omega
def A8{o:Ob}(h:dn o=true):cr o<=1300:=by
 have A:=A7 h;have h1:=KS A.resp;have h2:=RL A.path;have hn:∀x∈o.names,x.length<=20:=by have:=A.names;unfold nA at this;simp only[aq] at this;exact λx hx=>Mb (eZ.1 this.1 x hx)
 have h3:wL wS o.names<=4*(20+1):=sP hn A.n4;have h4:wL wS o.values<=4*(60+1):=sP (λx hx=>Mj (A.vals x hx)) (by have:=A.len;have:=A.n4;omega);simp only[cr];omega
def Ry{s:ag}(h:(jF s).2=true):dn (jF s).1=true/\dU (jF s).1=s:=by have:=R1 h;refine⟨this.1,?_⟩;have h2:dn (jF s).1=true:=this.1;unfold dU;rw[az h2];exact this.2
def adb(s:ag):cr (jF s).1<=1300:=by
 cases h:(jF s).2;·have:jF s=(eR,false):=RZ h;rw[this];decide
 ·exact A8 (Ry h).1
def VH{b:Bn}(h:dP b=true):aW b<=120:=by
 unfold dP at h;simp only[aq,bn] at h;obtain⟨_,h⟩:=h;split at h;·simp only[aq,bn] at h;have:=RL h.1;simp[aW,h.2];omega
 ·split at h;·simp only[aq] at h;have h1:=Mb h.1;have h2:=Mj h.2;simp only[aW];omega
  ·cases h
def VN{b:Bn}(h:ia b≠[]):dP b=true:=by
 unfold ia at h;split at h;·assumption
 ·exact absurd rfl h
def VJ{s:ag}(h:(iX s).2=true)(hs:s≠[]):dP (iX s).1=true/\ia (iX s).1=s:=by
 unfold iX vn at h⊢;split at h
 ·split at h;·rename_i hw hg;simp only[hw,hg,dr];exact⟨VN (by rw[hg];exact hs),trivial⟩
  ·cases h
 ·cases h
def VI:iX []=(zB,false):=by simp[iX,vn,qU,ek,cm]
def VK{s:ag}(h:(iX s).2=true):dP (iX s).1=true/\ia (iX s).1=s:=by refine VJ h ?_;rintro rfl;rw[VI] at h;cases h
def AZ(m n:Int):Int:=if n<100000 then max m n else m
def nw(d:bD)(i:Nat)(g:List Bn×Int)(_:Nat):(List Bn×Int) ⊕ ((List Bn×Int)×Int×Bn×Nat):=
 if (dc (dZ d i)).2.2=true/\(iX (dc (dZ d i)).2.1).2=true then .inl (g.1++[(iX (dc (dZ d i)).2.1).1],AZ g.2 (dc (dZ d i)).1) else .inr (g,(dc (dZ d i)).1,(iX (dc (dZ d i)).2.1).1,i)
def H7{α β:Type}:α ⊕ (α×β)->α
 |.inl a=>a
 |.inr a=>a.1
def gA(d:bD):List Bn×Int:=H7 (ei (nw d) 0 (List.range 5) ([],0))
noncomputable def wI(bs:List Bn)(d:bD)(i:Nat)(g:List Kp×Int)(_:Nat):List Kp×Int:=
 if (dc (dZ d ((5+i:Nat):Int))).2.2=true/\(jF (dc (dZ d ((5+i:Nat):Int))).2.1).2=true/\(dc (dZ d ((5+i:Nat):Int))).1<100000 then
  (if fL bs (jF (dc (dZ d ((5+i:Nat):Int))).2.1).1=true then g.1 else g.1++[⟨(jF (dc (dZ d ((5+i:Nat):Int))).2.1).1,((5+i:Nat):Int),(dc (dZ d ((5+i:Nat):Int))).1⟩],max g.2 (dc (dZ d ((5+i:Nat):Int))).1)
 else g
noncomputable def wC(bs:List Bn)(d:bD)(m:Int):List Kp×Int:=foldI (wI bs d) 0 (List.range 15) ([],m)
def rU(all:List Kp)(i:Nat)(k:Kp):Bool:=(all.drop (i+1)).any λx=>decide (x.seq=k.seq)||kS x.obj k.obj
def rV(all:List Kp)(i:Nat)(g:List Kp×Int)(k:Kp):List Kp×Int:=if rU all i k=true then g else (g.1++[k],rY k.at_)
def iJ:List Kp->List Kp
 |[]=>[]
 |k::l=>if (l.any λx=>decide (x.seq=k.seq)||kS x.obj k.obj)=true then iJ l else k::iJ l
def uc(l:List Kp):Int:=l.getLast?.elim 5 λk=>rY k.at_
def p7(all:List Kp):List Kp×Int:=(iJ all,uc (iJ all))
def wz:∀l:List Kp,List.Sublist (iJ l) l
 |[]=>List.Sublist.refl _
 |k::l=>by
  unfold iJ;split;·exact(wz l).trans (List.sublist_cons_self ..)
  ·exact(wz l).cons_cons k
def Ke:∀l:List Kp,(iJ l).Pairwise λx y=>y.seq≠x.seq/\kS y.obj x.obj=false
 |[]=>List.Pairwise.nil
 |k::l=>by
  unfold iJ;split;·exact Ke l
  ·rename_i h;rw[eM];refine⟨λy hy=>?_,Ke l⟩;have:=(wz l).subset hy;simp only[Bool.not_eq_true,MR,sW,bn,not_or] at h;have:=h y this;exact⟨this.1,by simpa using this.2⟩
def QX(all:List Kp):∀(l:List Kp) (i:Nat) (g:List Kp×Int),all.drop i=l->foldI (rV all) i l g=(g.1++iJ l,if iJ l=[] then g.2 else uc (iJ l))
 |[],i,g,_=>by simp[foldI,iJ]
 |k::l,i,g,h=>by
  have hd:all.drop (i+1)=l:=by rw[<-CP,h];rfl
  rw[foldI,QX all l (i+1) _ hd];unfold rV rU;rw[hd];rw[show iJ (k::l)=(if (l.any λx=>decide (x.seq=k.seq)||kS x.obj k.obj)=true then iJ l else k::iJ l) from rfl];split;·rfl
  ·simp only[nS,TD,reduceCtorEq,ey];congr 1;cases hL:iJ l with
   |nil=>simp[uc]
   |cons a L=>simp[uc]
def ab6(all:List Kp):foldI (rV all) 0 all ([],5)=p7 all:=by
 rw[QX all all 0 _ rfl];unfold p7;simp only[kn];congr 1;split;·rename_i h;rw[h];rfl
 ·rfl
noncomputable def kL(d:bD):List Kp×Int:=wC (gA d).1 d (gA d).2
noncomputable def iK(d:bD):List Kp:=kP Kp.seq (kL d).1
noncomputable def ua(d:bD):Sh:=⟨d,(p7 (iK d)).1,(gA d).1,(p7 (iK d)).2,(kL d).2+1⟩
structure yF (k:Kp):Prop where
 o:dn k.obj=true
 a:5<=k.at_/\k.at_<=19
 s:1<=k.seq/\k.seq<100000
def Kn(d:bD){i:Nat}{g:List Bn×Int}(hg:(∀b∈g.1,dP b=true)/\g.1.length<=i/\0<=g.2/\g.2<100000){x:Nat}:
  (∀g',nw d i g x=.inl g'->(∀b∈g'.1,dP b=true)/\g'.1.length<=i+1/\0<=g'.2/\g'.2<100000)/\∀e,nw d i g x=.inr e->e.1=g:=by
 unfold nw;by_cases c:(dc (dZ d i)).2.2=true/\(iX (dc (dZ d i)).2.1).2=true
 ·rw[az c];refine⟨λg' h=>?_,λe h=>by cases h⟩;have r:=Fq c.1;have b:=VK c.2;cases h;refine⟨λy hy=>?_,by simp;omega,?_,?_⟩
  ·rcases dX.1 hy with hy|hy;·exact hg.1 y hy
   ·simp at hy;subst hy;exact b.1
  ·simp only[AZ];split<;>omega
  ·simp only[AZ];split<;>omega
 ·rw[aC c];exact⟨λg' h=>(by cases h),λe h=>(by cases h;rfl)⟩
def E7(d:bD):(∀b∈(gA d).1,dP b=true)/\(gA d).1.length<=5/\0<=(gA d).2/\(gA d).2<100000:=by
 have H:=KZ (go:=nw d) (I:=λi g=>(∀b∈g.1,dP b=true)/\g.1.length<=i/\0<=g.2/\g.2<100000) (O:=λe=>(∀b∈e.1.1,dP b=true)/\e.1.1.length<=5/\0<=e.1.2/\e.1.2<100000) 5
  (λi g b hi hg=>⟨(Kn d hg).1,λe he=>by rw[(Kn d hg).2 e he];exact⟨hg.1,by omega,hg.2.2⟩⟩) (List.range 5) 0 ([],0) (by simp) (by simp)
 unfold gA;cases hr:ei (nw d) 0 (List.range 5) ([],0) with
 |inl g=>exact H.1 g hr
 |inr g=>exact H.2 g hr
def Pv{β γ:Type}{go:Nat->γ->β->γ}(I:Nat->γ->Prop):∀(l:List β) (i:Nat) (g:γ),(∀j b g,i<=j->j<i+l.length->I j g->I (j+1) (go j g b))->I i g->I (i+l.length) (foldI go i l g)
 |[],i,g,_,h=>h
 |b::l,i,g,hs,h=>by rw[foldI,cG,show i+(l.length+1)=i+1+l.length by omega];exact Pv I l (i+1) _ (λj b g h1 h2 h3=>hs j b g (by omega) (by simp;omega) h3) (hs i b g (dz _) (by simp) h)
structure vj (i:Nat) (g:List Kp×Int):Prop where
 k:∀k∈g.1,yF k
 n:g.1.length<=i
 m:0<=g.2/\g.2<100000
 q:∀k∈g.1,k.seq<=g.2
 a:∀k∈g.1,k.at_<5+i
 d:g.1.Pairwise λx y=>x.at_≠y.at_
def Rn(bs:List Bn)(d:bD){i:Nat}(hi:i<15){g:List Kp×Int}(x:Nat)(h:vj i g):vj (i+1) (wI bs d i g x):=by
 unfold wI;split
 ·rename_i c;have r:=Fq c.1;have o:=Ry c.2.1;have hm:=h.m;split;·exact⟨h.k,by have:=h.n;simp only;omega,by simp only;omega,λk hk=>by have:=h.q k hk;simp only;omega,λk hk=>by have:=h.a k hk;omega,h.d⟩
  ·generalize dc (dZ d ((5+i:Nat):Int))=rr at*;generalize jc:((5+i:Nat):Int)=at_;refine⟨λk hk=>?_,by have:=h.n;rw[fE,TV];omega,by constructor<;>(try dsimp only)<;>omega,λk hk=>?_,λk hk=>?_,?_⟩
   ·rcases dX.1 hk with hk|hk;·exact h.k k hk
    ·rw[fA] at hk;subst hk;exact⟨o.1,⟨by (try dsimp only);omega,by (try dsimp only);omega⟩,⟨r.1,c.2.2⟩⟩
   ·rcases dX.1 hk with hk|hk;·have:=h.q k hk;(try dsimp only);omega
    ·rw[fA] at hk;subst hk;(try dsimp only);omega
   ·rcases dX.1 hk with hk|hk;·have:=h.a k hk;omega
    ·rw[fA] at hk;subst hk;(try dsimp only);omega
   ·dsimp only;rw[uX];refine⟨h.d,TB ..,λx hx y hy=>?_⟩;rw[fA] at hy;subst hy;have:=h.a x hx;(try dsimp only)
    omega
 ·exact⟨h.k,by have:=h.n;omega,h.m,h.q,λk hk=>by have:=h.a k hk;omega,h.d⟩
def acu(bs:List Bn)(d:bD)(m:Int)(hm:0<=m/\m<100000):vj 15 (wC bs d m):=by have:=Pv (go:=wI bs d) vj (List.range 15) 0 ([],m) (λj b g h1 h2 h3=>Rn bs d (by simp at h2;omega) b h3) ⟨by simp,by simp,hm,by simp,by simp,by simp⟩;simpa [wC] using this
def AQ(d:bD):vj 15 (kL d):=acu _ d _ (E7 d).2.2
def Rf{d:bD}{k:Kp}:k∈iK d↔k∈(kL d).1:=(GP Kp.seq _).mem_iff
def Re(d:bD):(iK d).length<=15:=by unfold iK;rw[(GP Kp.seq _).length_eq];exact(AQ d).n
def Rr{a:Int}(h:5<=a/\a<=19):5<=rY a/\rY a<=19:=by unfold rY;split<;>omega
def acW{l:List Kp}(h:∀k∈l,5<=k.at_/\k.at_<=19):5<=uc l/\uc l<=19:=by
 unfold uc;cases hl:l.getLast? with
 |none=>simp
 |some k=>exact Rr (h k (List.mem_of_getLast? hl))
def E6{d:bD}{k:Kp}(h:k∈iK d):yF k/\k.seq<=(kL d).2:=⟨(AQ d).k k (Rf.1 h),(AQ d).q k (Rf.1 h)⟩
end M
set_option maxHeartbeats 4000000
namespace M
open Go
variable [Lb]
end M
set_option maxHeartbeats 4000000
namespace M
open Go
variable [Lb]
def UR(s:ag)(hb:s.length<=1073741824):
  aH (aj (ev LI TT) (av TT) qy) [(0,.str ⟨s.toArray⟩),(4,.row .own 1 []),(5,.int .i64 0),(6,.int .i64 1)]=
  (match pO s with
   |.inl g=>some (.exit 0,[(0,.str ⟨s.toArray⟩),(4,.row .own 1 (g.1.map eS)),(5,.int .i64 g.2),(6,.int .i64 ((s.length - 1:Nat)+1:Nat)),(12,.bool false)])
   |.inr g=>some (.ret,[(2,.row .own 1 (g.1.map eS)),(3,.int .i64 g.2),(4,.dead)])):=by
 have:=Km (xt:=0) (f:=aj (ev LI TT) (av TT) qy) (s.drop 1) (λi (g:List ag×Nat)=>[(0,.str ⟨s.toArray⟩),(4,.row .own 1 (g.1.map eS)),(5,.int .i64 g.2),(6,.int .i64 ((i+1:Nat):Int))]) (λj=>gR s (j+1))
  (λg=>[(0,.str ⟨s.toArray⟩),(4,.row .own 1 (g.1.map eS)),(5,.int .i64 g.2),(6,.int .i64 ((s.length - 1:Nat)+1:Nat)),(12,.bool false)])
  (λg=>(.ret,[(2,.row .own 1 (g.1.map eS)),(3,.int .i64 g.2),(4,.dead)]))
  (λi g=>g.1.length<=i/\g.2<=i+1) ([],0) (by simp) (λi b g hi hl hg=>?_) (λi b g g' hi hg ng=>?_) (λg hg=>?_)
 ·simp only[gi] at this;refine this.trans ?_;unfold pO;cases ei (λj=>gR s (j+1)) 0 (s.drop 1) ([],0) with
  |inl g=>rfl
  |inr e=>rfl
 ·simp only[sX] at hl;have oc:i+1<s.length:=by omega
  have hi2:s[i+1]=b:=by rw[oY] at hi;have:=(aN.1 hi);obtain⟨_,h⟩:=this;rw[<-h];congr 1;omega
  have vT:i<s.length:=by omega
  have hw:IntKind.i64.wrap ((i:Int)+1+1)=(i:Int)+1+1:=cJ (by omega) (by omega);have fH:IntKind.i64.wrap (i:Int)=i:=cJ (by omega) (by omega);have n8:(0:Int)<=(i:Int)+1:=by omega
  have hlz:(g.1.length+1)*16<=140737488355328:=by omega
  have hls:((i:Int)+1<s.length):=by omega
  have ht:s[i]?=some s[i]:=bZ vT;have hle:(i:Int)<=s.length:=by omega
  unfold gR;simp only[Nat.add_sub_cancel,ht];by_cases g1:b=10;rotate_left;·have dB:¬(b.toNat:Int)=10:=λh=>g1 (sU.1 (by show b.toNat=10;omega));simp -implicitDefEqProofs [qy,uQ,oc,hls,hi2,hw,fH,n8,g1,dB,lv]
  subst g1;by_cases g2:s[i]=13;rotate_left;·have jY:¬((s[i]).toNat:Int)=13:=λh=>g2 (sU.1 (by show (s[i]).toNat=13;omega));simp -implicitDefEqProofs [qy,uQ,oc,hls,hi2,hw,fH,n8,g2,jY,vT,lv]
  by_cases g3:g.2+1<=i+1;rotate_left
  ·have k7:(i:Int)<g.2:=by omega
   simp -implicitDefEqProofs [qy,uQ,oc,hls,hi2,hw,fH,n8,g2,g3,k7,vT,lv]
  have k7:¬(i:Int)<g.2:=by omega
  have PG:(g.2:Int)<=i:=by omega
  have g5:1<=i+1:=by omega
  rw[yx];obtain⟨Y,hY⟩:∃Y,(s.drop g.2).take (i - g.2)=Y:=⟨_,rfl⟩;rw[hY];cases Y with
  |nil=>simp -implicitDefEqProofs [qy,uQ,oc,hls,hi2,hw,fH,n8,g2,g3,k7,PG,hY,g5,vT,lv,hle,Lib.extract_mk]
  |cons y Y=>simp -implicitDefEqProofs [qy,uQ,oc,hls,hi2,hw,fH,n8,g2,g3,k7,PG,hY,g5,vT,lv,hle,hlz,cE,Lib.extract_mk]
 ·unfold gR at ng;split at ng
  ·split at ng;·cases ng
   ·cases ng;simp;omega
  ·cases ng;omega
 ·have h0:¬(((s.length - 1:Nat):Int)+1<s.length):=by omega
  simp only[sX];simp -implicitDefEqProofs [qy,uQ,h0]
def WH(s:ag)(hb:s.length<=1073741824):ev LI TT 249 [.str ⟨s.toArray⟩]=some (.ak [.row .own 1 ((ig s).map eS),.int .i64 (lp s)],[.dead]):=by
 rw[ay (b:=Ce) (rs:=[.t 2,.t 3]) (n:=1) rfl rfl];have u1:=UR s hb;try simp at u1
 unfold ig lp;cases hr:pO s with
 |inl g=>rw[hr] at u1;simp at u1;simp -implicitDefEqProofs [Ce,u1]
 |inr g=>
 rw[hr] at u1;simp at u1;simp -implicitDefEqProofs [Ce,u1];all_goals (repeat' split)<;>first|rfl|omega|(simp_all;done)|(simp_all;omega)|skip
def Dr(i:Nat)(_:Unit)(x:UInt8×UInt8):Unit ⊕ Nat:=if q8 x=true then .inr i else .inl ()
def Ox:∀(l:List (UInt8×UInt8)) (i:Nat),ei Dr i l ()=match cU q8 i l with
  |some (k,_)=>.inr k
  |none=>.inl ()
 |[],_=>rfl
 |x::l,i=>by
  rw[ei,cU];unfold Dr;cases h:q8 x;·simp only[fC,ey];exact Ox l (i+1)
  ·simp
def UP(ls:List ag)(i:Nat)(hi:i<ls.length)(fs:List aE)(hm:ls[i].length<=1073741824)(hf:fs.length<=1073741824):
  aH (aj (ev LI TT) (av TT) sJ) [(0,.row .af 1 (ls.map eS)),(3,.row .own 2 (fs.map aK)),(4,.int .i64 i),(5,.int .i64 0)]=
  (match tD ls[i] with
   |none=>some (.exit 2,[(0,.row .af 1 (ls.map eS)),(3,.row .own 2 (fs.map aK)),(4,.int .i64 i),(5,.int .i64 (ls[i].zip (ls[i].drop 1)).length),(21,.bool false)])
   |some (k,_)=>some (.exit 2,[(0,.row .af 1 (ls.map eS)),(3,.row .own 2 ((fs++gT ls[i]).map aK)),(4,.int .i64 i)])):=by
 have:=Km (xt:=2) (f:=aj (ev LI TT) (av TT) sJ) (ls[i].zip (ls[i].drop 1)) (λk (_:Unit)=>[(0,.row .af 1 (ls.map eS)),(3,.row .own 2 (fs.map aK)),(4,.int .i64 i),(5,.int .i64 k)]) Dr
  (λ_=>[(0,.row .af 1 (ls.map eS)),(3,.row .own 2 (fs.map aK)),(4,.int .i64 i),(5,.int .i64 (ls[i].zip (ls[i].drop 1)).length),(21,.bool false)])
  (λk=>(.exit 2,[(0,.row .af 1 (ls.map eS)),(3,.row .own 2 ((fs++(if ls[i].take k=ff then [] else [(⟨ls[i].take k,ls[i].drop (k+2)⟩:aE)])).map aK)),(4,.int .i64 i)]))
  (λ_ _=>True) () trivial (λk b _ hk hl _=>?_) (λ_ _ _ _ _ _ _=>trivial) (λ_ _=>?_)
 ·refine this.trans ?_;rw[Ox];unfold gT tD;cases cU q8 0 (ls[i].zip (ls[i].drop 1)) with
  |none=>rfl
  |some x=>rfl
 ·have hlz:k+1<ls[i].length:=by simp at hl;omega
  have hk1:k<ls[i].length:=by omega
  obtain⟨q1,q2⟩:=M1.1 hk;obtain⟨_,h1⟩:=aN.1 q1;rw[oY,oS] at q2;obtain⟨_,h2⟩:=aN.1 q2;clear q1 q2;have n8:(0:Int)<=(k:Int)+1:=by omega
  have I9:(0:Int)<=(k:Int)+2:=by omega
  have PZ:((k:Int)+2).toNat=k+2:=by omega
  have htk:(ls[i].drop (k+2)).take (ls[i].length - (k+2))=ls[i].drop (k+2):=yo (by simp);have hw:=bz k (by omega);have fH:IntKind.i64.wrap ((k:Int)+2)=k+2:=cJ (by omega) (by omega);have hla:(fs.length+1)*32<=140737488355328:=by omega
  have hls:((k:Int)+1<ls[i].length):=by omega
  have hle:(k:Int)<=ls[i].length:=by omega
  have hle2:(k:Int)+2<=ls[i].length:=by omega
  obtain⟨b1,b2⟩:=b;simp only at h1 h2;unfold Dr q8;simp only;by_cases g1:b1=58;rotate_left;·have dB:¬(b1.toNat:Int)=58:=λh=>g1 (sU.1 (by show b1.toNat=58;omega));simp -implicitDefEqProofs [sJ,xQ,hi,hk1,hls,h1,hw,n8,g1,dB,lv]
  by_cases g2:b2=32;rotate_left;·have jY:¬(b2.toNat:Int)=32:=λh=>g2 (sU.1 (by show b2.toNat=32;omega));simp -implicitDefEqProofs [sJ,xQ,hi,hk1,hlz,hls,h1,h2,hw,n8,I9,g1,g2,jY,lv]
  subst g1 g2;by_cases g3:ls[i].take k=ff;·have k7:ls[i].take k=[99,111,110,116,101,110,116,45,108,101,110,103,116,104]:=g3;simp -implicitDefEqProofs [sJ,xQ,Cd,hi,hk1,hlz,hls,h1,h2,hw,n8,I9,PZ,htk,fH,g3,k7,lv,hle,hle2,Lib.extract_mk,ff]
  ·have k7:¬ls[i].take k=[99,111,110,116,101,110,116,45,108,101,110,103,116,104]:=g3;simp -implicitDefEqProofs [sJ,xQ,Cd,hi,hk1,hlz,hls,h1,h2,hw,n8,I9,PZ,htk,fH,g3,k7,lv,hle,hle2,hla,cE,Lib.extract_mk]
 ·have hlen:(ls[i].zip (ls[i].drop 1)).length=ls[i].length - 1:=by simp
  have h0:¬(((ls[i].length - 1:Nat):Int)+1<ls[i].length):=by omega
  have hw:=bz (ls[i].length - 1) (by omega);simp only[hlen];simp -implicitDefEqProofs [sJ,xQ,hi,h0,hw]
def UQ(ls:List ag)(hm:∀l∈ls,l.length<=1073741824)(hb:ls.length<=1073741824):aH (aj (ev LI TT) (av TT) xR) [(0,.row .af 1 (ls.map eS)),(3,.row .own 2 (([]).map aK)),(4,.int .i64 0)]=some (.exit 0,[(0,.row .af 1 (ls.map eS)),(3,.row .own 2 ((((ls).flatMap gT)).map aK)),(4,.int .i64 (ls).length),(11,.bool false)]):=by
 refine p9 (f:=aj (ev LI TT) (av TT) xR) (ls) gT (λi out=>[(0,.row .af 1 (ls.map eS)),(3,.row .own 2 ((out).map aK)),(4,.int .i64 i)]) (λout=>[(0,.row .af 1 (ls.map eS)),(3,.row .own 2 ((out).map aK)),(4,.int .i64 (ls).length),(11,.bool false)]) (λi b out hi hl hout=>?_) (λout hout=>?_)
 ·have hw:=bz i (by first|omega|(simp at hl;omega));obtain⟨_,rfl⟩:=aN.1 hi;have hlo:out.length<=i:=by rw[hout];exact DP _ (λb=>by unfold gT;split<;>(try split)<;>simp) _ _
  have u1:=UP ls i hl out (hm _ (cI hl)) (by omega);cases hc:tD ls[i] with
  |none=>
   rw[hc] at u1;have hz:gT ls[i]=[]:=by unfold gT;rw[hc]
   try simp at u1
   simp -implicitDefEqProofs [xR,Gz,hl,hw,u1,hz]
  |some x=>
  obtain⟨k,x⟩:=x;rw[hc] at u1;try simp at u1
  simp -implicitDefEqProofs [xR,Gz,hl,hw,u1]
 ·simp -implicitDefEqProofs [xR,Gz]
def WG(ls:List ag)(hm:∀l∈ls,l.length<=1073741824)(hb:ls.length<=1073741824):ev LI TT 250 [.row .af 1 (ls.map eS)]=some (.row .own 2 ((ls.flatMap gT).map aK),[.dead]):=by
 rw[ay (b:=GA) (rs:=[.t 2]) (n:=1) rfl rfl];have u1:=UQ ls hm hb;try simp at u1
 simp -implicitDefEqProofs [GA,u1,Cd];all_goals (repeat' split)<;>first|rfl|omega|(simp_all;done)|(simp_all;omega)|skip
def Wy(s:ag)(hb:s.length<=16777216):ev LI TT 211 [.str ⟨s.toArray⟩]=some (.ak [.agg (jv .own ((eT s).1)),.bool ((eT s).2)],[.dead]):=by
 rw[ay (b:=oJ) (rs:=[.c 2 3 true 29,.t 3]) (n:=1) rfl rfl];have u1:=WH s (by omega);try simp at u1
 rw[aev];have hw:=λr=>aeM (s:=s) (r:=r);have hh:=Qj s;have JA:∀l∈ig s,l.length<=16777216:=λl hl=>by have:=oO (w:=wS) hl;simp only[wS] at this;omega
 have zU:=bx (w:=wS) (ig s);have er:oF s=(if 0<=lp s/\ig s≠[] then (qF (cm 32 ((ig s).headD []))).map λw=>(⟨(((dx w).getD 0:Nat):Int),(ig s).tail.flatMap gT,s.drop (lp s).toNat⟩:cg) else none):=rfl;rw[er] at hw⊢;clear er;generalize ig s=ls at u1 hw hh JA zU⊢;generalize lp s=n at u1 hw hh⊢;by_cases g1:0<=n;rotate_left
 ·have dB:n<0:=by omega
  simp -implicitDefEqProofs [oJ,u1,g1,dB,dV]
 have dB:¬n<0:=by omega
 cases ls with
 |nil=>simp at u1;simp -implicitDefEqProofs [oJ,u1,g1,dB,dV]
 |cons l0 lt=>
 have hl0:=JA l0 (by simp);have u2:=vw l0 (by omega);have hm:=xX 32 l0;simp only[List.headD_cons,List.tail_cons] at hw⊢;have g2:0<=n/\l0::lt≠[]:=⟨g1,by simp⟩;have g3:¬((lt.length:Int)+1=0):=by omega
 rw[az g2] at hw⊢;rcases dM:cm 32 l0 with _|⟨w0,_|⟨w1,_|⟨w2,_|⟨w3,ws⟩⟩⟩⟩;·exact absurd dM (GR 32 l0)
 ·rw[dM] at u2;simp at u1 u2;simp -implicitDefEqProofs [oJ,u1,u2,qF,dV,dB,g3]
 ·rw[dM] at u2;simp at u1 u2;simp -implicitDefEqProofs [oJ,u1,u2,qF,dV,dB,g3]
 rotate_left
 ·rw[dM] at u2;have hn:¬((ws.length:Int)+1+1+1+1=3):=by omega
  simp at u1 u2;simp -implicitDefEqProofs [oJ,u1,u2,qF,dV,hn,dB,g3]
 rw[dM] at u2 hw;have hw1:=hm w1 (by rw[dM];simp);have u3:=vr w1 (by omega);have u5:=WG lt (λl hl=>by have:=JA l (cz _ hl);omega) (by simp at zU;omega);have hr:=hw ⟨(((dx w1).getD 0:Nat):Int),lt.flatMap gT,s.drop n.toNat⟩ rfl;have u4:=NV ⟨(((dx w1).getD 0:Nat):Int),lt.flatMap gT,s.drop n.toNat⟩ (by omega);have hn2:n<=s.length:=hh.2.1;have Qw:(lt.map eS).take lt.length=lt.map eS:=yo (by simp);have vV:(1:Int)<=(lt.length:Int)+1:=by omega
 have htk:(s.drop n.toNat).take (s.length - n.toNat)=s.drop n.toNat:=yo (by simp);simp only[qF,cv];obtain⟨st,hst⟩:∃st,(((dx w1).getD 0:Nat):Int)=st:=⟨_,rfl⟩;rw[hst] at u3 u4⊢;by_cases g:fZ ⟨st,lt.flatMap gT,s.drop n.toNat⟩=s;·rw[g] at u4;simp at u1 u2 u3 u4 u5;simp -implicitDefEqProofs [oJ,FL,FM,u1,u2,u3,u4,u5,g,g1,dB,g3,hn2,vV,htk,Qw,dV,Lib.extract_mk]
 simp at u1 u2 u3 u4 u5;simp -implicitDefEqProofs [oJ,u1,u2,u3,u4,u5,g,g1,dB,g3,hn2,vV,htk,Qw,dV,Lib.extract_mk,FL,FM];all_goals (repeat' split)<;>first|rfl|omega|(simp_all;done)|(simp_all;omega)|skip
end M
set_option maxHeartbeats 4000000
namespace M
open Go
variable [Lb]
def Sa(s:ag):ct (eT s).1<=800:=by
 cases h:(eT s).2;·have:eT s=(dV,false):=RZ h;rw[this];decide
 ·exact KS (R1 h).1
def Td(fs:List aE):wL wS (dJ fs)<=(wL aJ fs+1)*(wL aJ fs+1):=by refine sP (λw hw=>?_) (Hg fs);unfold dJ at hw;obtain⟨x,hx,rfl⟩:=aU.1 hw;have h1:=Cv _ x hx;have h2:=tH fs ji;simp only[wS,cH,dO];omega
def ahX(s:ag):wL wS (dJ (eT s).1.fields)<=641601:=by
 have h1:=Sa s;have h2:=Td (eT s).1.fields;have h3:wL aJ (eT s).1.fields+1<=801:=by have:ct (eT s).1=wL aJ (eT s).1.fields+(eT s).1.body.length:=rfl;omega
 exact iT h2 (Nat.mul_le_mul h3 h3)
def ki:Nat->ag->Option (List ag×ag)
 |0,s=>some ([],s)
 |n+1,s=>(ek 10 s).bind λp=>(ki n p.2).map λq=>(p.1::q.1,q.2)
def SX:∀(n:Nat) (s:ag) (q:List ag×ag),ki n s=some q->q.1.length=n/\(∀v∈q.1,v.length<=s.length)/\q.2.length<=s.length/\s.drop (s.length - q.2.length)=q.2
 |0,s,q,h=>by simp[ki] at h;subst h;simp
 |n+1,s,q,h=>by
  rw[ki] at h;obtain⟨p,h1,h2⟩:=kU.1 h;obtain⟨r,h3,rfl⟩:=mJ.1 h2;have hd:=ze h1;have ih:=SX n p.2 r h3;refine⟨by simp[ih.1],λv hv=>?_,by simp only;omega,?_⟩
  ·rcases cu.1 hv with rfl|hv;·omega
   ·have:=ih.2.1 v hv;omega
  ·simp only;have e:s.length - r.2.length=(s.length - p.2.length)+(p.2.length - r.2.length):=by omega
   rw[e,<-CP,hd.2.1];exact ih.2.2.2
def SW(r:ag):∀(l:List ag),(∀v∈l,bR 10 v)->ki l.length (kT l++r)=some (l,r)
 |[],_=>rfl
 |v::l,h=>by
  have e:kT (v::l)++r=v++10::(kT l++r):=by simp[kT]
  rw[e,cG,ki,OA v _ (h v (bE ..))];simp only[jK];rw[SW r l λx hx=>h x (cz _ hx)];rfl
noncomputable def wO(s:ag):Option Ob:=(ek 10 s).bind λc=>(yj (cm 32 c.1)).bind λw=>(ki (min ((dx w.2.2).getD 0) 4) c.2).map λq=>⟨w.1,dJ (eT q.2).1.fields,q.1,(eT q.2).1,(((dx w.2.1).getD 0:Nat):Int)⟩
def adf:wO []=none:=by simp[wO,ek]
def ade{o:Ob}(ho:dn o=true):wO (nB o)=some o:=by
 have h:=A7 ho;unfold wO nB;rw[OA _ _ (ac5 h)];simp only[jK];rw[ac6 h];have h0:=h.t0;have h1:=h.t1;have hl:=h.len;have h4:=h.n4
 have hn:dx (eP o.t)=some o.t.toNat:=by
  have e:o.t=((o.t.toNat:Nat):Int):=by omega
  rw[e,ac0 _ (by omega)];simp;omega
 have hd:dx (bu o.values.length)=some o.values.length:=r6.2 ⟨by omega,rfl⟩;simp only[yj,jK,hn,hd,sS];rw[nQ (by omega),SW (iw o.resp) o.values (ahV h)];have h2:eT (iw o.resp)=(o.resp,true):=aeo (cand:=KX) (λr h=>aeI h) h.resp;simp only[cv,h2];have ht:((o.t.toNat:Nat):Int)=o.t:=by omega
 rw[ht,<-h.ahW]
def ac9(s:ag):jF s=match wO s with
  |some o=>if dU o=s then (o,true) else (eR,false)
  |none=>(eR,false):=ada (λo h=>ade h) adf s
end M
set_option maxHeartbeats 4000000
namespace M
open Go
variable [Lb]
def Nh(s p:ag)(tt:Int)(n:Nat)(hn:n<=1000000)(hs:s.length<=16777216):∀(m i:Nat) (g:List ag) (t:ag),i+m=min n 4->g.length=i->t.length<=s.length->s.drop (s.length - t.length)=t->
  (∀q,ki m t=some q->aH (aj (ev LI TT) (av TT) mA) [(0,.str ⟨s.toArray⟩),(2,.ptr .own (aS .own eR)),(5,.int .i64 ((s.length - t.length:Nat):Int)),(9,.int .i64 n),(11,.ptr .own (aS .own ⟨p,[],g,dV,tt⟩)),(12,.int .i64 i)]=some (.exit 0,[(0,.str ⟨s.toArray⟩),(2,.ptr .own (aS .own eR)),(5,.int .i64 ((s.length - q.2.length:Nat):Int)),(9,.int .i64 n),(11,.ptr .own (aS .own ⟨p,[],g++q.1,dV,tt⟩)),(12,.int .i64 (min n 4:Nat)),(59,.bool false)]))/\
  (ki m t=none->∃g' j,aH (aj (ev LI TT) (av TT) mA) [(0,.str ⟨s.toArray⟩),(2,.ptr .own (aS .own eR)),(5,.int .i64 ((s.length - t.length:Nat):Int)),(9,.int .i64 n),(11,.ptr .own (aS .own ⟨p,[],g,dV,tt⟩)),(12,.int .i64 i)]=some (.exit 0,[(0,.str ⟨s.toArray⟩),(2,.ptr .own (aS .own eR)),(5,.int .i64 (-1)),(9,.int .i64 n),(11,.ptr .own (aS .own ⟨p,[],g',dV,tt⟩)),(12,.int .i64 j),(59,.bool false)]))
 |0,i,g,t,hi,hg,ht,hd=>by
  refine⟨λq hq=>?_,λh=>by simp[ki] at h⟩;simp[ki] at hq;subst hq;have:i=min n 4:=by omega
  rw[<-this];rw[dH];by_cases g1:(i:Int)<n
  ·have g2:¬(i:Int)<4:=by omega
   have dB:i<n:=by omega
   have jY:¬i<4:=by omega
   simp -implicitDefEqProofs [mA,sA,dV,eR,g1,g2,dB,jY]
  ·have dB:¬i<n:=by omega
   simp -implicitDefEqProofs [mA,sA,dV,eR,g1,dB]
 |m+1,i,g,t,hi,hg,ht,hd=>by
  have g1:i<n:=by omega
  have g2:i<4:=by omega
  have dB:(i:Int)<n:=by omega
  have jY:(i:Int)<4:=by omega
  have hw:=bz i (by omega);have u1:=Dg s (s.length - t.length) (by omega) (by omega);unfold wB wA at u1;rw[hd] at u1;have hlz:(g.length+1)*16<=140737488355328:=by omega
  have jc:(0:Int)<=((s.length - t.length:Nat):Int):=by omega
  obtain⟨e,he⟩:∃e,s.length - t.length=e:=⟨_,rfl⟩;rw[ki];cases hc:ek 10 t with
  |none=>
   refine⟨λq hq=>by simp at hq,λ_=>⟨g++[[]],(i+1:Nat),?_⟩⟩;rw[hc] at u1;rw[he] at u1 jc⊢
   have hstep:aj (ev LI TT) (av TT) mA [(0,.str ⟨s.toArray⟩),(2,.ptr .own (aS .own eR)),(5,.int .i64 (e:Int)),(9,.int .i64 n),(11,.ptr .own (aS .own ⟨p,[],g,dV,tt⟩)),(12,.int .i64 i)]=some (.normal,[(0,.str ⟨s.toArray⟩),(2,.ptr .own (aS .own eR)),(5,.int .i64 (-1)),(9,.int .i64 n),(11,.ptr .own (aS .own ⟨p,[],g++[[]],dV,tt⟩)),(12,.int .i64 ((i+1:Nat):Int))]):=by
    try simp at u1
    simp -implicitDefEqProofs [mA,sA,dV,eR,g1,g2,dB,jY,hw,u1,hlz,cE]
   rw[dH,hstep];show aH _ _=_;rw[dH];by_cases g3:i+1<n
   ·have k7:(i:Int)+1<n:=by omega
    by_cases g4:i+1<4
    ·have rE:(i:Int)+1<4:=by omega
     simp -implicitDefEqProofs [mA,sA,dV,eR,g3,k7,g4,rE]
    ·have rE:¬(i:Int)+1<4:=by omega
     simp -implicitDefEqProofs [mA,sA,dV,eR,g3,k7,g4,rE]
   ·have k7:¬(i:Int)+1<n:=by omega
    simp -implicitDefEqProofs [mA,sA,dV,eR,g3,k7]
  |some c=>
   obtain⟨l,r⟩:=c;have bw:=ze hc;simp only at bw;rw[hc] at u1;simp only at u1;have e2:(s.length - t.length)+(t.length - r.length)=s.length - r.length:=by omega
   have aaO:s.drop (s.length - r.length)=r:=by rw[<-e2,<-CP,hd];exact bw.2.1
   have ih:=Nh s p tt n hn hs m (i+1) (g++[l]) r (by omega) (by simp;omega) (by omega) aaO;obtain⟨f,hf⟩:∃f,s.length - r.length=f:=⟨_,rfl⟩
   have u2:ev LI TT 209 [.str ⟨s.toArray⟩,.int .i64 (e:Int)]=some (.ak [.str ⟨l.toArray⟩,.int .i64 (f:Int)],[.dead,.dead]):=by
    rw[he] at u1;have:(s.length:Int) - r.length=(f:Int):=by omega
    first|exact u1|(simp at u1⊢;rw[u1];simp;omega)|(rw[u1];simp;omega)
   rw[he] at jc⊢;rw[hf] at ih
   have hstep:aj (ev LI TT) (av TT) mA [(0,.str ⟨s.toArray⟩),(2,.ptr .own (aS .own eR)),(5,.int .i64 (e:Int)),(9,.int .i64 n),(11,.ptr .own (aS .own ⟨p,[],g,dV,tt⟩)),(12,.int .i64 i)]=some (.normal,[(0,.str ⟨s.toArray⟩),(2,.ptr .own (aS .own eR)),(5,.int .i64 (f:Int)),(9,.int .i64 n),(11,.ptr .own (aS .own ⟨p,[],g++[l],dV,tt⟩)),(12,.int .i64 ((i+1:Nat):Int))]):=by
    try simp at u2
    simp -implicitDefEqProofs [mA,sA,dV,eR,g1,g2,dB,jY,hw,u2,hlz,cE]
   refine⟨λq hq=>?_,λhq=>?_⟩;·obtain⟨q',h1,rfl⟩:=mJ.1 hq;rw[dH,hstep];have:=ih.1 q' h1;rw[nS] at this;exact this
   ·have h1:ki m r=none:=by simpa using hq
    obtain⟨g',j,h2⟩:=ih.2 h1;refine⟨g',j,?_⟩;rw[dH,hstep];exact h2
def Ww(s:ag)(hb:s.length<=16777216):ev LI TT 134 [.str ⟨s.toArray⟩]=some (.ak [.agg (aS .own ((jF s).1)),.bool ((jF s).2)],[.dead]):=by
 rw[ay (b:=sB) (rs:=[.c 2 7 true 31,.t 3]) (n:=1) rfl rfl];have u1:=Dg s 0 (by omega) (by omega);simp only[wB,wA,HH] at u1;rw[ac9];have eo:wO s=(ek 10 s).bind λc=>(yj (cm 32 c.1)).bind λw=>(ki (min ((dx w.2.2).getD 0) 4) c.2).map λq=>(⟨w.1,dJ (eT q.2).1.fields,q.1,(eT q.2).1,(((dx w.2.1).getD 0:Nat):Int)⟩:Ob):=rfl;rw[eo];clear eo;cases hc:ek 10 s with
 |none=>rw[hc] at u1;have u2:=vw [] (by simp);simp at u1 u2;simp -implicitDefEqProofs [sB,u1,u2,eR,dV]
 |some c=>
 obtain⟨l,b⟩:=c;rw[hc] at u1;have hd:=ze hc;simp only at hd;obtain⟨d1,d2,d3⟩:=hd;have u2:=vw l (by omega);have hm:=xX 32 l;have d4:¬(((s.length - b.length:Nat):Int)<0):=by omega
 simp only[jK] at u1⊢;by_cases h4:(cm 32 l).length=4;rotate_left
 ·have D7:¬(((cm 32 l).length:Int)=4):=by omega
  have hw4:yj (cm 32 l)=none:=by unfold yj;split;(rename_i e;rw[e] at h4;simp at h4);rfl
  rw[hw4];obtain⟨e,he⟩:∃e,s.length - b.length=e:=⟨_,rfl⟩;rw[he] at u1 d4;try simp at u1 u2
  simp -implicitDefEqProofs [sB,u1,u2,D7,d4,eR,dV]
 obtain⟨w0,w1,w2,w3,hw⟩:=QY h4;rw[hw] at u2 hm⊢;have u3:=vr w2 (by have:=hm w2 (by simp);omega);have u4:=vr w3 (by have:=hm w3 (by simp);omega);have hm1:=hm w1 (by simp);simp only[yj,jK];obtain⟨n,hn⟩:∃n,(dx w3).getD 0=n:=⟨_,rfl⟩
 have hnb:n<=1000000:=by
  rw[<-hn];cases hq:dx w3 with
  |none=>simp
  |some x=>have:=(r6.1 hq).1;simp;omega
 rw[hn] at u4⊢;obtain⟨t,ht⟩:∃t,(((dx w2).getD 0:Nat):Int)=t:=⟨_,rfl⟩;rw[ht] at u3⊢;have u5:=Nh s w1 t n hnb hb (min n 4) 0 [] b (by omega) rfl (by omega) d2;obtain⟨e,he⟩:∃e,s.length - b.length=e:=⟨_,rfl⟩;rw[he] at u1 d4 u5;cases hq:ki (min n 4) b with
 |none=>obtain⟨g',j,u6⟩:=u5.2 hq;simp[dV,eR] at u1 u2 u3 u4 u6;simp -implicitDefEqProofs [sB,u1,u2,u3,u4,u6,d4,eR,dV]
 |some q=>
 have u6:=u5.1 q hq;have hv:=SX _ _ _ hq;obtain⟨vs,rest⟩:=q;simp only[cv] at hv u6⊢;have hrl:rest.length<=s.length:=by omega
 have bw:s.drop (s.length - rest.length)=rest:=by
  have e2:(s.length - b.length)+(b.length - rest.length)=s.length - rest.length:=by omega
  rw[<-e2,<-CP,d2];exact hv.2.2.2
 have u7:=Wy rest (by omega);have hrw:=Sa rest;have hvw:=ahX rest;have hrf:ct (eT rest).1=wL aJ (eT rest).1.fields+(eT rest).1.body.length:=rfl;have u8:=Df (eT rest).1.fields (by omega);have hvs:wL wS vs<=4*(16777216+1):=sP (λv gS=>by have:=hv.2.1 v gS;simp only[wS];omega) (by omega);have u9:=NS ⟨w1,dJ (eT rest).1.fields,vs,(eT rest).1,t⟩ (by simp only[cr];omega);generalize dJ (eT rest).1.fields=vo at u8 u9⊢;generalize eT rest=rr at u7 u8 u9⊢;obtain⟨⟨rst,rfs,rbd⟩,rok⟩:=rr;simp only at u7 u8 u9⊢;obtain⟨f,hf⟩:∃f,s.length - rest.length=f:=⟨_,rfl⟩;rw[hf] at u6 bw;have d5:¬((f:Int)<0):=by omega
 have d6:(f:Int)<=s.length:=by omega
 have d7:(s.drop f).take (s.length - f)=s.drop f:=yo (by simp);rw[bw] at d7;simp only[eR,dV,kn] at u6 u9⊢;simp at u1 u2 u3 u4 u6 u7 u8;by_cases gt:dU ⟨w1,vo,vs,⟨rst,rfs,rbd⟩,t⟩=s;·rw[gt] at u9;simp at u9;simp -implicitDefEqProofs [sB,u1,u2,u3,u4,u6,u7,u8,u9,d4,d5,d6,d7,bw,gt,Lib.extract_mk]
 simp at u9;simp -implicitDefEqProofs [sB,u1,u2,u3,u4,u6,u7,u8,u9,d4,d5,d6,d7,bw,gt,eq_false gt,Lib.extract_mk];all_goals (repeat' split)<;>first|rfl|omega|(simp_all;done)|(simp_all;omega)|skip
end M
set_option maxHeartbeats 4000000
namespace M
open Go
variable [Lb]
def Fb{α:Type}(T:List α)(n:Nat)(a:α)(h:T[n]?=some a)(g:α->α):T.modify n g=T.set n (g a):=by
 apply gX;intro j;rw[ve,vf];by_cases e:n=j;·subst e;obtain⟨hi,hh⟩:=aN.1 h;have hg:T[n]=a:=hh;simp[hg,hi]
 ·simp[e]
def qA{α:Type}(T:List α)(n:Nat)(a:α)(g:α->α):(T.set n a).modify n g=T.set n (g a):=by
 apply gX;intro j;rw[ve,vf,vf];by_cases e:n=j;·subst e;by_cases h:n<T.length<;>simp[h]
 ·simp[e]
def fe(k:Kp):List X:=[.str ⟨k.obj.path.toArray⟩,.dead,.dead,.int .i64 k.obj.resp.status,.dead,.str ⟨k.obj.resp.body.toArray⟩,.int .i64 k.obj.t,.int .i64 k.at_,.int .i64 k.seq]
def ahZ{α:Type}(w:α->Nat)(l:List α)(i:Nat)(v:α):wL w (l.set i v)<=wL w l+w v:=by
 unfold wL;rw[CS];induction l generalizing i with
 |nil=>simp
 |cons a l ih=>
  cases i with
  |zero=>simp;omega
  |succ i=>have:=ih i;simp at this⊢;omega
def yf{α:Type}(w:α->Nat)(a b:List α):wL w (a++b)=wL w a+wL w b:=by unfold wL;simp;omega
def Ti{α:Type}(w:α->Nat)(p:α->Bool)(l:List α):wL w (l.filter p)<=wL w l:=by
 induction l with
 |nil=>simp[wL]
 |cons a l ih=>rw[List.filter_cons];split<;>simp[wL] at ih⊢ <;>omega
def I2(k:Nat->Bool):∀(ws:List Wr) (i:Nat) (cs:List ag),wL wS (foldI (lD k) i ws cs)<=wL wS cs+wL di ws
 |[],i,cs=>by simp[foldI]
 |w::ws,i,cs=>by
  have h:=I2 k ws (i+1) (lD k i cs w)
  have h2:wL wS (lD k i cs w)<=wL wS cs+di w:=by
   unfold lD;split;·exact ahZ wS cs _ w.text
   ·omega
  have h3:wL di (w::ws)=di w+wL di ws+1:=by simp[wL];omega
  rw[foldI];omega
def zy(d:bD):bU (gP d)<=bU d:=by have:=I2 (kJ [] true) d.pending 0 d.cells;show wL wS (p6 (kJ [] true) d.cells d.pending)+wL di []<=wL wS d.cells+wL di d.pending;unfold p6;have h:wL di ([]:List Wr)=0:=rfl;omega
def RS(d:bD)(a:Int)(t:ag):bU (lG d a t)<=bU d+t.length+1:=by
 have h:=zy d;have h1:wL di [⟨a,t⟩]=t.length+1:=by simp[wL,di];omega
 unfold lG;split;·show wL wS (gP d).cells+wL di [⟨a,t⟩]<=_;have h2:bU (gP d)=wL wS (gP d).cells+wL di []:=rfl;have h:wL di ([]:List Wr)=0:=rfl;omega
 ·show wL wS d.cells+wL di (d.pending++[⟨a,t⟩])<=wL wS d.cells+wL di d.pending+t.length+1;rw[yf];omega
structure Vf (s:Sh):Prop where
 d:cO s.aG=true
 b:(s.aF.length:Int)<=5
 n:5<=s.next/\s.next<=19
 q:1<=s.seq/\s.seq<=100000
 bs:bq dP s.aF=true
 os:oz s.seq s.ai=true
def nI{s:Sh}(h:de s=true):Vf s:=by unfold de at h;simp only[aq,bn] at h;exact⟨h.1.1.1.1.1,h.1.1.1.1.2,h.1.1.1.2,h.1.1.2,h.1.2,h.2⟩
def aeZ{s:Sh}(h:de s=true){k:Kp}(hk:k∈s.ai):dn k.obj=true:=by unfold de at h;simp only[aq] at h;have:=h.2;unfold oz at this;obtain⟨i,hi,rfl⟩:=nT hk;have h2:=eZ.1 this (s.ai[i],i) (lM (i:=i) (by simp[hi]));unfold ow at h2;simp only[aq] at h2;exact h2.1.1.1.1
end M
set_option maxHeartbeats 4000000
namespace M
open Go
variable [Lb]
def PI(d:bD)(a:Int):(dZ d a).length<=bU d:=by
 have hw:bU d=wL wS d.cells+wL di d.pending:=rfl;unfold dZ;rw[Pz];cases h:d.pending.reverse.find? (λw=>decide (w.at_=a)) with
 |none=>
  simp only[Option.elim_none];rw[jO];cases h2:d.cells[a.toNat]? with
  |none=>simp
  |some s=>have:=oO (w:=wS) (lM h2);simp only[wS] at this;simp only[sS];omega
 |some w=>have:=Tx h;have:=oO (w:=di) (Ht.1 this);simp only[di] at this;simp only[Option.elim_some];omega
def Uj(d:bD)(a:Int)(hb:d.pending.length<=9223372036854775807)(x:ag):aH (aj (ev LI TT) (av TT) Bo) [(1,.int .i64 a),(2,.ptr .own (cL .af d)),(5,.str ⟨(x).toArray⟩),(6,.int .i64 0)]=some (.exit 0,[(1,.int .i64 a),(2,.ptr .own (cL .af d)),(5,.str ⟨(((d.pending).foldl (λout w=>if w.at_=a then w.text else out) x)).toArray⟩),(6,.int .i64 (d.pending).length),(24,.bool false)]):=by
 refine Kk (f:=aj (ev LI TT) (av TT) Bo) (d.pending) (λi (x:ag)=>[(1,.int .i64 a),(2,.ptr .own (cL .af d)),(5,.str ⟨(x).toArray⟩),(6,.int .i64 i)]) (λout w=>if w.at_=a then w.text else out) (λx=>[(1,.int .i64 a),(2,.ptr .own (cL .af d)),(5,.str ⟨(x).toArray⟩),(6,.int .i64 (d.pending).length),(24,.bool false)]) (λ_ _=>True) x trivial (λi b x hi hl _=>?_) (λ_ _ _ _ _=>trivial) (λx _=>?_);·have hw:=bz i (by first|omega|(simp at hl;omega));obtain⟨_,rfl⟩:=aN.1 hi;simp -implicitDefEqProofs [Bo,K8,hl,hw];split<;>rfl
 ·simp -implicitDefEqProofs [Bo,K8]
def NN(d:bD)(a:Int)(hb:d.pending.length<=9223372036854775807):ev LI TT 133 [.agg (cL .af d),.int .i64 a]=some (.str ⟨(if cO d=true/\0<=a/\a<=19 then dZ d a else []).toArray⟩,[.dead,.dead]):=by
 rw[ay (b:=Fx) (rs:=[.t 4]) (n:=2) rfl rfl];have h:=λx=>Uj d a hb x;have h2:=tq d hb;simp at h h2;simp -implicitDefEqProofs [Fx,h,h2];by_cases hc:cO d=true/\0<=a/\a<=19
 ·obtain⟨g1,g2,g3⟩:=hc;have g4:=(jl g1).2.1;have g5:¬(a<0\/19<a):=by omega
  have g6:a.toNat<d.cells.length:=by omega
  simp[g1,g2,g3,g5,g6,h,dZ]
 ·by_cases g1:cO d=true
  ·have g5:(a<0\/19<a):=by false_or_by_contra;exact hc ⟨g1,by omega,by omega⟩
   have g6:¬(0<=a/\a<=19):=by omega
   simp[g1,g5,g6]
  ·simp[g1]
end M
set_option maxHeartbeats 4000000
namespace M
open Go
variable [Lb]
def R4(s:ag):0<=(dc s).1/\(dc s).1<=100000:=by
 cases h:(dc s).2.2;·rw[R5 h];simp
 ·have:=Fq h;omega
def UK(d:bD)(hd:cO d=true)(hwd:bU d<=16777216):
  aH (aj (ev LI TT) (av TT) sH) [(1,.ptr .own (cL .af d)),(4,.row .own 4 []),(5,.int .i64 0),(6,.int .i64 0)]=
  (match ei (nw d) 0 (List.range 5) ([],0) with
   |.inl g=>some (.exit 0,[(1,.ptr .own (cL .af d)),(4,.row .own 4 (g.1.map bK)),(5,.int .i64 g.2),(6,.int .i64 5),(14,.bool false)])
   |.inr e=>some (.ret,[(2,.row .own 4 (e.1.1.map bK)),(3,.int .i64 e.1.2),(4,.dead)])):=by
 obtain⟨k0,k1,k2⟩:=jl hd
 have:=Km (xt:=0) (f:=aj (ev LI TT) (av TT) sH) (List.range 5) (λi (g:List Bn×Int)=>[(1,.ptr .own (cL .af d)),(4,.row .own 4 (g.1.map bK)),(5,.int .i64 g.2),(6,.int .i64 i)]) (nw d)
  (λg=>[(1,.ptr .own (cL .af d)),(4,.row .own 4 (g.1.map bK)),(5,.int .i64 g.2),(6,.int .i64 5),(14,.bool false)])
  (λe=>(.ret,[(2,.row .own 4 (e.1.1.map bK)),(3,.int .i64 e.1.2),(4,.dead)]))
  (λi g=>(∀b∈g.1,dP b=true)/\g.1.length<=i/\0<=g.2/\g.2<100000) ([],0) (by simp) (λi b g hi hl hg=>?_) (λi b g g' hi hg ng=>(Kn d hg).1 g' ng) (λg hg=>?_)
 ·refine Eq.trans ?_ (this.trans ?_);·simp
  ·cases ei (nw d) 0 (List.range 5) ([],0) with
   |inl g=>rfl
   |inr e=>rfl
 ·have Jw:i<5:=by simpa using hl
  have kF:(i:Int)<5:=by omega
  have hw:=bz i (by omega);have u1:=NN d i (by omega);have hin:cO d=true/\(0:Int)<=i/\(i:Int)<=19:=⟨hd,by omega,by omega⟩;rw[az hin] at u1;have hgw:=PI d i;have u2:=NU (dZ d i) (by omega);have hrl:=R3 (dZ d i);have zY:=R4 (dZ d i);have u3:=Wj (dc (dZ d i)).2.1 (by omega);have hlz:(g.1.length+1)*48<=140737488355328:=by omega
  unfold nw;generalize dc (dZ d i)=rr at u2 u3 hrl zY⊢;obtain⟨n,bd,ok⟩:=rr;simp only at u2 u3 hrl zY⊢;generalize iX bd=br at u3⊢;obtain⟨⟨bk,ba,bb,bt⟩,H6⟩:=br;have tL:max g.2 n=if n<g.2 then g.2 else n:=by split<;>omega
  simp at u1 u2 u3;cases ok;·simp -implicitDefEqProofs [sH,xE,kF,hw,u1,u2,u3,lv]
  cases H6;·simp -implicitDefEqProofs [sH,xE,kF,hw,u1,u2,u3,lv]
  by_cases gq:n<100000;·simp -implicitDefEqProofs [sH,xE,kF,hw,u1,u2,u3,lv,hlz,cE,gq,AZ,tL]
  ·simp -implicitDefEqProofs [sH,xE,kF,hw,u1,u2,u3,lv,hlz,cE,gq,AZ]
 ·simp -implicitDefEqProofs [sH,xE]
def WB(d:bD)(hd:cO d=true)(hwd:bU d<=16777216):ev LI TT 131 [.agg (cL .af d)]=some (.ak [.row .own 4 ((gA d).1.map bK),.int .i64 (gA d).2],[.dead]):=by
 rw[ay (b:=BV) (rs:=[.t 2,.t 3]) (n:=1) rfl rfl];have u1:=UK d hd hwd;try simp at u1
 unfold gA;cases hr:ei (nw d) 0 (List.range 5) ([],0) with
 |inl g=>rw[hr] at u1;simp at u1;simp -implicitDefEqProofs [BV,u1,H7]
 |inr e=>
 rw[hr] at u1;simp at u1;simp -implicitDefEqProofs [BV,u1,u1,H7];all_goals (repeat' split)<;>first|rfl|omega|(simp_all;done)|(simp_all;omega)|skip
end M
set_option maxHeartbeats 4000000
namespace M
open Go
variable [Lb]
def Rg(d:bD):wL aW (gA d).1<=1000:=by have:=E7 d;have:=sP (w:=aW) (n:=120) (m:=5) (l:=(gA d).1) (λb hb=>VH (this.1 b hb)) this.2.1;omega
end M
set_option maxHeartbeats 4000000
namespace M
open Go
variable [Lb]
def kO:Sh:=⟨⟨List.replicate 20 [],[]⟩,[],[],5,1⟩
def VX:ev LI TT 109 []=some (.agg (cL .own ⟨List.replicate 20 [],[]⟩),[]):=by rw[ay (b:=Ev) (rs:=[.c 0 2 true 50]) (n:=0) rfl rfl];simp -implicitDefEqProofs [Ev];all_goals (repeat' split)<;>first|rfl|omega|(simp_all;done)|(simp_all;omega)|skip
def NO:ev LI TT 207 []=some (.agg (cL .own ⟨List.replicate 20 [],[]⟩),[]):=by rw[ay (b:=Fy) (rs:=[.c 0 2 true 50]) (n:=0) rfl rfl];simp -implicitDefEqProofs [Fy];all_goals (repeat' split)<;>first|rfl|omega|(simp_all;done)|(simp_all;omega)|skip
def V6:ev LI TT 32 []=some (.agg (aO .own kO),[]):=by
 rw[ay (b:=EB) (rs:=[.c 0 6 true 54]) (n:=0) rfl rfl];have u1:=VX;try simp at u1
 simp -implicitDefEqProofs [EB,u1,kO];all_goals (repeat' split)<;>first|rfl|omega|(simp_all;done)|(simp_all;omega)|skip
def NW:ev LI TT 130 []=some (.agg (aO .own kO),[]):=by
 rw[ay (b:=FN) (rs:=[.c 0 6 true 54]) (n:=0) rfl rfl];have u1:=NO;try simp at u1
 simp -implicitDefEqProofs [FN,u1,kO];all_goals (repeat' split)<;>first|rfl|omega|(simp_all;done)|(simp_all;omega)|skip
noncomputable def Kr(d:bD):Sh:=if cO d=true then ua d else kO
def QJ{α:Type}(q:α->Int)(k:α):∀(l:List α) (g:List α×Bool),(l.foldl (jD q k) g).1.length<=g.1.length+2*l.length
 |[],g=>by simp
 |x::l,g=>by
  rw[oX];have h:=QJ q k l (jD q k g x);have h2:(jD q k g x).1.length<=g.1.length+2:=by unfold jD;(try dsimp only);split<;>simp
  simp only[cG];omega
def CG{n m:Nat}(h:n<=m)(hm:m<=100000:=by decide):(n+1)*136<=140737488355328:=by omega
def HK{i n:Nat}(h:i<n)(hb:n<=1000):i<9223372036854775807:=by omega
def Vc(T:List (List X))(n i:Nat)(k x:Kp)(out:List Kp)(kB:i<T.length)(hb:T.length<=1000)(mX:T[i]=aM .own x)(ho:out.length<=1000)(hq:k.seq<x.seq):
  aj (ev LI TT) (av TT) oN [(0,.ref 100000 []),(3,.ptr .own (aM .own k)),(5,.row .own 9 (out.map (aM .own))),(6,.bool false),(7,.int .i64 i),(100000,.row .own 9 T)]=some (.normal,[(0,.ref 100000 []),(3,.ptr .own (fe k)),(5,.row .own 9 ((out++[k,x]).map (aM .own))),(6,.bool true),(7,.int .i64 ((i+1:Nat):Int)),(100000,.row .own 9 (T.set i (fe x)))]):=by
 have hz1:=CG ho;have hz2:=CG (Nat.succ_le_succ ho);have rG:(i:Int)<T.length:=CN.2 kB;have hw:=bz i (HK kB hb);have hm:=Fb T i _ (aN.2 ⟨kB,mX⟩);try simp at mX hm
 simp -implicitDefEqProofs [oN,B7,kB,rG,mX,hm,qA,hz1,hz2,hq,hw,cE,fe]
def Vd(T:List (List X))(n i:Nat)(k x:Kp)(out:List Kp)(kB:i<T.length)(hb:T.length<=1000)(mX:T[i]=aM .own x)(ho:out.length<=1000)(hq:¬k.seq<x.seq):
  aj (ev LI TT) (av TT) oN [(0,.ref 100000 []),(3,.ptr .own (aM .own k)),(5,.row .own 9 (out.map (aM .own))),(6,.bool false),(7,.int .i64 i),(100000,.row .own 9 T)]=some (.normal,[(0,.ref 100000 []),(3,.ptr .own (aM .own k)),(5,.row .own 9 ((out++[x]).map (aM .own))),(6,.bool false),(7,.int .i64 ((i+1:Nat):Int)),(100000,.row .own 9 (T.set i (fe x)))]):=by
 have hz1:=CG ho;have rG:(i:Int)<T.length:=CN.2 kB;have hw:=bz i (HK kB hb);have hm:=Fb T i _ (aN.2 ⟨kB,mX⟩);try simp at mX hm
 simp -implicitDefEqProofs [oN,B7,kB,rG,mX,hm,qA,hz1,hq,hw,cE,fe]
def Ve(T:List (List X))(n i:Nat)(k x:Kp)(out:List Kp)(kB:i<T.length)(hb:T.length<=1000)(mX:T[i]=aM .own x)(ho:out.length<=1000):
  aj (ev LI TT) (av TT) oN [(0,.ref 100000 []),(3,.ptr .own (fe k)),(5,.row .own 9 (out.map (aM .own))),(6,.bool true),(7,.int .i64 i),(100000,.row .own 9 T)]=some (.normal,[(0,.ref 100000 []),(3,.ptr .own (fe k)),(5,.row .own 9 ((out++[x]).map (aM .own))),(6,.bool true),(7,.int .i64 ((i+1:Nat):Int)),(100000,.row .own 9 (T.set i (fe x)))]):=by
 have hz1:=CG ho;have rG:(i:Int)<T.length:=CN.2 kB;have hw:=bz i (HK kB hb);have hm:=Fb T i _ (aN.2 ⟨kB,mX⟩);try simp at mX hm
 simp -implicitDefEqProofs [oN,B7,kB,rG,mX,hm,qA,hz1,hw,cE,fe]
def aeB(l:List Kp)(i:Nat)(hl:i<l.length)(hb:l.length<=15):((l.take i).map fe++(l.drop i).map (aM .own)).length=l.length/\((l.take i).map fe++(l.drop i).map (aM .own))[i]?=some (aM .own l[i])/\((l.take i).map fe++(l.drop i).map (aM .own)).set i (fe l[i])=(l.take (i+1)).map fe++(l.drop (i+1)).map (aM .own):=by
 have e:l.drop i=l[i]::l.drop (i+1):=qM hl;have zU:((l.take i).map fe).length=i:=by rw[dO,List.length_take];omega
 refine⟨by simp;omega,?_,?_⟩;·rw[iU (by omega),zU,Hz,e];rfl
 ·rw[Hw _ _ (by omega),zU,Hz,e,aY,aP,qH hl,iA,nS];rfl
def qB(k:Kp)(b:Bool):List X:=if b=true then fe k else aM .own k
def ae0(ks:List Nat)(k:Kp)(b:Bool):X.nE ks (qB k b)=qB k b:=by cases b<;>simp[qB,fe]
def UM(l:List Kp)(k:Kp)(rK:l.length<=15):
  aH (aj (ev LI TT) (av TT) oN) [(0,.ref 100000 []),(3,.ptr .own (aM .own k)),(5,.row .own 9 []),(6,.bool false),(7,.int .i64 0),(100000,.row .own 9 (l.map (aM .own)))]=some (.exit 0,[(0,.ref 100000 []),(3,.ptr .own (qB k (l.foldl (jD Kp.seq k) ([],false)).2)),(5,.row .own 9 ((l.foldl (jD Kp.seq k) ([],false)).1.map (aM .own))),(6,.bool (l.foldl (jD Kp.seq k) ([],false)).2),(7,.int .i64 l.length),(12,.bool false),(100000,.row .own 9 (l.map fe))]):=by
 have:=kK (xt:=0) (f:=aj (ev LI TT) (av TT) oN) l (λi (g:List Kp×Bool)=>[(0,.ref 100000 []),(3,.ptr .own (qB k g.2)),(5,.row .own 9 (g.1.map (aM .own))),(6,.bool g.2),(7,.int .i64 i),(100000,.row .own 9 ((l.take i).map fe++(l.drop i).map (aM .own)))]) (λ_ g x=>jD Kp.seq k g x)
  (λg=>[(0,.ref 100000 []),(3,.ptr .own (qB k g.2)),(5,.row .own 9 (g.1.map (aM .own))),(6,.bool g.2),(7,.int .i64 l.length),(12,.bool false),(100000,.row .own 9 (l.map fe))])
  (λi g=>g.1.length<=2*i) ([],false) (by simp) (λi b g hi hl hg=>?_) (λi b g hi hg=>?_) (λg hg=>?_)
 ·rw[I1] at this;refine Eq.trans ?_ this;simp[qB]
 ·obtain⟨_,rfl⟩:=aN.1 hi;obtain⟨r1,r2,r3⟩:=aeB l i hl rK;rw[<-r3];generalize (l.take i).map fe++(l.drop i).map (aM .own)=T at r1 r2⊢;obtain⟨q1,q2⟩:=aN.1 r2;obtain⟨out,pt⟩:=g;simp only at hg;unfold jD qB;cases pt
  ·by_cases hq:k.seq<(l[i]).seq;·have:=Vc T 0 i k l[i] out q1 (by omega) q2 (by omega) hq;simp only[hq,fC,ey,yt,dr,decide_true,Bool.or_true];exact this
   ·have:=Vd T 0 i k l[i] out q1 (by omega) q2 (by omega) hq;simp only[hq,fC,ey,and_false,MK,Bool.or_false];exact this
  ·have:=Ve T 0 i k l[i] out q1 (by omega) q2 (by omega);simp only[MP,ey,dr,false_and,Bool.true_or];exact this
 ·unfold jD;simp only;split<;>simp<;>omega
 ·simp -implicitDefEqProofs [oN,B7,ae0]
def WC(l:List Kp)(k:Kp)(rK:l.length<=15):ev LI TT 136 [.row .own 9 (l.map (aM .own)),.agg (aM .own k)]=some (.row .own 9 ((j9 Kp.seq k l).map (aM .own)),[.dead,.dead]):=by
 rw[ay (b:=Gl) (rs:=[.t 4]) (n:=2) rfl rfl];have u1:=UM l k rK;have hi:=abI Kp.seq k l [];simp only[kn] at hi;rw[<-hi];have hlen:=QJ Kp.seq k l ([],false);generalize l.foldl (jD Kp.seq k) ([],false)=g at u1 hlen⊢;obtain⟨out,pt⟩:=g;simp only[gH] at hlen;have hz1:(out.length+1)*136<=140737488355328:=by omega
 unfold EZ;unfold qB at u1;cases pt;all_goals simp at u1
 all_goals
 simp -implicitDefEqProofs [Gl,u1,hz1,cE];all_goals (repeat' split)<;>first|rfl|omega|(simp_all;done)|(simp_all;omega)|skip
def Nr{α:Type}(p:α->Bool):∀(l:List α) (i:Nat) (g:Bool),foldI (λ_ (g:Bool) x=>g && p x) i l g=(g && bq p l)
 |[],i,g=>by simp[foldI,bq]
 |x::l,i,g=>by rw[foldI,Nr p l];simp[bq,ME]
def Vu{α:Type}(p:α->Bool)(l:List α):bq (λx=> !p x) l= !(l.any p):=by unfold bq;rw[List.all_eq_not_any_not];simp
def iR(all:List Kp)(i:Nat):List (List X):=all.mapIdx λj k=>if j<i/\rU all j k=false then fe k else aM .own k
def G0(all:List Kp)(i:Nat):(iR all i).length=all.length:=by simp[iR]
def SU(all:List Kp)(i j:Nat)(h:i<=j)(hj:j<all.length):(iR all i)[j]?=some (aM .own all[j]):=by unfold iR;rw[CR,bZ hj];simp only[cv];rw[aC (by omega)]
def afl(all:List Kp):iR all 0=all.map (aM .own):=by
 apply gX;intro j;unfold iR;rw[CR,cY];cases all[j]? with
 |none=>rfl
 |some k=>simp only[cv];rw[aC (by omega)]
def GZ(all:List Kp)(i j:Nat):(iR all i)[j]?=all[j]?.map λk=>if j<i/\rU all j k=false then fe k else aM .own k:=by unfold iR;rw[CR]
def afk(all:List Kp)(i:Nat)(hi:i<all.length):iR all (i+1)=if rU all i all[i]=true then iR all i else (iR all i).set i (fe all[i]):=by
 apply gX;intro j;rw[GZ];by_cases e:j=i
 ·subst e;cases hb:rU all j all[j];·simp only[fC,ey];rw[List.getElem?_set_self (by rw[G0];exact hi),bZ hi];simp only[cv,hb,qJ];rw[az (by omega)]
  ·simp only[dr];rw[GZ,bZ hi];simp only[cv,hb,MP,and_false,ey]
 ·have e2:j<i+1↔j<i:=⟨λh=>by omega,λh=>by omega⟩;simp only[e2];split;·rw[GZ]
  ·rw[TP (by omega),GZ]
def U8(d:bD)(bs:List Bn)(sq:Int)(ai:List Kp)(nx:Int)(all:List Kp)(rK:all.length<=15)(hall:∀k∈all,yF k)(i:Nat)(hi:i<all.length)(T:List (List X))(hT:∀j,i<=j->(h:j<all.length)->T[j]?=some (aM .own all[j]))(Ji:T.length=all.length):
  aH (aj (ev LI TT) (av TT) ux) [(2,.ptr .own (aO .own ⟨⟨[],[]⟩,[],[],0,0⟩)),(5,.row .own 9 T),(12,.ptr .own (aO .own ⟨d,ai,bs,nx,sq⟩)),(13,.int .i64 i),(14,.bool true),(15,.int .i64 ((i+1:Nat):Int))]=
  some (.exit 4,[(2,.ptr .own (aO .own ⟨⟨[],[]⟩,[],[],0,0⟩)),(5,.row .own 9 T),(12,.ptr .own (aO .own ⟨d,ai,bs,nx,sq⟩)),(13,.int .i64 i),(14,.bool (!rU all i all[i])),(15,.int .i64 all.length),(83,.bool false)]):=by
 have:=kK (xt:=4) (f:=aj (ev LI TT) (av TT) ux) (all.drop (i+1)) (λj (g:Bool)=>[(2,.ptr .own (aO .own ⟨⟨[],[]⟩,[],[],0,0⟩)),(5,.row .own 9 T),(12,.ptr .own (aO .own ⟨d,ai,bs,nx,sq⟩)),(13,.int .i64 i),(14,.bool g),(15,.int .i64 ((i+1+j:Nat):Int))]) (λ_ (g:Bool) x=>g && !(decide (x.seq=(all[i]).seq)||kS x.obj (all[i]).obj))
  (λg=>[(2,.ptr .own (aO .own ⟨⟨[],[]⟩,[],[],0,0⟩)),(5,.row .own 9 T),(12,.ptr .own (aO .own ⟨d,ai,bs,nx,sq⟩)),(13,.int .i64 i),(14,.bool g),(15,.int .i64 all.length),(83,.bool false)])
  (λ_ _=>True) true trivial (λj b g hj hl _=>?_) (λ_ _ _ _ _=>trivial) (λg _=>?_)
 ·rw[Nr,Vu] at this;exact this
 ·rw[oY] at hj;obtain⟨hjl,rfl⟩:=aN.1 hj;obtain⟨n,hn⟩:∃n,i+1+j=n:=⟨_,rfl⟩;have hn2:i+1+(j+1)=n+1:=by omega
  simp only[hn] at hjl⊢;rw[hn2];obtain⟨q1,q2⟩:=aN.1 (hT n (by omega) hjl);obtain⟨q3,q4⟩:=aN.1 (hT i (by omega) hi);have hw:=bz n (by omega);have kF:(n:Int)<T.length:=by omega
  have u1:=N3 (all[n]).obj (all[i]).obj (by have:=A8 (hall _ (cI hjl)).o;omega) (by have:=A8 (hall _ (cI hi)).o;omega);clear hT hj hl;generalize kS (all[n]).obj (all[i]).obj=tw at u1⊢;try simp at u1 q2 q4
  by_cases gq:(all[n]).seq=(all[i]).seq;·simp -implicitDefEqProofs [ux,Bv,kF,hw,q1,q2,q3,q4,gq]
  ·cases tw;·simp -implicitDefEqProofs [ux,Bv,kF,hw,q1,q2,q3,q4,gq,u1]
   ·simp -implicitDefEqProofs [ux,Bv,kF,hw,q1,q2,q3,q4,gq,u1]
 ·have e:i+1+(all.drop (i+1)).length=all.length:=by rw[sX];omega
  rw[e];simp -implicitDefEqProofs [ux,Bv,Ji]
end M
set_option maxHeartbeats 4000000
namespace M
open Go
variable [Lb]
def Vb(d:bD)(bs:List Bn)(sq:Int)(ai:List Kp)(nx:Int)(all:List Kp)(rK:all.length<=15)(hall:∀k∈all,yF k)(i:Nat)(hi:i<all.length)(ho:ai.length<=1000):
  aj (ev LI TT) (av TT) uy [(2,.ptr .own (aO .own ⟨⟨[],[]⟩,[],[],0,0⟩)),(5,.row .own 9 (iR all i)),(12,.ptr .own (aO .own ⟨d,ai,bs,nx,sq⟩)),(13,.int .i64 i)]=
  some (.normal,[(2,.ptr .own (aO .own ⟨⟨[],[]⟩,[],[],0,0⟩)),(5,.row .own 9 (iR all (i+1))),(12,.ptr .own (aO .own ⟨d,(rV all i (ai,nx) all[i]).1,bs,(rV all i (ai,nx) all[i]).2,sq⟩)),(13,.int .i64 ((i+1:Nat):Int))]):=by
 have hz:=CG ho;have hw:=bz i (HK hi (by omega));have hk:=hall _ (cI hi);have u2:=N0 (all[i]).at_ hk.a;have u1:=U8 d bs sq ai nx all rK hall i hi (iR all i) (λj h1 h2=>SU all i j h1 h2) (G0 all i);have hg:=SU all i i (dz _) hi;have Ji:=G0 all i;rw[afk all i hi];unfold rV;generalize iR all i=T at u1 hg Ji⊢;obtain⟨q1,q2⟩:=aN.1 hg;have hm:=Fb T i _ hg;have rG:(i:Int)<T.length:=CN.2 q1;have P8:(i:Int)<all.length:=CN.2 hi;clear hall hk hg;cases hlb:rU all i all[i]
 ·rw[hlb] at u1;try simp at u1 u2 q2 hm
  simp -implicitDefEqProofs [uy,FJ,hi,q1,rG,P8,hw,u1,u2,q2,hm,qA,hz,cE,fe]
 ·rw[hlb] at u1;try simp at u1 u2 q2 hm
  simp -implicitDefEqProofs [uy,FJ,hi,q1,rG,P8,hw,u1,u2,q2]
def Va(d:bD)(bs:List Bn)(sq:Int)(all:List Kp)(rK:all.length<=15)(hall:∀k∈all,yF k):
  aH (aj (ev LI TT) (av TT) uy) [(2,.ptr .own (aO .own ⟨⟨[],[]⟩,[],[],0,0⟩)),(5,.row .own 9 (all.map (aM .own))),(12,.ptr .own (aO .own ⟨d,[],bs,5,sq⟩)),(13,.int .i64 0)]=
  some (.exit 2,[(2,.ptr .own (aO .own ⟨⟨[],[]⟩,[],[],0,0⟩)),(5,.row .own 9 (iR all all.length)),(12,.ptr .own (aO .own ⟨d,(p7 all).1,bs,(p7 all).2,sq⟩)),(13,.int .i64 all.length),(75,.bool false)]):=by
 have:=kK (xt:=2) (f:=aj (ev LI TT) (av TT) uy) all (λi (g:List Kp×Int)=>[(2,.ptr .own (aO .own ⟨⟨[],[]⟩,[],[],0,0⟩)),(5,.row .own 9 (iR all i)),(12,.ptr .own (aO .own ⟨d,g.1,bs,g.2,sq⟩)),(13,.int .i64 i)]) (rV all)
  (λg=>[(2,.ptr .own (aO .own ⟨⟨[],[]⟩,[],[],0,0⟩)),(5,.row .own 9 (iR all all.length)),(12,.ptr .own (aO .own ⟨d,g.1,bs,g.2,sq⟩)),(13,.int .i64 all.length),(75,.bool false)])
  (λi g=>g.1.length<=i/\i<=15) ([],5) (by simp) (λi b g hi hl hg=>?_) (λi b g hi hg=>?_) (λg hg=>?_)
 ·rw[ab6,afl] at this;exact this
 ·obtain⟨_,rfl⟩:=aN.1 hi;obtain⟨ai,nx⟩:=g;exact Vb d bs sq ai nx all rK hall i hl (by have:=hg.1;simp only at this;omega)
 ·have hl:=(aN.1 hi).1;unfold rV;split;·omega
  ·simp;omega
 ·simp -implicitDefEqProofs [uy,FJ,G0]
def U9(d:bD)(bs:List Bn)(m:Int)(hd:cO d=true)(hwd:bU d<=16777216)(hbs:wL aW bs<=1000)(hm:0<=m/\m<100000):
  aH (aj (ev LI TT) (av TT) qt) [(1,.ptr .own (cL .af d)),(2,.ptr .own (aO .own ⟨⟨[],[]⟩,[],[],0,0⟩)),(3,.ref 22 [(0,0)]),(4,.int .i64 m),(5,.row .own 9 []),(6,.int .i64 5),(20,.ak [.ref 22 [(0,0)],.int .i64 m]),(22,.ak [.row .own 4 (bs.map bK),.int .i64 m])]=
  some (.exit 0,[(1,.ptr .own (cL .af d)),(2,.ptr .own (aO .own ⟨⟨[],[]⟩,[],[],0,0⟩)),(3,.ref 22 [(0,0)]),(4,.int .i64 (wC bs d m).2),(5,.row .own 9 ((kP Kp.seq (wC bs d m).1).map (aM .own))),(6,.int .i64 20),(20,.ak [.ref 22 [(0,0)],.int .i64 m]),(22,.ak [.row .own 4 (bs.map bK),.int .i64 m]),(27,.bool false)]):=by
 obtain⟨k0,k1,k2⟩:=jl hd
 have:=kK (xt:=0) (f:=aj (ev LI TT) (av TT) qt) (List.range 15) (λi (g:List Kp×Int)=>[(1,.ptr .own (cL .af d)),(2,.ptr .own (aO .own ⟨⟨[],[]⟩,[],[],0,0⟩)),(3,.ref 22 [(0,0)]),(4,.int .i64 g.2),(5,.row .own 9 ((kP Kp.seq g.1).map (aM .own))),(6,.int .i64 ((5+i:Nat):Int)),(20,.ak [.ref 22 [(0,0)],.int .i64 m]),(22,.ak [.row .own 4 (bs.map bK),.int .i64 m])]) (wI bs d)
  (λg=>[(1,.ptr .own (cL .af d)),(2,.ptr .own (aO .own ⟨⟨[],[]⟩,[],[],0,0⟩)),(3,.ref 22 [(0,0)]),(4,.int .i64 g.2),(5,.row .own 9 ((kP Kp.seq g.1).map (aM .own))),(6,.int .i64 20),(20,.ak [.ref 22 [(0,0)],.int .i64 m]),(22,.ak [.row .own 4 (bs.map bK),.int .i64 m]),(27,.bool false)])
  (λi g=>i<=15/\vj i g) ([],m) ⟨by omega,⟨by simp,by simp,hm,by simp,by simp,by simp⟩⟩ (λi b g hi hl hg=>?_) (λi b g hi hg=>?_) (λg hg=>?_)
 ·refine Eq.trans ?_ this;simp[kP]
 ·have Jw:i<15:=by simpa using hl
  obtain⟨at_,jc⟩:∃a,((5+i:Nat):Int)=a:=⟨_,rfl⟩;have kF:at_<20:=by omega
  have hw:IntKind.i64.wrap (at_+1)=at_+1:=cJ (by omega) (by omega);have Qa:((5+(i+1):Nat):Int)=at_+1:=by omega
  have u1:=NN d at_ (by omega);have hin:cO d=true/\(0:Int)<=at_/\at_<=19:=⟨hd,by omega,by omega⟩;rw[az hin] at u1;have hgw:=PI d at_;have u2:=NU (dZ d at_) (by omega);have hrl:=R3 (dZ d at_);have zY:=R4 (dZ d at_);have u3:=Ww (dc (dZ d at_)).2.1 (by omega);have how:=adb (dc (dZ d at_)).2.1;have je:=hg.2.n;have Eo:(kP Kp.seq g.1).length<=15:=by rw[(GP Kp.seq g.1).length_eq];omega
  unfold wI;rw[jc,Qa];clear jc Qa;generalize dc (dZ d at_)=rr at u2 u3 hrl zY how⊢;obtain⟨n,bd,ok⟩:=rr;simp only at u2 u3 hrl zY how⊢;generalize jF bd=br at u3 how⊢;obtain⟨⟨op,on,ov,⟨rs,rf,rb⟩,ot⟩,H6⟩:=br;simp only at how;have u5:=Dd bs ⟨op,on,ov,⟨rs,rf,rb⟩,ot⟩ (by omega) (by omega);have u6:=WC (kP Kp.seq g.1) ⟨⟨op,on,ov,⟨rs,rf,rb⟩,ot⟩,at_,n⟩ Eo;rw[<-ae5] at u6;have tL:max g.2 n=if n<g.2 then g.2 else n:=by split<;>omega
  simp only at u5⊢;generalize fL bs ⟨op,on,ov,⟨rs,rf,rb⟩,ot⟩=hb at u5⊢;obtain⟨g1,g2⟩:=g;simp only at u6 tL⊢;simp at u1 u2 u3 u5 u6;cases ok;·simp -implicitDefEqProofs [qt,uw,kF,hw,u1,u2,u3]
  cases H6;·simp -implicitDefEqProofs [qt,uw,kF,hw,u1,u2,u3]
  by_cases gq:n<100000;rotate_left
  ·have DZ:100000<=n:=by omega
   simp -implicitDefEqProofs [qt,uw,kF,hw,u1,u2,u3,gq,DZ]
  have DZ:¬100000<=n:=by omega
  cases hb;·simp -implicitDefEqProofs [qt,uw,kF,hw,u1,u2,u3,u5,u6,gq,DZ,tL]
  ·simp -implicitDefEqProofs [qt,uw,kF,hw,u1,u2,u3,u5,gq,DZ,tL]
 ·have Jw:i<15:=by have:=(aN.1 hi).1;simpa using this
  exact⟨by omega,Rn bs d Jw b hg.2⟩
 ·simp -implicitDefEqProofs [qt,uw]
def Wu(d:bD)(hwd:bU d<=16777216):ev LI TT 42 [.agg (cL .af d)]=some (.agg (aO .own (Kr d)),[.dead]):=by
 rw[ay (b:=Bw) (rs:=[.c 2 6 true 54]) (n:=1) rfl rfl];have JN:bU d=wL wS d.cells+wL di d.pending:=rfl;have l1:=bx (w:=wS) d.cells;have l2:=bx (w:=di) d.pending;unfold Kr;have u1:=tq d (by omega);try simp at u1
 have u2:=Dh d (by omega) (by omega);try simp at u2
 by_cases g:cO d=true;rotate_left;·have u3:=NW;rw[show cO d=false by simpa using g] at u1⊢;simp at u1 u3;simp -implicitDefEqProofs [Bw,u1,u3]
 have B:=E7 d;have u3:=WB d g hwd;have u4:=U9 d (gA d).1 (gA d).2 g hwd (Rg d) B.2.2;have u5:=Va d (gA d).1 ((kL d).2+1) (iK d) (Re d) (λk hk=>(E6 hk).1);have O:=(AQ d).m;have hw:IntKind.i64.wrap ((kL d).2+1)=(kL d).2+1:=cJ (by omega) (by omega);rw[show wC (gA d).1 d (gA d).2=kL d from rfl,show kP Kp.seq (kL d).1=iK d from rfl] at u4;have e:ua d=⟨d,(p7 (iK d)).1,(gA d).1,(p7 (iK d)).2,(kL d).2+1⟩:=rfl;rw[g] at u1;rw[g,az rfl,e];clear e B O;generalize p7 (iK d)=lk at u5⊢;generalize iK d=all at u4 u5;generalize kL d=od at u4 u5 hw⊢;generalize gA d=mb at u3 u4 u5⊢;obtain⟨ai,nx⟩:=lk;obtain⟨od1,od2⟩:=od;obtain⟨bs,ms⟩:=mb;simp at u1 u2 u3 u4 u5;simp -implicitDefEqProofs [Bw,u1,u2,u3,u4,u5,hw];all_goals (repeat' split)<;>first|rfl|omega|(simp_all;done)|(simp_all;omega)|skip
end M
set_option maxHeartbeats 4000000
namespace M
open Go
variable [Lb]
def acQ(d:bD):bC (ua d)<=bU d+25000:=by have h1:=Rg d;have h2:wL bH (iJ (iK d))<=15*(1300+1):=sP (λk hk=>A8 (E6 ((wz _).subset hk)).1.o) (iT (wz _).length_le (Re d));show bU d+wL bH (iJ (iK d))+wL aW (gA d).1<=_;omega
end M
namespace M
open Go
variable [Lb]
end M
set_option maxHeartbeats 4000000
namespace M
open Go
variable [Lb]
end M
set_option maxHeartbeats 4000000
namespace M
open Go
variable [Lb]
end M
set_option maxHeartbeats 4000000
namespace M
open Go
variable [Lb]
end M
set_option maxHeartbeats 4000000
namespace M
open Go
variable [Lb]
def pz(d:bD)(keep:List Bool):bD:=⟨p6 (kJ keep false) d.cells d.pending,[]⟩
def Xf{d:bD}(keep:List Bool)(h:cO d=true):cO (pz d keep)=true:=by obtain⟨h0,h1,h1'⟩:=jl h;have:=QV (kJ keep false) d.cells d.pending;unfold cO pz;simp only[this,h1];rfl
def Wm(d:bD)(keep:List Bool)(h:cO d=true)(hk:keep.length<=9223372036854775807):ev LI TT 193 [.agg (cL .af d),.row .af 1 (keep.map eB)]=some (.agg (cL .own (pz d keep)),[.dead,.dead]):=by
 rw[ay (b:=Fw) (rs:=[.c 4 2 true 50]) (n:=2) rfl rfl];obtain⟨h0,h1,h1'⟩:=jl h;unfold pz;have u1:=tq d (by omega);try simp at u1
 have u2:=NZ d keep false h hk;try simp at u2
 rw[h] at u1;simp -implicitDefEqProofs [Fw,u1,u2];all_goals (repeat' split)<;>first|rfl|omega|(simp_all;done)|(simp_all;omega)|skip
def Xg(d:bD)(keep:List Bool):bU (pz d keep)<=bU d:=by have h:=I2 (kJ keep false) d.pending 0 d.cells;show wL wS (p6 (kJ keep false) d.cells d.pending)+wL di []<=wL wS d.cells+wL di d.pending;have e:wL di []=0:=rfl;unfold p6;omega
end M
set_option maxHeartbeats 4000000
namespace M
open Go
variable [Lb]
class Fd extends Lb where
 f:∀(s:Sh) (q:Rq),bC s<=1073741824->eV q<=1073741824->L 96 [.ptr .af (aO .af s),.agg (dw .af q)]=some (vM mE fL s q,[.dead,.dead])
def XQ{s:Sh}{q:Rq}{o:Ob}(h:gO s q=some o):de s=true/\∃k∈s.ai,k.obj=o/\iF s q k=true:=by
 unfold gO at h;split at h;·rename_i hok;unfold rA at h;obtain⟨k,hk,rfl⟩:=mJ.1 h;exact⟨hok,k,by have:=Tx hk;simpa using this,rfl,List.find?_some hk⟩
 ·cases h
def XR{s:Sh}{q:Rq}:bI ((gO s q).getD eX).t/\cr ((gO s q).getD eX)<=bC s:=by
 cases h:gO s q with
 |none=>exact⟨by unfold bI;simp[eX],by simp[eX,cr,ct,wL]⟩
 |some o=>
  obtain⟨h1,k,h2,rfl,_⟩:=XQ h;have h3:=aeZ h1 h2;have h4:=sO h2;unfold dn at h3;simp only[aq,bn] at h3;have h5:bC s=bU s.aG+wL bH s.ai+wL aW s.aF:=rfl;refine⟨?_,?_⟩;·unfold bI;simp only[sS];have:=h3.1.1.1.1.2;omega
  ·simp only[sS];omega
end M
set_option maxHeartbeats 4000000
namespace M
open Go
variable [Fd]
def V7(s:Sh)(q:Rq)(hs:bC s<=1073741824)(hq:eV q<=1073741824):ev LI TT 96 [.ptr .af (aO .af s),.agg (dw .af q)]=some (.ak [.agg (aS .own ((rA s q).getD eX)),.bool (rA s q).isSome],[.dead,.dead]):=by rw[ry rfl];exact Fd.f s q hs hq
def V1(s:Sh)(q:Rq)(hs:bC s<=100000000)(hq:eV q<=100000000):ev LI TT 25 [.agg (aO .af s),.agg (dw .af q)]=some (.ak [.agg (aS .own ((gO s q).getD eX)),.bool ((gO s q).isSome)],[.dead,.dead]):=by
 rw[ay (b:=Ak) (rs:=[.c 4 7 true 31,.t 5]) (n:=2) rfl rfl];have u1:=NF s (by omega);try simp at u1
 have u2:=V7 s q (by omega) (by omega);try simp at u2
 unfold gO;cases hok:de s
 ·rw[hok] at u1;try simp at u1
  simp -implicitDefEqProofs [Ak,u1,eX]
 rw[hok] at u1;try simp at u1
 cases hf:rA s q<;>rw[hf] at u2<;>simp[eX] at u2;all_goals
 simp -implicitDefEqProofs [Ak,u1,u2,eX];all_goals (repeat' split)<;>first|rfl|omega|(simp_all;done)|(simp_all;omega)|skip
end M
set_option maxHeartbeats 4000000
namespace M
open Go
variable [Fd]
end M
set_option maxHeartbeats 4000000
namespace M
open Go
variable [Lb]
def UL(s:Sh)(hb:bC s<=1073741824):aH (aj (ev LI TT) (av TT) BW) [(1,.ptr .own (aO .af s)),(2,.ptr .own [.row .own 1 [],.row .own 2 [],.row .own 9 [],.row .own 4 [],.int .i64 0,.int .i64 0]),(3,.ptr .own [.row .own 1 (s.aG.cells.map eS),.row .own 2 (s.aG.pending.map eW),.row .own 9 (([]).map (aM .own)),.row .own 4 (s.aF.map bK),.int .i64 s.next,.int .i64 s.seq]),(4,.int .i64 0)]=some (.exit 0,[(1,.ptr .own (aO .af s)),(2,.ptr .own [.row .own 1 [],.row .own 2 [],.row .own 9 [],.row .own 4 [],.int .i64 0,.int .i64 0]),(3,.ptr .own [.row .own 1 (s.aG.cells.map eS),.row .own 2 (s.aG.pending.map eW),.row .own 9 ((((s.ai).flatMap (λk=>[k]))).map (aM .own)),.row .own 4 (s.aF.map bK),.int .i64 s.next,.int .i64 s.seq]),(4,.int .i64 (s.ai).length),(21,.bool false)]):=by
 refine p9 (f:=aj (ev LI TT) (av TT) BW) (s.ai) (λk=>[k]) (λi out=>[(1,.ptr .own (aO .af s)),(2,.ptr .own [.row .own 1 [],.row .own 2 [],.row .own 9 [],.row .own 4 [],.int .i64 0,.int .i64 0]),(3,.ptr .own [.row .own 1 (s.aG.cells.map eS),.row .own 2 (s.aG.pending.map eW),.row .own 9 ((out).map (aM .own)),.row .own 4 (s.aF.map bK),.int .i64 s.next,.int .i64 s.seq]),(4,.int .i64 i)]) (λout=>[(1,.ptr .own (aO .af s)),(2,.ptr .own [.row .own 1 [],.row .own 2 [],.row .own 9 [],.row .own 4 [],.int .i64 0,.int .i64 0]),(3,.ptr .own [.row .own 1 (s.aG.cells.map eS),.row .own 2 (s.aG.pending.map eW),.row .own 9 ((out).map (aM .own)),.row .own 4 (s.aF.map bK),.int .i64 s.next,.int .i64 s.seq]),(4,.int .i64 (s.ai).length),(21,.bool false)]) (λi b out hi hl hout=>?_) (λout hout=>?_)
 ·have hw:=bz i (by have dM:bC s=bU s.aG+wL bH s.ai+wL aW s.aF:=rfl;have:=bx (w:=bH) s.ai;omega);obtain⟨_,rfl⟩:=aN.1 hi;have dM:bC s=bU s.aG+wL bH s.ai+wL aW s.aF:=rfl;have hlk:=bx (w:=bH) s.ai;have hm:=sO (cI hl);have hlo:out.length=i:=by rw[hout];exact zv (λk=>k) _ _ (by omega)
  have hlz:(i+1)*136<=140737488355328:=by omega
  have u1:=yU (s.ai[i]).obj (by omega);try simp at u1
  simp -implicitDefEqProofs [BW,Lz,hl,hw,u1,hlo,hlz,cE]
 ·simp -implicitDefEqProofs [BW,Lz]
def aeU(l:List Bn):fQ (l.map bK)=true:=by induction l<;>simp_all[fQ,scalar]
def N1(s:Sh)(hb:bC s<=1073741824):ev LI TT 144 [.agg (aO .af s)]=some (.agg (aO .own s),[.dead]):=by
 rw[ay (b:=F8) (rs:=[.c 2 6 true 54]) (n:=1) rfl rfl];have dM:bC s=bU s.aG+wL bH s.ai+wL aW s.aF:=rfl;have JN:bU s.aG=wL wS s.aG.cells+wL di s.aG.pending:=rfl;have l1:=bx (w:=wS) s.aG.cells;have l2:=bx (w:=di) s.aG.pending;have l3:=bx (w:=aW) s.aF;have u1:=Dh s.aG (by omega) (by omega);try simp at u1
 have u2:=UL s hb;try simp at u2
 simp -implicitDefEqProofs [F8,u1,u2,aeU,rowAt,(by omega:s.aF.length*48<=140737488355328),LA,BX,Ge,LM,xF,B1,LO,B2,Gj,B3,F9,Ga,LB,BZ,Gb,Gc,LC,Gd,LD,LF,B0,Gf,Gg,LG,Gh,LH,LJ,Gi,LK,LL,LN];all_goals (repeat' split)<;>first|rfl|omega|(simp_all;done)|(simp_all;omega)|skip
end M
set_option maxHeartbeats 4000000
namespace M
open Go
variable [Lb]
structure Pl (A:List X):Prop where
 o:∀ks,X.nE ks A=A
 k:∀r p,X.gx r p A=A
 m:X.ef .af A=A
 b:X.bare.iY A=true
end M
set_option maxHeartbeats 400000
namespace M
open Go
variable [Lb]
def tE{α β:Type}(p:α->Bool)(d:α->β)(g:List α×List β)(v:α):List α×List β:=if p v=true then (g.1,g.2++[d v]) else (g.1++[v],g.2.tail++[d v])
structure DX {α β:Type} (e d:α->β) (n:Nat) (g:List α×List β):Prop where
 n:g.1.length+g.2.length=n
 m:1<=g.2.length
 r:∀x∈g.2,∃u,x=e u\/x=d u
def DX.go{α β:Type}{e d:α->β}{n:Nat}{g:List α×List β}(h:DX e d n g)(p:α->Bool)(v:α):DX e d (n+1) (tE p d g v):=by
 obtain⟨F,M⟩:=g;have hn:=h.n;have hm:=h.m;have hr:=h.r;simp at hn hm hr;unfold tE;split
 ·refine⟨by simp;omega,by simp,λx hx=>?_⟩;rcases dX.1 hx with hx|hx;·exact hr x hx
  ·exact⟨v,.inr (by simpa using hx)⟩
 ·refine⟨by simp;omega,by simp,λx hx=>?_⟩;rcases dX.1 hx with hx|hx;·exact hr x (List.mem_of_mem_tail hx)
  ·exact⟨v,.inr (by simpa using hx)⟩
def DX.row{α β:Type}{e d:α->β}{n:Nat}{g:List α×List β}(h:DX e d n g)(p:α->Bool)(v:α)(R T:List β)(hT:T=g.1.map e++g.2++e v::R):T.length=n+1+R.length/\T[n]?=some (e v)/\g.1.length<n/\(∃u,T[g.1.length]?=some (e u)\/T[g.1.length]?=some (d u))/\(if p v=true then T.set n (d v) else (T.set n (d v)).set g.1.length (e v))=(tE p d g v).1.map e++(tE p d g v).2++R/\(if p v=true then g.1.length else g.1.length+1)=(tE p d g v).1.length:=by
 obtain⟨F,M⟩:=g;have hn:=h.n;have hm:=h.m;have hr:=h.r;simp at hn hm hr hT⊢;subst hT;obtain⟨a,M',rfl⟩:∃a M',M=a::M':=by cases M with|nil=>simp at hm|cons a M=>exact⟨_,_,rfl⟩
 have e1:n=(F.map e).length+(a::M').length:=by simp;simp at hn;omega
 have e2:F.length=(F.map e).length:=by simp
 obtain⟨u,hu⟩:=hr a (by simp);refine⟨by simp at hn⊢;omega,?_,by simp at hn;omega,⟨u,?_⟩,?_,?_⟩;·rw[e1,<-fE,<-nS];simp
 ·rw[e2];rcases hu with rfl|rfl<;>simp
 ·have s1:∀w,(F.map e++(a::M'++e v::R)).set n w=F.map e++(a::M'++w::R):=by intro w;rw[e1];simp[List.set_append,oS,Nat.add_sub_cancel]
  rw[s1];unfold tE;cases hp:p v;·simp only[hp,fC,ey];rw[e2,Hw _ _ (dz _)];simp
  ·simp
 ·unfold tE;cases hp:p v<;>simp
end M
set_option maxHeartbeats 4000000
namespace M
open Go
variable [Lb]
def adg(o:Ob)(hb:cr o<=1073741824):(dU o).length<=9223372036854775807:=by
 by_cases hok:dn o=true
 ·have hw:cr o=o.path.length+wL wS o.names+wL wS o.values+ct o.resp:=rfl;have hrl:=KY o.resp;have hvl:=Ml o.values;have A:=A7 hok;have a2:=A.n4;have a1:=A.len;have a3:=A6 o.t;have a4:=nX o.values.length (by omega);have et:dU o=mc++32::(o.path++32::(eP o.t++32::(bu o.values.length++10::(kT o.values++fZ o.resp)))):=by unfold dU nB qi fZ;rw[az hok,az A.resp];simp
  rw[et];simp[AN];omega
 ·rw[(KA o).2 hok];simp
def pE(s:Sh)(o:Ob):List Kp:=s.ai.filter λk=> !(decide (k.at_=s.next)||kS k.obj o)
def AG(s:Sh)(o:Ob):Bool:=dn o && !fL s.aF o && !decide (s.seq=100000) && !decide (fJ s.seq (dU o)=[])
def wm(s:Sh)(o:Ob):Sh:=⟨lG s.aG s.next (fJ s.seq (dU o)),pE s o++[⟨o,s.next,s.seq⟩],s.aF,rY s.next,s.seq+1⟩
def tV(s:Sh)(o:Ob):Sh:=if AG s o=true then wm s o else s
end M
set_option maxHeartbeats 4000000
namespace M
open Go
variable [Lb]
def Pp{β:Type}(p:β->Bool)(l:List β):l.flatMap (λk=>if p k=true then [k] else [])=l.filter p:=by
 induction l with
 |nil=>rfl
 |cons a l ih=>cases h:p a<;>simp[h,ih]
def GJ:Sh:=⟨⟨[],[]⟩,[],[],0,0⟩
def Uq(s:Sh)(o:Ob)(hb:bC s<=1073741824)(ho:cr o<=1073741824)(t:ag):aH (aj (ev LI TT) (av TT) xb) [(2,.ptr .own (aO .af s)),(3,.ptr .own (aS .af o)),(4,.ptr .own [.row .own 1 [],.row .own 2 [],.row .own 9 [],.row .own 4 [],.int .i64 0,.int .i64 0]),(6,.str ⟨t.toArray⟩),(7,.ptr .own [.row .own 1 (s.aG.cells.map eS),.row .own 2 (s.aG.pending.map eW),.row .own 9 (([]).map (aM .own)),.row .own 4 (s.aF.map bK),.int .i64 s.next,.int .i64 s.seq]),(8,.int .i64 0)]=some (.exit 0,[(2,.ptr .own (aO .af s)),(3,.ptr .own (aS .af o)),(4,.ptr .own [.row .own 1 [],.row .own 2 [],.row .own 9 [],.row .own 4 [],.int .i64 0,.int .i64 0]),(6,.str ⟨t.toArray⟩),(7,.ptr .own [.row .own 1 (s.aG.cells.map eS),.row .own 2 (s.aG.pending.map eW),.row .own 9 ((((s.ai).flatMap (λk=>if (!(decide (k.at_=s.next)||kS k.obj o))=true then [k] else []))).map (aM .own)),.row .own 4 (s.aF.map bK),.int .i64 s.next,.int .i64 s.seq]),(8,.int .i64 (s.ai).length),(45,.bool false)]):=by
 refine p9 (f:=aj (ev LI TT) (av TT) xb) (s.ai) (λk=>if (!(decide (k.at_=s.next)||kS k.obj o))=true then [k] else []) (λi out=>[(2,.ptr .own (aO .af s)),(3,.ptr .own (aS .af o)),(4,.ptr .own [.row .own 1 [],.row .own 2 [],.row .own 9 [],.row .own 4 [],.int .i64 0,.int .i64 0]),(6,.str ⟨t.toArray⟩),(7,.ptr .own [.row .own 1 (s.aG.cells.map eS),.row .own 2 (s.aG.pending.map eW),.row .own 9 ((out).map (aM .own)),.row .own 4 (s.aF.map bK),.int .i64 s.next,.int .i64 s.seq]),(8,.int .i64 i)]) (λout=>[(2,.ptr .own (aO .af s)),(3,.ptr .own (aS .af o)),(4,.ptr .own [.row .own 1 [],.row .own 2 [],.row .own 9 [],.row .own 4 [],.int .i64 0,.int .i64 0]),(6,.str ⟨t.toArray⟩),(7,.ptr .own [.row .own 1 (s.aG.cells.map eS),.row .own 2 (s.aG.pending.map eW),.row .own 9 ((out).map (aM .own)),.row .own 4 (s.aF.map bK),.int .i64 s.next,.int .i64 s.seq]),(8,.int .i64 (s.ai).length),(45,.bool false)]) (λi b out hi hl hout=>?_) (λout hout=>?_)
 ·have hw:=bz i (by have dM:bC s=bU s.aG+wL bH s.ai+wL aW s.aF:=rfl;have:=bx (w:=bH) s.ai;omega);obtain⟨_,rfl⟩:=aN.1 hi;have dM:bC s=bU s.aG+wL bH s.ai+wL aW s.aF:=rfl;have hlk:=bx (w:=bH) s.ai;have hm:=sO (cI hl);have hlo:out.length<=i:=by rw[hout];exact DP _ (λb=>by split<;>simp) _ _
  have hlz:(out.length+1)*136<=140737488355328:=by omega
  have u1:=yU (s.ai[i]).obj (by omega);try simp at u1
  have u2:=N3 (s.ai[i]).obj o (by omega) ho;try simp at u2
  by_cases g:(s.ai[i]).at_=s.next
  ·simp -implicitDefEqProofs [xb,FH,g,hl,hw]
  cases g2:kS (s.ai[i]).obj o;all_goals
  simp -implicitDefEqProofs [xb,FH,hl,hw,u1,u2,hlz,cE,g,g2]
 ·simp -implicitDefEqProofs [xb,FH]
def Ws(s:Sh)(o:Ob)(hb:bC s<=1073741824)(ho:cr o<=1073741824):ev LI TT 48 [.agg (aO .af s),.agg (aS .af o)]=some (.ak [.agg (aO .own (if de s=true then tV s o else GJ)),.bool ((de s && AG s o))],[.dead,.dead]):=by
 rw[ay (b:=qq) (rs:=[.c 4 6 true 54,.t 5]) (n:=2) rfl rfl];have u1:=yT s hb;try simp at u1
 have u2:=N1 s hb;try simp at u2
 cases g:de s;·simp -implicitDefEqProofs [qq,u1,g,GJ]
 rw[g] at u1;have A:=nI g;have hn:=A.n;have hq:=A.q;have dM:bC s=bU s.aG+wL bH s.ai+wL aW s.aF:=rfl;have l1:=bx (w:=bH) s.ai;have l2:=TU (λk=> !(decide (k.at_=s.next)||kS k.obj o)) s.ai;have v1:=NS o ho;have v2:=Il s.seq (dU o) (adg o ho);have v3:=yS o ho;have v4:=Dd s.aF o (by omega) ho;try simp at v1 v2 v3 v4
 have hlz:((pE s o).length+1)*136<=140737488355328:=by unfold pE;omega
 have hw:=cJ (n:=s.seq+1) (by omega) (by omega);unfold tV AG;cases g1:dn o;·simp -implicitDefEqProofs [qq,u1,u2,v1,v2,v3,v4,g,g1]
 cases g2:fL s.aF o;rotate_left;·simp -implicitDefEqProofs [qq,u1,u2,v1,v2,v3,v4,g,g1,g2]
 by_cases g3:s.seq=100000;·rw[g3] at v2 u1 u2;simp -implicitDefEqProofs [qq,u1,u2,v1,v2,v3,v4,g,g1,g2,g3]
 by_cases g4:fJ s.seq (dU o)=[];·rw[g4] at v2;simp -implicitDefEqProofs [qq,u1,u2,v1,v2,v3,v4,g,g1,g2,g3,g4]
 have v5:=Uq s o hb ho (fJ s.seq (dU o));rw[Pp,show s.ai.filter (λk=> !(decide (k.at_=s.next)||kS k.obj o))=pE s o from rfl] at v5;have v6:=N2 ⟨s.aG,pE s o,s.aF,s.next,s.seq⟩ s.next (fJ s.seq (dU o)) A.d (by omega)
 have v7:=yU o ho;have v8:=N0 s.next hn
 unfold Fm at v6;try simp at v5 v6 v7 v8
 unfold wm;simp -implicitDefEqProofs [qq,u1,u2,v1,v2,v3,v4,v5,v6,v7,v8,g,g1,g2,g3,g4,hw,hlz,cE];all_goals (repeat' split)<;>first|rfl|omega|(simp_all;done)|(simp_all;omega)|skip
end M
set_option maxHeartbeats 4000000
namespace M
open Go
variable [Lb]
def R6(n:Int)(b:ag):(fJ n b).length<=2040:=by
 unfold fJ;split;·rename_i h;unfold KO;have l1:=nX n.toNat (by omega);have l2:=nX b.length (by omega);have l3:=vD 17 (sM (bu n.toNat++32::(bu b.length++10::b))) (Nat.lt_trans (L1 _) (by decide));simp;omega
 ·simp
def ab0(s:Sh)(o:Ob):bC (tV s o)<=bC s+cr o+2100:=by
 unfold tV;split
 ·have h1:=RS s.aG s.next (fJ s.seq (dU o))
  have h2:=R6 s.seq (dU o);have h3:wL bH (pE s o)<=wL bH s.ai:=Ti bH _ _;have h4:wL bH [⟨o,s.next,s.seq⟩]=cr o+1:=by simp[wL,bH];omega
  show bU (lG s.aG s.next (fJ s.seq (dU o)))+wL bH (pE s o++[⟨o,s.next,s.seq⟩])+wL aW s.aF<=bU s.aG+wL bH s.ai+wL aW s.aF+cr o+2100;rw[yf];omega
 ·omega
end M
