/- What the functions come to in the machine; no conditions. -/
import Derived.Test.YtaaeoialiegmeaaGreatDoorTab
import Derived.Test.YtaaeoialiegmeaaGreatDoorMc
set_option linter.defProp false
set_option linter.unusedSectionVars false
set_option linter.unusedVariables false
set_option linter.unusedSimpArgs false
namespace M
open Go
variable [Lb]
end M
namespace M
open Go
variable [Lb]
@[simp] def akZ(x:Int)(lo:Int)(hi:Int):ev LI TT 84 [.int .i64 x,.int .i64 lo,.int .i64 hi]=some (.bool ((decide (lo<=x/\x<=hi))),[.dead,.dead,.dead]):=by rw[aq (b:=Hv) (rs:=[.t 6]) (n:=3) rfl rfl];simp -implicitDefEqProofs [Hv];try (by_cases h1:lo<=x<;>by_cases h2:x<=hi<;>simp[h1,h2])
@[simp] def akT(x:Int)(lo:Int)(hi:Int):ev LI TT 91 [.int .i64 x,.int .i64 lo,.int .i64 hi]=some (.bool ((decide (lo<=x/\x<=hi))),[.dead,.dead,.dead]):=by rw[aq (b:=FL) (rs:=[.t 6]) (n:=3) rfl rfl];simp -implicitDefEqProofs [FL];try (by_cases h1:lo<=x<;>by_cases h2:x<=hi<;>simp[h1,h2])
def VD(s:ag)(hb:s.length<=9223372036854775807):aJ (ak (ev LI TT) (au TT) CD) [(0,.str ⟨s.toArray⟩),(3,.int .i64 0)]=if bu tn (s)=true then some (.exit 0,[(0,.str ⟨s.toArray⟩),(3,.int .i64 (s).length),(8,.bool false)]) else some (.ret,[(2,.bool false)]):=by
 refine gJ (f:=ak (ev LI TT) (au TT) CD) (s) (λi=>[(0,.str ⟨s.toArray⟩),(3,.int .i64 i)]) tn _ _ (λi b hi hl=>?_) ?_;·have hw:=bx i (by first|omega|(simp at hl;omega));obtain⟨_,rfl⟩:=aN.1 hi;unfold tn;simp -implicitDefEqProofs [CD,Mq,hl,hw];all_goals (repeat' split)<;>first|rfl|omega|(simp_all;done)|(simp_all;omega)|skip
 ·simp -implicitDefEqProofs [CD,Mq]
def Jp(s:ag)(hb:s.length<=9223372036854775807):ev LI TT 167 [.str ⟨s.toArray⟩]=some (.bool ((eE s)),[.dead]):=by
 rw[aq (b:=GP) (rs:=[.t 2]) (n:=1) rfl rfl];unfold eE;have u1:=VD s hb;try simp at u1
 simp -implicitDefEqProofs [GP,u1];all_goals (repeat' split)<;>first|rfl|omega|(simp_all;done)|(simp_all;omega)|skip
def Vb(s:ag)(hb:s.length<=9223372036854775807):aJ (ak (ev LI TT) (au TT) Bo) [(0,.str ⟨s.toArray⟩),(3,.int .i64 0)]=if bu tn (s)=true then some (.exit 0,[(0,.str ⟨s.toArray⟩),(3,.int .i64 (s).length),(7,.bool false)]) else some (.ret,[(2,.bool false)]):=by
 refine gJ (f:=ak (ev LI TT) (au TT) Bo) (s) (λi=>[(0,.str ⟨s.toArray⟩),(3,.int .i64 i)]) tn _ _ (λi b hi hl=>?_) ?_;·have hw:=bx i (by first|omega|(simp at hl;omega));obtain⟨_,rfl⟩:=aN.1 hi;unfold tn;simp -implicitDefEqProofs [Bo,K1,hl,hw];all_goals (repeat' split)<;>first|rfl|omega|(simp_all;done)|(simp_all;omega)|skip
 ·simp -implicitDefEqProofs [Bo,K1]
def Ji(s:ag)(hb:s.length<=9223372036854775807):ev LI TT 176 [.str ⟨s.toArray⟩]=some (.bool ((eE s)),[.dead]):=by
 rw[aq (b:=FC) (rs:=[.t 2]) (n:=1) rfl rfl];unfold eE;have u1:=Vb s hb;try simp at u1
 simp -implicitDefEqProofs [FC,u1];all_goals (repeat' split)<;>first|rfl|omega|(simp_all;done)|(simp_all;omega)|skip
def Ve(s:ag)(lo:UInt8)(hb:s.length<=9223372036854775807):aJ (ak (ev LI TT) (au TT) Br) [(0,.str ⟨s.toArray⟩),(1,.int .u8 (lo.toNat:Int)),(5,.int .i64 0)]=if bu (iY lo.toNat) (s)=true then some (.exit 0,[(0,.str ⟨s.toArray⟩),(1,.int .u8 (lo.toNat:Int)),(5,.int .i64 (s).length),(9,.bool false)]) else some (.ret,[(4,.bool false)]):=by
 refine gJ (f:=ak (ev LI TT) (au TT) Br) (s) (λi=>[(0,.str ⟨s.toArray⟩),(1,.int .u8 (lo.toNat:Int)),(5,.int .i64 i)]) (iY lo.toNat) _ _ (λi b hi hl=>?_) ?_;·have hw:=bx i (by first|omega|(simp at hl;omega));obtain⟨_,rfl⟩:=aN.1 hi;unfold iY;simp -implicitDefEqProofs [Br,K4,hl,hw];all_goals (repeat' split)<;>first|rfl|omega|(simp_all;done)|(simp_all;omega)|skip
 ·simp -implicitDefEqProofs [Br,K4]
def OT(s:ag)(lo:UInt8)(hb:s.length<=9223372036854775807):ev LI TT 188 [.str ⟨s.toArray⟩,.int .u8 (lo.toNat:Int)]=some (.bool ((bu (iY lo.toNat) s)),[.dead,.dead]):=by
 rw[aq (b:=FG) (rs:=[.t 4]) (n:=2) rfl rfl];have u1:=Ve s lo hb;try simp at u1
 simp -implicitDefEqProofs [FG,u1];all_goals (repeat' split)<;>first|rfl|omega|(simp_all;done)|(simp_all;omega)|skip
end M
namespace M
open Go
variable [Lb]
def fW(b:UInt8):Bool:=decide ¬(b.toNat:Int)=32
def VE(s:ag)(hb:s.length<=9223372036854775807):aJ (ak (ev LI TT) (au TT) CE) [(0,.str ⟨s.toArray⟩),(3,.int .i64 0),(4,.int .i64 s.length)]=some (.exit 0,(λ(i:Nat)=>[(0,.str ⟨s.toArray⟩),(3,.int .i64 i),(4,.int .i64 s.length),(15,.bool false)]) (eO fW (s))):=by
 refine Si (f:=ak (ev LI TT) (au TT) CE) (s) (λi=>[(0,.str ⟨s.toArray⟩),(3,.int .i64 i),(4,.int .i64 s.length)]) fW (λ(i:Nat)=>[(0,.str ⟨s.toArray⟩),(3,.int .i64 i),(4,.int .i64 s.length),(15,.bool false)]) (λi b hi hl=>?_) ?_;·have hw:=bx i (by first|omega|(simp at hl;omega));obtain⟨_,rfl⟩:=aN.1 hi;simp -implicitDefEqProofs [CE,Mr,hl,hw,fW];all_goals (repeat' split)<;>first|rfl|omega|(simp_all;done)|(simp_all;omega)|skip
 ·simp -implicitDefEqProofs [CE,Mr]
def VF(s:ag)(k:Nat)(hk:k<=s.length)(hb:s.length<=9223372036854775807):aJ (ak (ev LI TT) (au TT) CF) [(0,.str ⟨s.toArray⟩),(3,.int .i64 k),(4,.int .i64 ((s.length - 0:Nat):Int))]=some (.exit 2,(λ(i:Nat)=>[(0,.str ⟨s.toArray⟩),(3,.int .i64 k),(4,.int .i64 ((s.length - i:Nat):Int)),(27,.bool false)]) (eO fW ((s.drop k).reverse))):=by
 refine Si (f:=ak (ev LI TT) (au TT) CF) ((s.drop k).reverse) (λi=>[(0,.str ⟨s.toArray⟩),(3,.int .i64 k),(4,.int .i64 ((s.length - i:Nat):Int))]) fW (λ(i:Nat)=>[(0,.str ⟨s.toArray⟩),(3,.int .i64 k),(4,.int .i64 ((s.length - i:Nat):Int)),(27,.bool false)]) (λi b hi hl=>?_) ?_
 ·have hw:=bx i (by first|omega|(simp at hl;omega));obtain⟨_,rfl⟩:=aN.1 hi;simp at hl;obtain⟨m,hm⟩:∃m,s.length - i=m+1:=⟨s.length - i - 1,by omega⟩;have e1:s.length - (i+1)=m:=by omega
  have e2:IntKind.i64.wrap (m:Int)=m:=cy (by omega) (by omega);have e3:m<s.length:=by omega
  have e4:((s.drop k).reverse)[i]=s[m]:=by simp;congr 1;omega
  have e5:(k:Int)<(m:Int)+1:=by omega
  rw[e4,hm,e1];simp -implicitDefEqProofs [CF,Ms,hl,hw,fW,e2,e3,e5];try (rw[cj e3];simp[e2])
  all_goals (repeat' split)<;>first|rfl|omega|(simp_all;done)|(simp_all;omega)|skip
 ·simp only[Oa,tF,show s.length - (s.length - k)=k by omega];simp -implicitDefEqProofs [CF,Ms]
end M
namespace M
open Go
variable [Lb]
def Ir(c:aY):∃(x:Int) (c':aY),ev LI TT 186 [.ptr .own (aL c)]=some (.int .i64 x,[.ptr .own (aL c')])/\0<=x/\x<=255:=by
 obtain⟨code,i,h,hi,hl⟩:=c;by_cases hlt:i<code.length
 ·have hw:=bx i (by omega);have H:∃(x h':Int),ev LI TT 186 [.ptr .own [.row .sl 1 (code.map eU),.int .i64 i,.int .i64 h]]=some (.int .i64 x,[.ptr .own [.row .sl 1 (code.map eU),.int .i64 (i+1),.int .i64 h']])/\0<=x/\x<=255:=by rw[aq (b:=yu) (rs:=[.t 2]) (n:=1) rfl rfl];simp -implicitDefEqProofs [yu,hlt,hw,Oz];omega
  obtain⟨x,h',e,b⟩:=H;exact⟨x,⟨code,i+1,h',hlt,hl⟩,e,b⟩
 ·have H:∃(x h':Int),ev LI TT 186 [.ptr .own [.row .sl 1 (code.map eU),.int .i64 i,.int .i64 h]]=some (.int .i64 x,[.ptr .own [.row .sl 1 (code.map eU),.int .i64 i,.int .i64 h']])/\0<=x/\x<=255:=by rw[aq (b:=yu) (rs:=[.t 2]) (n:=1) rfl rfl];simp -implicitDefEqProofs [yu,hlt,Oz];omega
  obtain⟨x,h',e,b⟩:=H;exact⟨x,⟨code,i,h',hi,hl⟩,e,b⟩
noncomputable def gV(c:aY):Int:=(Ir c).choose
noncomputable def ei(c:aY):aY:=(Ir c).choose_spec.choose
def zN(c:aY):0<=gV c/\gV c<=255:=(Ir c).choose_spec.choose_spec.2
@[simp] def akY(c:aY):ev LI TT 186 [.ptr .own (aL c)]=some (.int .i64 (gV c),[.ptr .own (aL (ei c))]):=(Ir c).choose_spec.choose_spec.1
def T4(a n:Int)(ha:0<=a)(hn:0<n):0<=a.tmod n/\a.tmod n<n:=by rw[DJ ha];exact⟨Int.emod_nonneg _ (by omega),Int.emod_lt_of_pos _ hn⟩
def Iq(c:aY)(n:Int)(hn:0<n)(hn':n<=9223372036854775807):∃(x:Int) (c':aY),ev LI TT 110 [.ptr .own (aL c),.int .i64 n]=some (.int .i64 x,[.ptr .own (aL c'),.dead])/\0<=x/\x<n:=by
 rw[aq (b:=vr) (rs:=[.t 4]) (n:=2) rfl rfl];have h0:¬n<=0:=by omega
 have h1:¬n=0:=by omega
 by_cases h:n<=256;·refine⟨(gV c).tmod n,ei c,?_,T4 _ _ (zN c).1 hn⟩;simp -implicitDefEqProofs [vr,h,h0,h1]
 ·have b1:=zN c;have b2:=zN (ei c);have b3:=zN (ei (ei c));have b4:=zN (ei (ei (ei c)));have w1:=cy (n:=gV c*16777216) (by omega) (by omega);have w2:=cy (n:=gV (ei c)*65536) (by omega) (by omega);have w3:=cy (n:=gV (ei (ei c))*256) (by omega) (by omega);have w4:=cy (n:=gV c*16777216+gV (ei c)*65536) (by omega) (by omega);have w5:=cy (n:=gV c*16777216+gV (ei c)*65536+gV (ei (ei c))*256) (by omega) (by omega);have w6:=cy (n:=gV c*16777216+gV (ei c)*65536+gV (ei (ei c))*256+gV (ei (ei (ei c)))) (by omega) (by omega);refine⟨(gV c*16777216+gV (ei c)*65536+gV (ei (ei c))*256+gV (ei (ei (ei c)))).tmod n,ei (ei (ei (ei c))),?_,T4 _ _ (by omega) hn⟩;simp -implicitDefEqProofs [vr,h,h0,h1,w1,w2,w3,w4,w5,w6]
def akc(c:aY)(n:Int)(hn:n<=0):ev LI TT 110 [.ptr .own (aL c),.int .i64 n]=some (.int .i64 0,[.ptr .own (aL c),.dead]):=by rw[aq (b:=vr) (rs:=[.t 4]) (n:=2) rfl rfl];simp -implicitDefEqProofs [vr,hn]
noncomputable def kG(c:aY)(n:Int):Int:=if h:0<n/\n<=9223372036854775807 then (Iq c n h.1 h.2).choose else 0
noncomputable def jh(c:aY)(n:Int):aY:=if h:0<n/\n<=9223372036854775807 then (Iq c n h.1 h.2).choose_spec.choose else c
def tR(c:aY)(n:Int)(h1:0<n)(h2:n<=9223372036854775807):0<=kG c n/\kG c n<n:=by unfold kG;rw[jV ⟨h1,h2⟩];exact(Iq c n h1 h2).choose_spec.choose_spec.2
def zW(c:aY)(n:Int)(h2:n<=9223372036854775807):ev LI TT 110 [.ptr .own (aL c),.int .i64 n]=some (.int .i64 (kG c n),[.ptr .own (aL (jh c n)),.dead]):=by
 unfold kG jh;by_cases h1:0<n;·rw[jV ⟨h1,h2⟩,jV ⟨h1,h2⟩];exact(Iq c n h1 h2).choose_spec.choose_spec.1
 ·rw[ri (λh=>h1 h.1),ri (λh=>h1 h.1)];exact akc c n (by omega)
def XT(c:aY)(n:Int)(h2:n<=9223372036854775807):ev LI TT 73 [.ptr .own (aL c),.int .i64 n]=some (.bool (decide (kG c n=0)),[.ptr .own (aL (jh c n)),.dead]):=by rw[aq (b:=HA) (rs:=[.t 4]) (n:=2) rfl rfl];simp -implicitDefEqProofs [HA,zW c n h2];all_goals (repeat' split)<;>first|rfl|omega|(simp_all;done)|(simp_all;omega)|skip
def Pd(c:aY)(l:List ag)(h1:0<l.length)(h2:l.length<=9223372036854775807):ev LI TT 151 [.ptr .own (aL c),.row .af 1 (l.map eS)]=some (.str ⟨(l.getD (kG c l.length).toNat []).toArray⟩,[.ptr .own (aL (jh c l.length)),.dead]):=by
 rw[aq (b:=HC) (rs:=[.t 4]) (n:=2) rfl rfl];have b:=tR c l.length (by omega) (by omega);have b2:(kG c l.length).toNat<l.length:=by omega
 simp -implicitDefEqProofs [HC,zW c l.length (by omega),b,b2];all_goals (repeat' split)<;>first|rfl|omega|(simp_all;done)|(simp_all;omega)|skip
def XU(c:aY)(l:List Int)(h1:0<l.length)(h2:l.length<=9223372036854775807):ev LI TT 124 [.ptr .own (aL c),.row .af 1 (l.map eI)]=some (.int .i64 (l.getD (kG c l.length).toNat 0),[.ptr .own (aL (jh c l.length)),.dead]):=by
 rw[aq (b:=HB) (rs:=[.t 4]) (n:=2) rfl rfl];have b:=tR c l.length (by omega) (by omega);have b2:(kG c l.length).toNat<l.length:=by omega
 simp -implicitDefEqProofs [HB,zW c l.length (by omega),b,b2];all_goals (repeat' split)<;>first|rfl|omega|(simp_all;done)|(simp_all;omega)|skip
def VO(code:List UInt8)(hl:code.length<=1048576)(h:Int):∃h':Int,aJ (ak (ev LI TT) (au TT) yw) [(0,.row .sl 1 (code.map eU)),(3,.int .i64 h),(4,.int .i64 0),(100000,.row .sl 1 (code.map eU))]=some (.exit 0,[(0,.row .sl 1 (code.map eU)),(3,.int .i64 h'),(4,.int .i64 (min code.length 4000:Nat)),(15,.bool false),(100000,.row .sl 1 (code.map eU))]):=by
 refine Exists.elim (ad4 (f:=ak (ev LI TT) (au TT) yw) (min code.length 4000) (λi (h:Int)=>[(0,.row .sl 1 (code.map eU)),(3,.int .i64 h),(4,.int .i64 i),(100000,.row .sl 1 (code.map eU))]) (λ_ _=>True) (λh'=>[(0,.row .sl 1 (code.map eU)),(3,.int .i64 h'),(4,.int .i64 (min code.length 4000:Nat)),(15,.bool false),(100000,.row .sl 1 (code.map eU))]) h trivial (λi g hi _=>?_) (λg _=>?_)) λg h=>⟨g,h.2⟩
 ·have h1:i<code.length:=by omega
  have h2:(i:Int)<4000:=by omega
  have hw:=bx i (by omega);simp -implicitDefEqProofs [yw,Hy,h1,h2,hw]
 ·by_cases h1:code.length<=4000
  ·have:min code.length 4000=code.length:=by omega
   rw[this];simp -implicitDefEqProofs [yw,Hy]
  ·have:min code.length 4000=4000:=by omega
   rw[this];have h2:4000<code.length:=by omega
   have h3:(4000:Int)<code.length:=by omega
   simp -implicitDefEqProofs [yw,Hy,h2,h3]
def ake(code:List UInt8)(hl:code.length<=1048576):∃c:aY,ev LI TT 54 [.row .sl 1 (code.map eU)]=some (.ptr .own (aL c),[.dead]):=by have hw:=cy (n:=18850+code.length) (by omega) (by omega);obtain⟨h',e⟩:=VO code hl (18850+code.length);refine⟨⟨code,0,h',q7 _,by omega⟩,?_⟩;rw[aq (b:=Hz) (rs:=[.t 2]) (n:=1) rfl rfl];simp -implicitDefEqProofs [Hz,hw,e,aL,BO]
end M
namespace M
open Go
variable [Lb]
def SC(b:UInt8):fW b=true↔b≠32:=by
 unfold fW
 have:((b.toNat:Int)=32)↔b=32:=by
  constructor;·intro h;exact tB.1 (by have e:(32:UInt8).toNat=32:=rfl;omega)
  ·rintro rfl;rfl
 simp[this]
def T6(s:ag):Lib.trimLeftB s 32=s.drop (eO fW s):=by
 refine Lib.trimLeftB_drop s 32 _ (Ik _ _) (λj b hj hb=>?_) λb hb=>(SC b).1 (Ud _ _ _ hb);have:=Ue _ _ _ _ hj hb;by_cases h:b=32;·exact h
 ·rw[(SC b).2 h] at this;cases this
def ajO(s:ag):Lib.trimRightB s 32=s.take (s.length - eO fW s.reverse):=by have h:=T6 s.reverse;unfold Lib.trimLeftB at h;unfold Lib.trimRightB;rw[h,List.drop_reverse,UE]
def ajP(s:ag):(s.drop (eO fW s)).take (s.length - eO fW (s.drop (eO fW s)).reverse - eO fW s)=gA s:=by rw[ajQ,T6,ajO,tF];congr 1;omega
def Jq(s:ag)(hb:s.length<=9223372036854775807):ev LI TT 170 [.str ⟨s.toArray⟩]=some (.str ⟨(gA s).toArray⟩,[.dead]):=by
 rw[aq (b:=GQ) (rs:=[.t 2]) (n:=1) rfl rfl];have h1:=Ik fW s;have h2:=Ik fW (s.drop (eO fW s)).reverse;simp only[Oa,tF] at h2;have h3:=ajP s;have u1:=VE s hb;try simp at u1
 have u2:=VF s (eO fW s) (Ik _ _) hb;try simp at u2
 simp -implicitDefEqProofs [GQ,u1,u2,(by omega:(eO fW s:Int)<=((s.length - eO fW (s.drop (eO fW s)).reverse:Nat):Int)),(by omega:((s.length - eO fW (s.drop (eO fW s)).reverse:Nat):Int)<=s.length),Lib.extract_mk,h3];all_goals (repeat' split)<;>first|rfl|omega|(simp_all;done)|(simp_all;omega)|skip
def OS(s:ag)(hb:s.length<=9223372036854775807):ev LI TT 189 [.str ⟨s.toArray⟩]=some (.str ⟨(gA s).toArray⟩,[.dead]):=by
 rw[aq (b:=FD) (rs:=[.t 2]) (n:=1) rfl rfl];have u1:=Yb s hb;try simp at u1
 simp -implicitDefEqProofs [FD,u1];all_goals (repeat' split)<;>first|rfl|omega|(simp_all;done)|(simp_all;omega)|skip
def VG(s:ag)(hb:s.length<=9223372036854775807):aJ (ak (ev LI TT) (au TT) CG) [(0,.str ⟨s.toArray⟩),(3,.int .i64 0)]=if bu (iY 32) (s)=true then some (.exit 0,[(0,.str ⟨s.toArray⟩),(3,.int .i64 (s).length),(7,.bool false)]) else some (.ret,[(2,.bool false)]):=by
 refine gJ (f:=ak (ev LI TT) (au TT) CG) (s) (λi=>[(0,.str ⟨s.toArray⟩),(3,.int .i64 i)]) (iY 32) _ _ (λi b hi hl=>?_) ?_;·have hw:=bx i (by first|omega|(simp at hl;omega));obtain⟨_,rfl⟩:=aN.1 hi;unfold iY;simp -implicitDefEqProofs [CG,Mt,hl,hw];all_goals (repeat' split)<;>first|rfl|omega|(simp_all;done)|(simp_all;omega)|skip
 ·simp -implicitDefEqProofs [CG,Mt]
def Jr(s:ag)(hb:s.length<=9223372036854775807):ev LI TT 88 [.str ⟨s.toArray⟩]=some (.bool ((fZ s)),[.dead]):=by
 rw[aq (b:=vb) (rs:=[.t 2]) (n:=1) rfl rfl];unfold fZ;have u1:=VG s hb;try simp at u1
 have u2:=Jq s hb;try simp at u2
 by_cases g1:bu (iY 32) s=true;rotate_left;·simp -implicitDefEqProofs [vb,u1,u2,g1]
 by_cases g2:1<=(s.length:Int);rotate_left;·simp -implicitDefEqProofs [vb,u1,u2,g1,eq_false g2]
 by_cases g3:(s.length:Int)<=60;rotate_left;·simp -implicitDefEqProofs [vb,u1,u2,g1,eq_true g2,eq_false g3]
 simp -implicitDefEqProofs [vb,u1,u2,g1,eq_true g2,eq_true g3];all_goals (repeat' split)<;>first|rfl|omega|(simp_all;done)|(simp_all;omega)|skip
def Jj(s:ag)(hb:s.length<=9223372036854775807):ev LI TT 114 [.str ⟨s.toArray⟩]=some (.bool ((fZ s)),[.dead]):=by
 rw[aq (b:=uy) (rs:=[.t 2]) (n:=1) rfl rfl];unfold fZ;have e32:(32:UInt8).toNat=32:=rfl;have u1:=OT s 32 hb;try simp at u1
 have u2:=OS s hb;try simp at u2
 by_cases g1:1<=(s.length:Int);rotate_left;·simp -implicitDefEqProofs [uy,u1,u2,eq_false g1]
 by_cases g2:(s.length:Int)<=60;rotate_left;·simp -implicitDefEqProofs [uy,u1,u2,eq_true g1,eq_false g2]
 by_cases g3:bu (iY 32) s=true;rotate_left;·simp -implicitDefEqProofs [uy,u1,u2,eq_true g1,eq_true g2,g3]
 simp -implicitDefEqProofs [uy,u1,u2,eq_true g1,eq_true g2,g3];all_goals (repeat' split)<;>first|rfl|omega|(simp_all;done)|(simp_all;omega)|skip
def VT(s:ag)(hb:s.length<=9223372036854775807):aJ (ak (ev LI TT) (au TT) C7) [(0,.str ⟨s.toArray⟩),(3,.int .i64 0)]=if bu (iY 33) (s)=true then some (.exit 0,[(0,.str ⟨s.toArray⟩),(3,.int .i64 (s).length),(7,.bool false)]) else some (.ret,[(2,.bool false)]):=by
 refine gJ (f:=ak (ev LI TT) (au TT) C7) (s) (λi=>[(0,.str ⟨s.toArray⟩),(3,.int .i64 i)]) (iY 33) _ _ (λi b hi hl=>?_) ?_;·have hw:=bx i (by first|omega|(simp at hl;omega));obtain⟨_,rfl⟩:=aN.1 hi;unfold iY;simp -implicitDefEqProofs [C7,MX,hl,hw];all_goals (repeat' split)<;>first|rfl|omega|(simp_all;done)|(simp_all;omega)|skip
 ·simp -implicitDefEqProofs [C7,MX]
def Jt(s:ag)(hb:s.length<=9223372036854775807):ev LI TT 83 [.str ⟨s.toArray⟩]=some (.bool ((ij s)),[.dead]):=by
 rw[aq (b:=vw) (rs:=[.t 2]) (n:=1) rfl rfl];unfold ij;have u1:=VT s hb;try simp at u1
 by_cases g1:bu (iY 33) s=true;rotate_left;·simp -implicitDefEqProofs [vw,u1,g1]
 by_cases g2:1<=(s.length:Int);rotate_left;·simp -implicitDefEqProofs [vw,u1,g1,eq_false g2]
 by_cases g3:(s.length:Int)<=60;rotate_left;·simp -implicitDefEqProofs [vw,u1,g1,eq_true g2,eq_false g3]
 obtain⟨b,hb0⟩:∃b,s[0]?=some b:=⟨s[0]'(by omega),by simp⟩;simp -implicitDefEqProofs [vw,u1,g1,eq_true g2,eq_true g3,hb0];all_goals (repeat' split)<;>first|rfl|omega|(simp_all;done)|(simp_all;omega)|skip
def Jk(s:ag)(hb:s.length<=9223372036854775807):ev LI TT 115 [.str ⟨s.toArray⟩]=some (.bool ((ij s)),[.dead]):=by
 rw[aq (b:=wZ) (rs:=[.t 2]) (n:=1) rfl rfl];unfold ij;have e33:(33:UInt8).toNat=33:=rfl;have u1:=OT s 33 hb;try simp at u1
 by_cases g1:1<=(s.length:Int);rotate_left;·simp -implicitDefEqProofs [wZ,u1,eq_false g1]
 by_cases g2:(s.length:Int)<=60;rotate_left;·simp -implicitDefEqProofs [wZ,u1,eq_true g1,eq_false g2]
 obtain⟨b,hb0⟩:∃b,s[0]?=some b:=⟨s[0]'(by omega),by simp⟩;by_cases h47:(b.toNat:Int)=47;all_goals
 simp -implicitDefEqProofs [wZ,u1,eq_true g1,eq_true g2,hb0,h47];all_goals (repeat' split)<;>first|rfl|omega|(simp_all;done)|(simp_all;omega)|skip
@[simp] def akW(t:Int):ev LI TT 116 [.int .i64 t]=some (.bool ((decide (0<=t/\t<=1000000))),[.dead]):=by rw[aq (b:=FP) (rs:=[.t 2]) (n:=1) rfl rfl];simp -implicitDefEqProofs [FP];all_goals (repeat' split)<;>first|rfl|omega|(simp_all;done)|(simp_all;omega)|skip
def Xb(n:Int):ev LI TT 61 [.int .i64 n]=some (.str ⟨(en n).toArray⟩,[.dead]):=by
 rw[aq (b:=Bh) (rs:=[.t 2]) (n:=1) rfl rfl];unfold en;by_cases hn:0<=n/\n<=1000000;rotate_left
 ·have hf:(decide (0<=n) && decide (n<=1000000))=false:=by simp;omega
  simp -implicitDefEqProofs [Bh,hn,hf]
 obtain⟨k,rfl⟩:∃k:Nat,n=k:=⟨n.toNat,by omega⟩;have u1:=Ei k (by omega);try simp at u1
 simp -implicitDefEqProofs [Bh,u1,hn];all_goals (repeat' split)<;>first|rfl|omega|(simp_all;done)|(simp_all;omega)|skip
end M
namespace M
open Go
variable [Lb]
def Vs(s:ag)(hb:s.length<=1073741824):aJ (ak (ev LI TT) (au TT) uP) [(0,.str ⟨s.toArray⟩),(3,.row .own 1 (([]).map eU)),(4,.int .i64 0)]=some (.exit 0,[(0,.str ⟨s.toArray⟩),(3,.row .own 1 ((((s).flatMap (λb=>[nD b]))).map eU)),(4,.int .i64 (s).length),(10,.bool false)]):=by
 refine qw (f:=ak (ev LI TT) (au TT) uP) (s) (λb=>[nD b]) (λi out=>[(0,.str ⟨s.toArray⟩),(3,.row .own 1 ((out).map eU)),(4,.int .i64 i)]) (λout=>[(0,.str ⟨s.toArray⟩),(3,.row .own 1 ((out).map eU)),(4,.int .i64 (s).length),(10,.bool false)]) (λi b out hi hl hout=>?_) (λout hout=>?_)
 ·have hw:=bx i (by first|omega|(simp at hl;omega));obtain⟨_,rfl⟩:=aN.1 hi;have hlo:out.length=i:=by rw[hout];exact Ap _ _ _ (by omega)
  have hx:=s[i].toNat_lt;unfold nD;by_cases h1:65<=(s[i]).toNat;rotate_left
  ·have h1':¬(65:Int)<=(s[i]).toNat:=by omega
   simp -implicitDefEqProofs [uP,Co,hl,hw,h1,h1',hlo,cD];omega
  by_cases h2:(s[i]).toNat<=90;rotate_left
  ·have h1':(65:Int)<=(s[i]).toNat:=by omega
   have nj:¬((s[i]).toNat:Int)<=90:=by omega
   have Kb:90<((s[i]).toNat:Int):=by omega
   simp -implicitDefEqProofs [uP,Co,hl,hw,h1,h1',h2,nj,Kb,hlo,cD];omega
  have h1':(65:Int)<=(s[i]).toNat:=by omega
  have nj:((s[i]).toNat:Int)<=90:=by omega
  have h3:=Sj s[i] ⟨h1,h2⟩;have h4:IntKind.u8.wrap ((s[i]).toNat+32)=(s[i]).toNat+32:=Uq (by omega) (by omega);simp -implicitDefEqProofs [uP,Co,hl,hw,h1,h1',h2,nj,hlo,cD,h3,h4];omega
 ·simp -implicitDefEqProofs [uP,Co]
def O0(s:ag)(hb:s.length<=1073741824):ev LI TT 169 [.str ⟨s.toArray⟩]=some (.str ⟨(cC s).toArray⟩,[.dead]):=by
 rw[aq (b:=GF) (rs:=[.t 2]) (n:=1) rfl rfl];have hl:(cC s).length=s.length:=by simp[cC]
 have e:s.flatMap (λb=>[nD b])=cC s:=Ao nD s;have u1:=Vs s hb;try simp at u1
 simp -implicitDefEqProofs [GF,u1,e,hl,rowAt,(by omega:s.length<=9223372036854775807)];all_goals (repeat' split)<;>first|rfl|omega|(simp_all;done)|(simp_all;omega)|skip
def agD(s:ag)(i:Nat)(h:i<s.length)(x:UInt8)(hx:x=nD s[i]):(cC (s.take i)++s.drop i).set i x=cC (s.take (i+1))++s.drop (i+1):=by
 subst hx;rw[Iz _ _ (by simp[cC];omega),rj h];have:i - (cC (s.take i)).length=0:=by simp[cC];omega
 rw[this,qZ h];simp only[aQ,cC,iK,bg,gQ,mS,e9,jz]
def TE(s:ag)(i:Nat)(h:i<s.length)(hx:nD s[i]=s[i]):cC (s.take i)++s.drop i=cC (s.take (i+1))++s.drop (i+1):=by rw[qZ h,rj h];simp only[cC,hx,iK,bg,gQ,mS,e9,jz]
def YJ(l:ag)(i:Nat)(x:Int)(b:UInt8)(hx:x=(b.toNat:Int)):(l.map eU).modify i (λe=>e.set 0 (X.int .u8 x))=(l.set i b).map eU:=by
 subst hx;apply iw;intro j;rw[vJ,de,de,vK];by_cases h:i=j
 ·subst h;by_cases h2:i<l.length;·simp[h2]
  ·simp[h2,lf (Nat.le_of_not_lt h2)]
 ·simp only[h,eL];cases l[j]?<;>rfl
def U6(s:ag)(hb:s.length<=1073741824):aJ (ak (ev LI TT) (au TT) uw) [(3,.row .own 1 ((cC (s.take 0)++s.drop 0).map eU)),(6,.str ⟨s.toArray⟩),(8,.ref 3 []),(9,.int .i64 s.length),(10,.int .i64 0)]=some (.exit 0,[(3,.row .own 1 ((cC s).map eU)),(6,.str ⟨s.toArray⟩),(8,.ref 3 []),(9,.int .i64 s.length),(10,.int .i64 (s).length),(11,.bool false)]):=by
 refine Sg (f:=ak (ev LI TT) (au TT) uw) (s) (λi=>[(3,.row .own 1 ((cC (s.take i)++s.drop i).map eU)),(6,.str ⟨s.toArray⟩),(8,.ref 3 []),(9,.int .i64 s.length),(10,.int .i64 i)]) _ (λi b hi hl=>?_) ?_
 ·have hw:=bx i (by first|omega|(simp at hl;omega));obtain⟨_,rfl⟩:=aN.1 hi;have hk:(cC (s.take i)++s.drop i).length=s.length:=by simp[cC];omega
  have hx:=s[i].toNat_lt;have hg:(cC (s.take i)++s.drop i)[i]?=some s[i]:=by rw[jb (by simp[cC];omega)];simp[cC,n7 (Nat.le_of_lt hl)]
  have hg':∀h,(cC (s.take i)++s.drop i)[i]'h=s[i]:=λh=>by rw[cj h] at hg;exact iJ hg
  generalize hq:cC (s.take i)++s.drop i=q at hk hg hg'⊢;have si:i<q.length:=by omega
  by_cases h1:65<=(s[i]).toNat;rotate_left
  ·have h1':¬(65:Int)<=(s[i]).toNat:=by omega
   have e:=TE s i hl (by unfold nD;rw[aC (by omega)]);rw[hq] at e;simp -implicitDefEqProofs [uw,Bg,hl,hw,hg,hg',si,h1',<-e]
  by_cases h2:(s[i]).toNat<=90;rotate_left
  ·have h1':(65:Int)<=(s[i]).toNat:=by omega
   have Kb:90<((s[i]).toNat:Int):=by omega
   have nj:¬((s[i]).toNat:Int)<=90:=by omega
   have e:=TE s i hl (by unfold nD;rw[aC (by omega)]);rw[hq] at e;simp -implicitDefEqProofs [uw,Bg,hl,hw,hg,hg',si,h1',nj,Kb,<-e]
  have h1':(65:Int)<=(s[i]).toNat:=by omega
  have nj:((s[i]).toNat:Int)<=90:=by omega
  have h3:=Sj s[i] ⟨h1,h2⟩;have h4:IntKind.u8.wrap ((s[i]).toNat+32)=(s[i]).toNat+32:=Uq (by omega) (by omega);have e:=agD s i hl (s[i]+32) (by unfold nD;rw[aA ⟨h1,h2⟩]);rw[hq] at e;have e2:=YJ q i _ (s[i]+32) (show ((s[i]).toNat:Int)+32=_ by rw[h3];rfl);rw[e] at e2;simp -implicitDefEqProofs [uw,Bg,hl,hw,hg,hg',si,h1',nj,h4,e2];all_goals (repeat' split)<;>first|rfl|omega|(simp_all;done)|(simp_all;omega)|skip
 ·simp only[vF,List.drop_length,oa];simp -implicitDefEqProofs [uw,Bg]
def ON(s:ag)(hb:s.length<=1073741824):ev LI TT 191 [.str ⟨s.toArray⟩]=some (.str ⟨(cC s).toArray⟩,[.dead]):=by
 rw[aq (b:=Fv) (rs:=[.t 2]) (n:=1) rfl rfl];have hl:(cC s).length=s.length:=by simp[cC]
 have e0:cC (s.take 0)++s.drop 0=s:=by simp[cC]
 have u1:=U6 s hb;try simp at u1
 simp -implicitDefEqProofs [Fv,u1,hl,rowAt,(by omega:s.length<=9223372036854775807)];all_goals (repeat' split)<;>first|rfl|omega|(simp_all;done)|(simp_all;omega)|skip
@[simp] def ak1(x:Int)(y:Int):ev LI TT 227 [.int .i64 x,.int .i64 y]=some (.int .i64 ((if x<y then x else y)),[.dead,.dead]):=by rw[aq (b:=Hx) (rs:=[.t 4]) (n:=2) rfl rfl];simp -implicitDefEqProofs [Hx];all_goals (repeat' split)<;>first|rfl|omega|(simp_all;done)|(simp_all;omega)|skip
@[simp] def ak0(x:Int)(y:Int):ev LI TT 135 [.int .i64 x,.int .i64 y]=some (.int .i64 ((if y<x then x else y)),[.dead,.dead]):=by rw[aq (b:=Hw) (rs:=[.t 4]) (n:=2) rfl rfl];simp -implicitDefEqProofs [Hw];all_goals (repeat' split)<;>first|rfl|omega|(simp_all;done)|(simp_all;omega)|skip
@[simp] def akX(n:Int):ev LI TT 175 [.int .i64 n]=some (.int .i64 ((max 0 (min n 1000000))),[.dead]):=by rw[aq (b:=FT) (rs:=[.t 2]) (n:=1) rfl rfl];simp -implicitDefEqProofs [FT];(repeat' split)<;>omega
end M
namespace M
open Go
variable [Lb]
def Vv(n:Nat)(out:ag)(hn:out.length+n<=9223372036854775807):aJ (ak (ev LI TT) (au TT) Mk) [(0,.int .i64 n),(3,.str ⟨out.toArray⟩)]=some (.exit 0,[(0,.int .i64 0),(3,.str ⟨(qy n out).toArray⟩),(10,.bool false)]):=by
 have hs:∀s,ak (ev LI TT) (au TT) Mk s=ak (ev LI TT) (au TT) GH s:=λ_=>rfl;induction n using Nat.strongRecOn generalizing out with
 |ind n ih=>
  rw[dS,hs];unfold qy;by_cases h:n=0;·subst h;simp -implicitDefEqProofs [GH]
  ·have hp:0<n:=by omega
   have:=ih (n / 10) (by omega) (UInt8.ofNat (48+n%10)::out) (by rw[cO];omega);have e1:((n:Int)).tmod 10=((n%10:Nat):Int):=by rw[DJ (by omega)];omega
   have e4:((n:Int)).tdiv 10=((n / 10:Nat):Int):=by rw[UK (by omega)];omega
   have e2:IntKind.i64.wrap (48+((n%10:Nat):Int))=((48+n%10:Nat):Int):=by rw[cy (by omega) (by omega)];omega
   have e3:IntKind.u8.wrap ((48+n%10:Nat):Int)=((48+n%10:Nat):Int):=Nu (by omega) (by omega);have e5:=Uc (48+n%10) (by omega);have e6:IntKind.i64.wrap ((n / 10:Nat):Int)=((n / 10:Nat):Int):=cy (by omega) (by omega);simp only[h,dite_false];rw[<-this];simp -implicitDefEqProofs [GH,hp,cJ,e1,e2,e3,e4,e5,e6,-Int.natCast_emod,-Int.natCast_ediv,-Int.natCast_add,-UInt8.ofNat_add,jS,(by omega:1+out.length<=9223372036854775807)]
def rH(n:Int):ev LI TT 66 [.int .i64 n]=some (.str ⟨(en n).toArray⟩,[.dead]):=by
 rw[aq (b:=xS) (rs:=[.t 2]) (n:=1) rfl rfl];unfold en;by_cases hn:0<=n/\n<=1000000;rotate_left
 ·have hf:(decide (0<=n) && decide (n<=1000000))=false:=by simp;omega
  simp -implicitDefEqProofs [xS,hn,hf]
 obtain⟨k,rfl⟩:∃k:Nat,n=k:=⟨n.toNat,by omega⟩;by_cases h:k=0;·subst h;simp -implicitDefEqProofs [xS,Et]
 have h1:=Vv k [] (by simp;omega);rw[Sn k [] h,oa] at h1;simp -implicitDefEqProofs [xS,hn,h,h1];all_goals (repeat' split)<;>first|rfl|omega|(simp_all;done)|(simp_all;omega)|skip
def uJ(n:Int):(en n).length<=7:=by
 unfold en;split;·exact ow _ (by omega)
 ·simp
def Vt(s:ag)(hb:s.length<=7)(hd:bu iC s=true)(g:Nat)(hinv:g<10^0):aJ (ak (ev LI TT) (au TT) nQ) [(0,.str ⟨s.toArray⟩),(4,.int .i64 (g:Nat)),(5,.int .i64 0)]=some (.exit 0,[(0,.str ⟨s.toArray⟩),(4,.int .i64 ((foldI (λ_ g b=>10*g+b.toNat - 48) 0 (s) g):Nat)),(5,.int .i64 (s).length),(16,.bool false)]):=by
 refine kT (f:=ak (ev LI TT) (au TT) nQ) (s) (λi (g:Nat)=>[(0,.str ⟨s.toArray⟩),(4,.int .i64 (g:Nat)),(5,.int .i64 i)]) (λ_ g b=>10*g+b.toNat - 48) (λg=>[(0,.str ⟨s.toArray⟩),(4,.int .i64 (g:Nat)),(5,.int .i64 (s).length),(16,.bool false)]) (λi (g:Nat)=>g<10^i) g hinv (λi b g hi hl hinv=>?_) (λi b g hi hinv=>?_) (λg hinv=>?_)
 ·have hw:=bx i (by first|omega|(simp at hl;omega));obtain⟨_,rfl⟩:=aN.1 hi;have hx:=ff.1 hd s[i] (cN hl);simp only[iC,aZ] at hx;have hp:10^i<=10^6:=UJ (by omega) (by omega);have h1:¬((s[i]).toNat:Int)<48:=by omega
  have h2:¬57<((s[i]).toNat:Int):=by omega
  have e1:IntKind.i64.wrap (10*(g:Int))=10*g:=cy (by omega) (by omega);have e0:IntKind.i64.wrap ((s[i]).toNat:Int)=(s[i]).toNat:=cy (by omega) (by omega);have e2:IntKind.i64.wrap (10*(g:Int)+(s[i]).toNat)=10*g+(s[i]).toNat:=cy (by omega) (by omega);have e3:IntKind.i64.wrap (10*(g:Int)+(s[i]).toNat - 48)=((10*g+(s[i]).toNat - 48:Nat):Int):=by rw[cy (by omega) (by omega)];omega
  simp -implicitDefEqProofs [nQ,uY,hl,hw,h1,h2,e0,e1,e2,e3]
 ·obtain⟨hl,rfl⟩:=aN.1 hi;have hx:=ff.1 hd s[i] (cN hl);simp only[iC,aZ] at hx;rw[IC];omega
 ·simp -implicitDefEqProofs [nQ,uY]
def Vu(s:ag)(hb:s.length<=7)(hd:¬bu iC s=true):aJ (ak (ev LI TT) (au TT) nQ) [(0,.str ⟨s.toArray⟩),(4,.int .i64 0),(5,.int .i64 0)]=some (.ret,[(2,.int .i64 0),(3,.bool false)]):=by
 have key:=Lr (xt:=0) (f:=ak (ev LI TT) (au TT) nQ) s (λi (g:Nat)=>[(0,.str ⟨s.toArray⟩),(4,.int .i64 (g:Int)),(5,.int .i64 i)]) (λb g=>if iC b=true then .inl (10*g+b.toNat - 48) else .inr (.ret,[(2,.int .i64 0),(3,.bool false)])) (λg=>[(0,.str ⟨s.toArray⟩),(4,.int .i64 (g:Int)),(5,.int .i64 s.length),(16,.bool false)]) (λi g=>g<10^i) 0 (by decide) (λi b g hi hl hinv=>?_) (λi b g g' hi hinv hg=>?_) (λg hg=>?_)
 ·have hr:∀(r:ag) (g:Nat),¬bu iC r=true->oV (λ(b:UInt8) (g:Nat)=>if iC b=true then (.inl (10*g+b.toNat - 48):Nat ⊕ (Ex×ah)) else .inr (.ret,[(2,.int .i64 0),(3,.bool false)])) r g=.inr (.ret,[(2,.int .i64 0),(3,.bool false)]):=by
   intro r;induction r with
   |nil=>intro g h;exact absurd rfl h
   |cons b r ih=>
    intro g h;simp only[oV];by_cases hb:iC b=true;·simp only[hb,dB];exact ih _ λh'=>h (by rw[ff] at h'⊢;intro x hx;rcases ct.1 hx with rfl|hx;exact hb;exact h' x hx)
    ·simp[hb]
  rw[hr s 0 hd] at key;simpa [lv] using key
 ·have hw:=bx i (by omega);obtain⟨_,rfl⟩:=aN.1 hi;by_cases h:iC s[i]=true
  ·have hx:=h;simp only[iC,aZ] at hx;have hp:10^i<=10^6:=UJ (by omega) (by omega);have h1:¬((s[i]).toNat:Int)<48:=by omega
   have h2:¬57<((s[i]).toNat:Int):=by omega
   have e1:IntKind.i64.wrap (10*(g:Int))=10*g:=cy (by omega) (by omega);have e0:IntKind.i64.wrap ((s[i]).toNat:Int)=(s[i]).toNat:=cy (by omega) (by omega);have e2:IntKind.i64.wrap (10*(g:Int)+(s[i]).toNat)=10*g+(s[i]).toNat:=cy (by omega) (by omega);have e3:IntKind.i64.wrap (10*(g:Int)+(s[i]).toNat - 48)=((10*g+(s[i]).toNat - 48:Nat):Int):=by rw[cy (by omega) (by omega)];omega
   simp -implicitDefEqProofs [nQ,uY,hl,hw,h,h1,h2,e0,e1,e2,e3]
  ·have hx:=h;simp only[iC,aZ] at hx;by_cases h1:((s[i]).toNat:Int)<48;·simp -implicitDefEqProofs [nQ,uY,hl,hw,h,h1,lv]
   ·have h2:57<((s[i]).toNat:Int):=by omega
    simp -implicitDefEqProofs [nQ,uY,hl,hw,h,h1,h2,lv]
 ·obtain⟨hl,rfl⟩:=aN.1 hi;split at hg
  ·rename_i hx;simp only[iC,aZ] at hx;injection hg with hg
   rw[IC];omega
  ·cases hg
 ·simp -implicitDefEqProofs [nQ,uY]
def J0{β γ:Type}(go:γ->β->γ):∀(l:List β) (i:Nat) (g:γ),foldI (λ_ g b=>go g b) i l g=l.foldl go g
 |[],_,_=>rfl
 |b::l,i,g=>by rw[foldI,J0 go l,pJ]
def tT(s:ag)(hb:s.length<=9223372036854775807):ev LI TT 162 [.str ⟨s.toArray⟩]=some (.aj [.int .i64 ((((bT s).getD 0:Nat):Int)),.bool ((bT s).isSome)],[.dead]):=by
 rw[aq (b:=sV) (rs:=[.t 2,.t 3]) (n:=1) rfl rfl];by_cases h7:7<s.length
 ·have AA:7<(s.length:Int):=by omega
  have hn:¬s=[]:=by rintro rfl;simp at h7
  simp -implicitDefEqProofs [sV,SE s h7,AA,hn]
 have AA:¬7<(s.length:Int):=by omega
 rw[aeI s (by omega)];by_cases h0:s=[];·subst h0;simp -implicitDefEqProofs [sV]
 by_cases hd:bu iC s=true;rotate_left;·have u1:=Vu s (by omega) hd;simp -implicitDefEqProofs [sV,AA,h0,hd,u1]
 have u1:=Vt s (by omega) hd 0 (by decide);rw[show foldI (λ_ (g:Nat) (b:UInt8)=>10*g+b.toNat - 48) 0 s 0=k8 s from J0 _ s 0 0] at u1;simp only[Int.ofNat_zero] at u1;have u2:=rH (k8 s);by_cases ht:en (k8 s)=s;rotate_left;·simp -implicitDefEqProofs [sV,AA,h0,hd,u1,u2,eq_false ht]
 simp -implicitDefEqProofs [sV,AA,h0,hd,u1,u2,eq_true ht];all_goals (repeat' split)<;>first|rfl|omega|(simp_all;done)|(simp_all;omega)|skip
end M
namespace M
open Go
variable [Lb]
def jR(w:ag):List ag:=if gA w≠[] then [gA w] else []
def SP(s:ag)(i:Nat)(h:i<(s.map some++[none]).length):(∃hi:i<s.length,(s.map some++[none])[i]=some s[i])\/(i=s.length/\(s.map some++[none])[i]=none):=by
 by_cases hi:i<s.length;·refine .inl ⟨hi,?_⟩;rw[List.getElem_append_left (by simpa using hi)];simp
 ·simp at h;obtain rfl:i=s.length:=by omega
  refine .inr ⟨rfl,?_⟩;rw[List.getElem_append_right (by simp)];simp
def TJ(w:ag):(jR w).length<=1:=by unfold jR;split<;>simp
def QT(c:UInt8)(f:ag->List ag)(hf:∀w,(f w).length<=1)(s:ag)(i:Nat)(g:List ag×Nat)(b:Option UInt8)(h:g.2<=i/\g.1.length<=i):(gj c f s i g b).2<=i+1/\(gj c f s i g b).1.length<=i+1:=by
 unfold gj;have:=hf ((s.take i).drop g.2);split
 ·split;·simp;omega
  ·omega
 ·simp;omega
def VB(s:ag)(hb:s.length<=1073741824)(g:List ag×Nat)(hinv:g.2<=0/\g.1.length<=0):aJ (ak (ev LI TT) (au TT) qQ) [(0,.str ⟨s.toArray⟩),(3,.row .own 1 ((g).1.map eS)),(4,.int .i64 ((g).2:Nat)),(5,.int .i64 0)]=some (.exit 0,[(0,.str ⟨s.toArray⟩),(3,.row .own 1 (((foldI (gj 44 jR s) 0 (s.map some++[none]) g)).1.map eS)),(4,.int .i64 (((foldI (gj 44 jR s) 0 (s.map some++[none]) g)).2:Nat)),(5,.int .i64 (s.map some++[none]).length),(11,.bool false)]):=by
 refine kT (f:=ak (ev LI TT) (au TT) qQ) (s.map some++[none]) (λi (g:List ag×Nat)=>[(0,.str ⟨s.toArray⟩),(3,.row .own 1 ((g).1.map eS)),(4,.int .i64 ((g).2:Nat)),(5,.int .i64 i)]) (gj 44 jR s) (λg=>[(0,.str ⟨s.toArray⟩),(3,.row .own 1 ((g).1.map eS)),(4,.int .i64 ((g).2:Nat)),(5,.int .i64 (s.map some++[none]).length),(11,.bool false)]) (λi (g:List ag×Nat)=>g.2<=i/\g.1.length<=i) g hinv (λi b g hi hl hinv=>?_) (λi b g hi hinv=>?_) (λg hinv=>?_)
 ·have hw:=bx i (by first|omega|(simp at hl;omega));obtain⟨_,rfl⟩:=aN.1 hi;have hlz:(g.1.length+1)*16<=140737488355328:=by simp at hl;omega
  have Az:∀b:UInt8,((b.toNat:Int)=44)↔b=44:=λb=>⟨λh=>tB.1 (by have e:(44:UInt8).toNat=44:=rfl;omega),λh=>by subst h;rfl⟩;rcases SP s i hl with ⟨hi',e⟩|⟨rfl,e⟩
  ·rw[e];have k1:(i:Int)<=s.length:=by omega
   have k2:i<=s.length:=by omega
   have hc:=Jq ((s.drop g.2).take (i - g.2)) (by simp;omega);by_cases hx:s[i]=44;rotate_left;·have hx':=mt (Az s[i]).1 hx;simp -implicitDefEqProofs [qQ,va,k1,k2,hi',hw,gj,hx,hx']
   have hx':=(Az s[i]).2 hx;have e3:(s.take i).drop g.2=(s.drop g.2).take (i - g.2):=zk ..;by_cases ht:gA ((s.drop g.2).take (i - g.2))=[];·simp -implicitDefEqProofs [qQ,va,k1,k2,hi',hw,gj,eq_true hx,hx',hinv,hc,Lib.extract_mk,jR,e3,eq_true ht]
   ·simp -implicitDefEqProofs [qQ,va,k1,k2,hi',hw,gj,eq_true hx,hx',hinv,hc,Lib.extract_mk,jR,e3,eq_false ht,cD,hlz]
  rw[e];have hc:=Jq ((s.drop g.2).take (s.length - g.2)) (by simp;omega);have e3:(s.take s.length).drop g.2=(s.drop g.2).take (s.length - g.2):=zk ..;by_cases ht:gA ((s.drop g.2).take (s.length - g.2))=[];·simp only[gj,e3,jR,eq_true ht];simp -implicitDefEqProofs [qQ,va,hw,hinv,hc,Lib.extract_mk,eq_true ht]
  simp only[gj,e3,jR,eq_false ht];simp -implicitDefEqProofs [qQ,va,hl,hw,hinv,hc,Lib.extract_mk,eq_false ht,cD,hlz]
 ·exact QT 44 jR TJ s i g b hinv
 ·have Ks:¬((s.length:Int)+1<=s.length):=by omega
  simp -implicitDefEqProofs [qQ,va,Ks]
def O6(s:ag)(hb:s.length<=1073741824):ev LI TT 168 [.str ⟨s.toArray⟩]=some (.row .own 1 ((iI s).map eS),[.dead]):=by rw[aq (b:=GM) (rs:=[.t 2]) (n:=1) rfl rfl];have u1:=VB s hb ([],0) ⟨by omega,by simp⟩;rw[QA,show (cw 44 s).flatMap jR=iI s from (Un s).symm] at u1;simp at u1;simp -implicitDefEqProofs [GM,u1];all_goals (repeat' split)<;>first|rfl|omega|(simp_all;done)|(simp_all;omega)|skip
def Va(s:ag)(ws:List ag)(hb:∀w∈ws,w.length<=1073741824)(hl0:ws.length<=1073741825):aJ (ak (ev LI TT) (au TT) wY) [(3,.row .own 1 (([]).map eS)),(8,.row .own 1 (ws.map eS)),(9,.int .i64 ws.length),(10,.int .i64 0)]=some (.exit 0,[(3,.row .own 1 ((((ws).flatMap jR)).map eS)),(8,.row .own 1 (ws.map eS)),(9,.int .i64 ws.length),(10,.int .i64 (ws).length),(11,.bool false)]):=by
 refine qw (f:=ak (ev LI TT) (au TT) wY) (ws) jR (λi out=>[(3,.row .own 1 ((out).map eS)),(8,.row .own 1 (ws.map eS)),(9,.int .i64 ws.length),(10,.int .i64 i)]) (λout=>[(3,.row .own 1 ((out).map eS)),(8,.row .own 1 (ws.map eS)),(9,.int .i64 ws.length),(10,.int .i64 (ws).length),(11,.bool false)]) (λi b out hi hl hout=>?_) (λout hout=>?_)
 ·have hw:=bx i (by first|omega|(simp at hl;omega));obtain⟨_,rfl⟩:=aN.1 hi;have hlo:out.length<=i:=by rw[hout];exact EN jR TJ ws i
  have hlz:(out.length+1)*16<=140737488355328:=by omega
  have hc:=OS ws[i] (by have:=hb _ (cN hl);omega);unfold jR;by_cases ht:gA ws[i]=[];·simp -implicitDefEqProofs [wY,Fz,hl,hw,hc,eq_true ht]
  simp -implicitDefEqProofs [wY,Fz,hl,hw,hc,eq_false ht,cD,hlz]
 ·simp -implicitDefEqProofs [wY,Fz]
def OQ(s:ag)(hb:s.length<=1073741824):ev LI TT 190 [.str ⟨s.toArray⟩]=some (.row .own 1 ((iI s).map eS),[.dead]):=by
 rw[aq (b:=FA) (rs:=[.t 2]) (n:=1) rfl rfl];rw[Un s,show (λw=>if gA w≠[] then [gA w] else [])=jR from rfl];have u1:=Ya s 44 (by omega);try simp at u1
 have u2:=Va s (cw 44 s) (λw hw=>by have:=yI 44 s w hw;omega) (by have:=TL 44 s;omega);try simp at u2
 simp -implicitDefEqProofs [FA,u1,u2];all_goals (repeat' split)<;>first|rfl|omega|(simp_all;done)|(simp_all;omega)|skip
def VX(l:List ag)(hl0:l.length<=1073741824)(hb:∀w∈l,w.length<=1073741824):aJ (ak (ev LI TT) (au TT) Db) [(0,.row .af 1 (l.map eS)),(3,.int .i64 0)]=if bu eE (l)=true then some (.exit 0,[(0,.row .af 1 (l.map eS)),(3,.int .i64 (l).length),(7,.bool false)]) else some (.ret,[(2,.bool false)]):=by
 refine gJ (f:=ak (ev LI TT) (au TT) Db) (l) (λi=>[(0,.row .af 1 (l.map eS)),(3,.int .i64 i)]) eE _ _ (λi b hi hl=>?_) ?_
 ·have hw:=bx i (by first|omega|(simp at hl;omega));obtain⟨_,rfl⟩:=aN.1 hi;have u1:=Jp l[i] (by have:=hb _ (cN hl);omega);try simp at u1
  simp -implicitDefEqProofs [Db,MZ,hl,hw,u1];all_goals (repeat' split)<;>first|rfl|omega|(simp_all;done)|(simp_all;omega)|skip
 ·simp -implicitDefEqProofs [Db,MZ]
def Pe(l:List ag)(hl0:l.length<=1073741824)(hb:∀w∈l,w.length<=1073741824):ev LI TT 85 [.row .af 1 (l.map eS)]=some (.bool ((bu eE l && decide ((l.length:Int)<=4))),[.dead]):=by
 rw[aq (b:=HK) (rs:=[.t 2]) (n:=1) rfl rfl];have u1:=VX l hl0 hb;try simp at u1
 simp -implicitDefEqProofs [HK,u1];all_goals (repeat' split)<;>first|rfl|omega|(simp_all;done)|(simp_all;omega)|skip
def Vf(l:List ag)(hl0:l.length<=1073741824)(hb:∀w∈l,w.length<=1073741824):aJ (ak (ev LI TT) (au TT) Bt) [(0,.row .af 1 (l.map eS)),(5,.row .af 1 (l.map eS)),(6,.int .i64 l.length),(7,.int .i64 0)]=if bu eE (l)=true then some (.exit 0,[(0,.row .af 1 (l.map eS)),(5,.row .af 1 (l.map eS)),(6,.int .i64 l.length),(7,.int .i64 (l).length),(8,.bool false)]) else some (.ret,[(2,.bool false)]):=by
 refine gJ (f:=ak (ev LI TT) (au TT) Bt) (l) (λi=>[(0,.row .af 1 (l.map eS)),(5,.row .af 1 (l.map eS)),(6,.int .i64 l.length),(7,.int .i64 i)]) eE _ _ (λi b hi hl=>?_) ?_
 ·have hw:=bx i (by first|omega|(simp at hl;omega));obtain⟨_,rfl⟩:=aN.1 hi;have u1:=Ji l[i] (by have:=hb _ (cN hl);omega);try simp at u1
  simp -implicitDefEqProofs [Bt,K5,hl,hw,u1];all_goals (repeat' split)<;>first|rfl|omega|(simp_all;done)|(simp_all;omega)|skip
 ·simp -implicitDefEqProofs [Bt,K5]
def Xs(l:List ag)(hl0:l.length<=1073741824)(hb:∀w∈l,w.length<=1073741824):ev LI TT 117 [.row .af 1 (l.map eS)]=some (.bool ((bu eE l && decide ((l.length:Int)<=4))),[.dead]):=by
 rw[aq (b:=FR) (rs:=[.t 2]) (n:=1) rfl rfl];have u1:=Vf l hl0 hb;try simp at u1
 simp -implicitDefEqProofs [FR,u1];all_goals (repeat' split)<;>first|rfl|omega|(simp_all;done)|(simp_all;omega)|skip
end M
namespace M
open Go
variable [Lb]
def kZ(g:Nat×Nat)(b:UInt8):Nat×Nat:=((g.1+b.toNat)%65521,(g.2+(g.1+b.toNat)%65521)%65521)
def M6(g:Nat×Nat)(b:UInt8):(kZ g b).1<65521/\(kZ g b).2<65521:=⟨tA _ (by decide),tA _ (by decide)⟩
def agZ(g:Nat×Nat)(b:UInt8)(h:g.1<65521/\g.2<65521):(IntKind.i64.wrap (↑g.1+IntKind.i64.wrap ↑b.toNat)).tmod 65521=↑(kZ g b).1/\
  (IntKind.i64.wrap (↑g.2+(IntKind.i64.wrap (↑g.1+IntKind.i64.wrap ↑b.toNat)).tmod 65521)).tmod 65521=↑(kZ g b).2:=by
 have hb:=b.toNat_lt;have e1:IntKind.i64.wrap (↑g.1+IntKind.i64.wrap ↑b.toNat)=((g.1+b.toNat:Nat):Int):=by rw[cy (n:=(b.toNat:Int)) (by omega) (by omega),cy (by omega) (by omega)];omega
 have e2:(((g.1+b.toNat:Nat):Int)).tmod 65521=↑(kZ g b).1:=by rw[DJ (by omega)];unfold kZ;omega
 have h1:=(M6 g b).1;have e3:IntKind.i64.wrap (↑g.2+(↑(kZ g b).1:Int))=((g.2+(kZ g b).1:Nat):Int):=by rw[cy (by omega) (by omega)];omega
 rw[e1,e2,e3];refine⟨rfl,?_⟩;rw[DJ (by omega)];unfold kZ;omega
def nV(s:ag):Nat×Nat:=foldI (λ_ g b=>kZ g b) 0 s (1,0)
def Qx{γ β:Type}{go:Nat->γ->β->γ}{I:γ->Prop}(h:∀i g b,I g->I (go i g b)):∀(l:List β) (i:Nat) (g:γ),I g->I (foldI go i l g)
 |[],_,_,hg=>hg
 |b::l,i,g,hg=>Qx h l (i+1) _ (h i g b hg)
def TR(s:ag):(nV s).1<65521/\(nV s).2<65521:=Qx (I:=λg=>g.1<65521/\g.2<65521) (λ_ g b _=>M6 g b) s 0 _ (by simp)
def tj(s:ag):Nat:=65521*(nV s).2+(nV s).1
def M5(s:ag):tj s<10^10:=by have:=TR s;unfold tj;omega
def VC(s:ag)(hb:s.length<=9223372036854775807)(g:Nat×Nat)(hinv:g.1<65521/\g.2<65521):aJ (ak (ev LI TT) (au TT) CC) [(0,.str ⟨s.toArray⟩),(3,.int .i64 (g).1),(4,.int .i64 (g).2),(5,.int .i64 0)]=some (.exit 0,[(0,.str ⟨s.toArray⟩),(3,.int .i64 ((foldI (λ_ g b=>kZ g b) 0 (s) g)).1),(4,.int .i64 ((foldI (λ_ g b=>kZ g b) 0 (s) g)).2),(5,.int .i64 (s).length),(9,.bool false)]):=by
 refine kT (f:=ak (ev LI TT) (au TT) CC) (s) (λi (g:Nat×Nat)=>[(0,.str ⟨s.toArray⟩),(3,.int .i64 (g).1),(4,.int .i64 (g).2),(5,.int .i64 i)]) (λ_ g b=>kZ g b) (λg=>[(0,.str ⟨s.toArray⟩),(3,.int .i64 (g).1),(4,.int .i64 (g).2),(5,.int .i64 (s).length),(9,.bool false)]) (λi (g:Nat×Nat)=>g.1<65521/\g.2<65521) g hinv (λi b g hi hl hinv=>?_) (λi b g hi hinv=>?_) (λg hinv=>?_);·have hw:=bx i (by first|omega|(simp at hl;omega));obtain⟨_,rfl⟩:=aN.1 hi;skip;simp -implicitDefEqProofs [CC,Mp,hl,hw];exact agZ g s[i] hinv
 ·exact M6 _ _
 ·simp -implicitDefEqProofs [CC,Mp]
def XQ(s:ag)(hb:s.length<=9223372036854775807):ev LI TT 197 [.str ⟨s.toArray⟩]=some (.int .i64 (tj s),[.dead]):=by rw[aq (b:=GO) (rs:=[.t 2]) (n:=1) rfl rfl];have h:=VC s hb (1,0) (by simp);have h2:=TR s;have e1:IntKind.i64.wrap (65521*((nV s).2:Int))=65521*(nV s).2:=cy (by omega) (by omega);have e2:IntKind.i64.wrap (65521*((nV s).2:Int)+(nV s).1)=65521*(nV s).2+(nV s).1:=cy (by omega) (by omega);rw[show foldI (λ_ g b=>kZ g b) 0 s (1,0)=nV s from rfl] at h;simp at h;simp -implicitDefEqProofs [GO,h,e1,e2,tj];all_goals (repeat' split)<;>first|rfl|omega|(simp_all;done)|(simp_all;omega)|skip
def UY(n:Nat)(out:ag)(hn:out.length+n<=9223372036854775807):aJ (ak (ev LI TT) (au TT) MC) [(0,.int .i64 n),(3,.str ⟨out.toArray⟩)]=some (.exit 0,[(0,.int .i64 0),(3,.str ⟨(qy n out).toArray⟩),(7,.bool false)]):=by
 have hs:∀s,ak (ev LI TT) (au TT) MC s=ak (ev LI TT) (au TT) G6 s:=λ_=>rfl;induction n using Nat.strongRecOn generalizing out with
 |ind n ih=>
  rw[dS,hs];unfold qy;by_cases h:n=0;·subst h;simp -implicitDefEqProofs [G6]
  ·have hp:0<n:=by omega
   have:=ih (n / 10) (by omega) (UInt8.ofNat (48+n%10)::out) (by rw[cO];omega);have e1:((n:Int)).tmod 10=((n%10:Nat):Int):=by rw[DJ (by omega)];omega
   have e4:((n:Int)).tdiv 10=((n / 10:Nat):Int):=by rw[UK (by omega)];omega
   have e2:IntKind.i64.wrap (48+((n%10:Nat):Int))=((48+n%10:Nat):Int):=by rw[cy (by omega) (by omega)];omega
   have e3:IntKind.u8.wrap ((48+n%10:Nat):Int)=((48+n%10:Nat):Int):=Nu (by omega) (by omega);have e5:=Uc (48+n%10) (by omega);have e6:IntKind.i64.wrap ((n / 10:Nat):Int)=((n / 10:Nat):Int):=cy (by omega) (by omega);simp only[h,dite_false];rw[<-this];simp -implicitDefEqProofs [G6,hp,cJ,e1,e2,e3,e4,e5,e6,-Int.natCast_emod,-Int.natCast_ediv,-Int.natCast_add,-UInt8.ofNat_add,jS,(by omega:1+out.length<=9223372036854775807)]
def Js(n:Nat)(hk:n<=9223372036854775800):ev LI TT 196 [.int .i64 (n:Int)]=some (.str ⟨(bq n).toArray⟩,[.dead]):=by
 rw[aq (b:=CN) (rs:=[.t 2]) (n:=1) rfl rfl];by_cases h:n=0;·subst h;simp -implicitDefEqProofs [CN,Et]
 have h1:=UY n [] (by simp;omega);rw[Sn n [] h,oa] at h1;simp -implicitDefEqProofs [CN,h,h1];all_goals (repeat' split)<;>first|rfl|omega|(simp_all;done)|(simp_all;omega)|skip
def LV(n:Nat)(b:ag):ag:=bq (tj (bq n++32::(bq b.length++10::b)))++32::(bq n++32::(bq b.length++10::b))
def fP(n:Int)(b:ag):ag:=if 1<=n/\n<=100000/\b.length<=2000 then LV n.toNat b else []
def Jn(n:Int)(b:ag)(hb:b.length<=9223372036854775807):ev LI TT 123 [.int .i64 n,.str ⟨b.toArray⟩]=some (.str ⟨(fP n b).toArray⟩,[.dead,.dead]):=by
 rw[aq (b:=xU) (rs:=[.t 4]) (n:=2) rfl rfl];by_cases h1:¬(1<=n/\n<=100000)
 ·have h1':¬(1<=n/\n<=100000/\b.length<=2000):=by omega
  simp -implicitDefEqProofs [xU,h1,fP,h1']
 by_cases h2:2000<b.length
 ·have h1':¬(1<=n/\n<=100000/\b.length<=2000):=by omega
  have nj:(2000:Int)<b.length:=by omega
  simp -implicitDefEqProofs [xU,h1,fP,h1',h2,nj]
 obtain⟨m,rfl⟩:∃m:Nat,n=m:=⟨n.toNat,by omega⟩;have l1:=wh 5 m (by omega);have l2:=wh 5 b.length (by omega);have l3:=wh 17 (tj (bq m++32::(bq b.length++10::b))) (Nat.lt_trans (M5 _) (by decide));have k1:=Js m (by omega);have k2:=Js b.length (by omega);have k4:=Js (tj (bq m++32::(bq b.length++10::b))) (by have:=M5 (bq m++32::(bq b.length++10::b));omega);have k3:=XQ (bq m++32::(bq b.length++10::b)) (by simp;omega);have nj:¬(2000<(b.length:Int)):=by omega
 have h3:1<=m/\m<=100000:=by omega
 have h4:b.length<=2000:=by omega
 simp -implicitDefEqProofs [xU,nj,h3,h4,k1,k2,k3,k4,jS,fP,LV];repeat rw[aA (by omega)]
end M
namespace M
open Go
variable [Lb]
def VP(fs:List aE)(n:ag)(hb:fs.length<=9223372036854775807):aJ (ak (ev LI TT) (au TT) CY) [(0,.row .af 2 (fs.map aH)),(1,.str ⟨n.toArray⟩),(5,.int .i64 0)]=(cY (λf=>decide (f.name=n)) 0 (fs)).elim (some (.exit 0,[(0,.row .af 2 (fs.map aH)),(1,.str ⟨n.toArray⟩),(5,.int .i64 (fs).length),(9,.bool false)])) λx=>some (.ret,(λ(i:Nat) b=>[(4,.int .i64 i)]) x.1 x.2):=by
 refine uD (f:=ak (ev LI TT) (au TT) CY) (fs) (λi=>[(0,.row .af 2 (fs.map aH)),(1,.str ⟨n.toArray⟩),(5,.int .i64 i)]) (λf=>decide (f.name=n)) (λ(i:Nat) b=>[(4,.int .i64 i)]) _ (λi b hi hl=>?_) ?_;·have hw:=bx i (by first|omega|(simp at hl;omega));obtain⟨_,rfl⟩:=aN.1 hi;simp -implicitDefEqProofs [CY,MT,hl,hw]
 ·simp -implicitDefEqProofs [CY,MT]
def vU(fs:List aE)(n:ag)(hb:fs.length<=9223372036854775807):ev LI TT 161 [.row .af 2 (fs.map aH),.str ⟨n.toArray⟩]=some (.int .i64 (gd (fB fs n)),[.dead,.dead]):=by
 rw[aq (b:=CZ) (rs:=[.t 4]) (n:=2) rfl rfl];have h:=VP fs n hb;rw[show cY (λf=>decide (f.name=n)) 0 fs=fB fs n from rfl] at h;simp at h;cases g:fB fs n with
 |none=>rw[g] at h;simp at h;simp -implicitDefEqProofs [CZ,h,gd]
 |some x=>
 rw[g] at h;simp at h;simp -implicitDefEqProofs [CZ,h,gd];all_goals (repeat' split)<;>first|rfl|omega|(simp_all;done)|(simp_all;omega)|skip
def zT(fs:List aE)(n:ag)(hb:fs.length<=9223372036854775807):ev LI TT 160 [.row .af 2 (fs.map aH),.str ⟨n.toArray⟩]=some (.aj [.str ⟨((dr fs n).getD []).toArray⟩,.bool (dr fs n).isSome],[.dead,.dead]):=by
 rw[aq (b:=Cm) (rs:=[.t 4,.t 5]) (n:=2) rfl rfl];have h:=vU fs n hb;unfold dr;cases g:fB fs n with
 |none=>rw[g] at h;simp[gd] at h;simp -implicitDefEqProofs [Cm,h]
 |some x=>
 obtain⟨i,b⟩:=x;rw[g] at h;obtain⟨h1,h2,h3⟩:=wE g;simp at h2;simp[gd] at h;have hi:i<fs.length:=(aN.1 h2).1;obtain⟨_,rfl⟩:=aN.1 h2;simp -implicitDefEqProofs [Cm,h,hi];all_goals (repeat' split)<;>first|rfl|omega|(simp_all;done)|(simp_all;omega)|skip
def Xp(f:aE)(n:ag):ev LI TT 172 [.agg (aH f),.ptr .af [.str ⟨n.toArray⟩]]=some (.bool (decide (f.name=n)),[.dead,.dead]):=by rw[aq (b:=FJ) (rs:=[.t 3]) (n:=2) rfl rfl];simp -implicitDefEqProofs [FJ];all_goals (repeat' split)<;>first|rfl|omega|(simp_all;done)|(simp_all;omega)|skip
def VZ(fs:List aE)(n:ag)(hb:fs.length<=9223372036854775807):aJ (ak (ev LI TT) (au TT) Dt) [(0,.row .af 2 (fs.map aH)),(1,.fn 172 [.ptr .af [.str ⟨n.toArray⟩]]),(7,.int .i64 fs.length),(8,.int .i64 0)]=(cY (λf=>decide (f.name=n)) 0 (fs)).elim (some (.exit 0,[(0,.row .af 2 (fs.map aH)),(1,.fn 172 [.ptr .af [.str ⟨n.toArray⟩]]),(7,.int .i64 fs.length),(8,.int .i64 (fs).length),(9,.bool false)])) λx=>some (.ret,(λ(i:Nat) b=>[(4,.int .i64 i)]) x.1 x.2):=by
 refine uD (f:=ak (ev LI TT) (au TT) Dt) (fs) (λi=>[(0,.row .af 2 (fs.map aH)),(1,.fn 172 [.ptr .af [.str ⟨n.toArray⟩]]),(7,.int .i64 fs.length),(8,.int .i64 i)]) (λf=>decide (f.name=n)) (λ(i:Nat) b=>[(4,.int .i64 i)]) _ (λi b hi hl=>?_) ?_;·have hw:=bx i (by first|omega|(simp at hl;omega));obtain⟨_,rfl⟩:=aN.1 hi;have ho:au TT 172=true:=rfl;have hf:=Xp fs[i] n;simp at hf;simp -implicitDefEqProofs [Dt,Nx,hl,hw,ho,FX,hf]
 ·simp -implicitDefEqProofs [Dt,Nx]
def X5(fs:List aE)(n:ag)(hb:fs.length<=9223372036854775807):ev LI TT 171 [.row .af 2 (fs.map aH),.fn 172 [.ptr .af [.str ⟨n.toArray⟩]]]=some (.int .i64 (gd (fB fs n)),[.dead,.dead]):=by
 rw[aq (b:=Du) (rs:=[.t 4]) (n:=2) rfl rfl];have h:=VZ fs n hb;rw[show cY (λf=>decide (f.name=n)) 0 fs=fB fs n from rfl] at h;simp at h;cases g:fB fs n with
 |none=>rw[g] at h;simp at h;simp -implicitDefEqProofs [Du,h,gd]
 |some x=>
 rw[g] at h;simp at h;simp -implicitDefEqProofs [Du,h,gd];all_goals (repeat' split)<;>first|rfl|omega|(simp_all;done)|(simp_all;omega)|skip
def OU(fs:List aE)(n:ag)(hb:fs.length<=9223372036854775807):ev LI TT 89 [.row .af 2 (fs.map aH),.str ⟨n.toArray⟩]=some (.int .i64 (gd (fB fs n)),[.dead,.dead]):=by rw[aq (b:=FK) (rs:=[.t 4]) (n:=2) rfl rfl];have h:=X5 fs n hb;simp -implicitDefEqProofs [FK,h,lV,iT];all_goals (repeat' split)<;>first|rfl|omega|(simp_all;done)|(simp_all;omega)|skip
def zQ(fs:List aE)(n:ag)(hb:fs.length<=9223372036854775807):ev LI TT 19 [.row .af 2 (fs.map aH),.str ⟨n.toArray⟩]=some (.aj [.str ⟨((dr fs n).getD []).toArray⟩,.bool (dr fs n).isSome],[.dead,.dead]):=by
 rw[aq (b:=Be) (rs:=[.t 4,.t 5]) (n:=2) rfl rfl];have h:=OU fs n hb;unfold dr;cases g:fB fs n with
 |none=>rw[g] at h;simp[gd] at h;simp -implicitDefEqProofs [Be,h]
 |some x=>
 obtain⟨i,b⟩:=x;rw[g] at h;obtain⟨h1,h2,h3⟩:=wE g;simp at h2;simp[gd] at h;have hi:i<fs.length:=(aN.1 h2).1;obtain⟨_,rfl⟩:=aN.1 h2;simp -implicitDefEqProofs [Be,h,hi];all_goals (repeat' split)<;>first|rfl|omega|(simp_all;done)|(simp_all;omega)|skip
end M
namespace M
open Go
variable [Lb]
def BP:(⟨#[99,111,110,116,101,110,116,45,108,101,110,103,116,104]⟩:ByteArray)=⟨fD.toArray⟩:=rfl
def Vn(fs:List aE)(hb:wL aF fs<=1073741824):aJ (ak (ev LI TT) (au TT) qM) [(0,.row .af 2 (fs.map aH)),(3,.int .i64 0)]=if bu (jH fs) (fs.zipIdx)=true then some (.exit 0,[(0,.row .af 2 (fs.map aH)),(3,.int .i64 (fs.zipIdx).length),(7,.bool false)]) else some (.ret,[(2,.bool false)]):=by
 refine gJ (f:=ak (ev LI TT) (au TT) qM) (fs.zipIdx) (λi=>[(0,.row .af 2 (fs.map aH)),(3,.int .i64 i)]) (jH fs) _ _ (λi b hi hl=>?_) ?_
 ·have hw:=bx i (by have:=bp (w:=aF) fs;simp at hl;omega);obtain⟨_,rfl⟩:=aN.1 hi;simp only[IV] at hl;have hz:fs.zipIdx[i]'(by simpa using hl)=(fs[i],i):=by simp
  have hm:=Io (cN hl);have hfl:=bp (w:=aF) fs;rw[hz];have u1:=Jp fs[i].name (by omega);try simp at u1
  have u2:=Jr fs[i].value (by omega);try simp at u2
  have u3:=vU fs fs[i].name (by omega);try simp at u3
  by_cases g1:eE fs[i].name=true;rotate_left;·simp -implicitDefEqProofs [qM,uN,hl,hw,u1,u2,u3,jH,g1]
  by_cases g2:fZ fs[i].value=true;rotate_left;·simp -implicitDefEqProofs [qM,uN,hl,hw,u1,u2,u3,jH,g1,g2]
  by_cases g3:gd (fB fs fs[i].name)=i;rotate_left;·simp -implicitDefEqProofs [qM,uN,hl,hw,u1,u2,u3,jH,g1,g2,eq_false g3]
  by_cases hcl:fs[i].name=fD;·simp -implicitDefEqProofs [qM,uN,hl,hw,u1,u2,u3,g1,g2,eq_true g3,jH,BP,eq_true hcl]
  simp -implicitDefEqProofs [qM,uN,hl,hw,u1,u2,u3,jH,g1,g2,eq_true g3,BP,eq_false hcl];all_goals (repeat' split)<;>first|rfl|omega|(simp_all;done)|(simp_all;omega)|skip
 ·simp -implicitDefEqProofs [qM,uN]
def OZ(fs:List aE)(hb:wL aF fs<=1073741824):ev LI TT 158 [.row .af 2 (fs.map aH)]=some (.bool ((jF fs)),[.dead]):=by
 rw[aq (b:=Gx) (rs:=[.t 2]) (n:=1) rfl rfl];unfold jF;have hfl:=bp (w:=aF) fs;have u1:=Vn fs hb;try simp at u1
 simp -implicitDefEqProofs [Gx,u1];all_goals (repeat' split)<;>first|rfl|omega|(simp_all;done)|(simp_all;omega)|skip
def U4(fs:List aE)(hb:wL aF fs<=1073741824):aJ (ak (ev LI TT) (au TT) qk) [(0,.row .af 2 (fs.map aH)),(5,.row .af 2 (fs.map aH)),(6,.int .i64 fs.length),(7,.int .i64 0)]=if bu (jH fs) (fs.zipIdx)=true then some (.exit 0,[(0,.row .af 2 (fs.map aH)),(5,.row .af 2 (fs.map aH)),(6,.int .i64 fs.length),(7,.int .i64 (fs.zipIdx).length),(8,.bool false)]) else some (.ret,[(2,.bool false)]):=by
 refine gJ (f:=ak (ev LI TT) (au TT) qk) (fs.zipIdx) (λi=>[(0,.row .af 2 (fs.map aH)),(5,.row .af 2 (fs.map aH)),(6,.int .i64 fs.length),(7,.int .i64 i)]) (jH fs) _ _ (λi b hi hl=>?_) ?_
 ·have hw:=bx i (by have:=bp (w:=aF) fs;simp at hl;omega);obtain⟨_,rfl⟩:=aN.1 hi;simp only[IV] at hl;have hz:fs.zipIdx[i]'(by simpa using hl)=(fs[i],i):=by simp
  have hm:=Io (cN hl);have hfl:=bp (w:=aF) fs;rw[hz];have u1:=Ji fs[i].name (by omega);try simp at u1
  have u2:=Jj fs[i].value (by omega);try simp at u2
  have u3:=OU fs fs[i].name (by omega);try simp at u3
  by_cases g1:eE fs[i].name=true;rotate_left;·simp -implicitDefEqProofs [qk,uv,hl,hw,u1,u2,u3,jH,g1]
  by_cases g2:fZ fs[i].value=true;rotate_left;·simp -implicitDefEqProofs [qk,uv,hl,hw,u1,u2,u3,jH,g1,g2]
  by_cases hcl:fs[i].name=fD;·simp -implicitDefEqProofs [qk,uv,hl,hw,u1,u2,u3,g1,g2,jH,BP,eq_true hcl]
  by_cases g3:gd (fB fs fs[i].name)=i;rotate_left;·simp -implicitDefEqProofs [qk,uv,hl,hw,u1,u2,u3,g1,g2,jH,BP,eq_false hcl,eq_false g3]
  simp -implicitDefEqProofs [qk,uv,hl,hw,u1,u2,u3,jH,g1,g2,BP,eq_false hcl,eq_true g3];all_goals (repeat' split)<;>first|rfl|omega|(simp_all;done)|(simp_all;omega)|skip
 ·simp -implicitDefEqProofs [qk,uv]
def OK(fs:List aE)(hb:wL aF fs<=1073741824):ev LI TT 94 [.row .af 2 (fs.map aH)]=some (.bool ((jF fs)),[.dead]):=by
 rw[aq (b:=Fq) (rs:=[.t 2]) (n:=1) rfl rfl];unfold jF;have hfl:=bp (w:=aF) fs;have u1:=U4 fs hb;try simp at u1
 simp -implicitDefEqProofs [Fq,u1];all_goals (repeat' split)<;>first|rfl|omega|(simp_all;done)|(simp_all;omega)|skip
def Y8(fs:List aE)(i:Nat)(h:i<fs.length)(v:ag):(fs.map aH).modify i (λe=>e.set 1 (X.str ⟨v.toArray⟩))=(fs.set i ⟨fs[i].name,v⟩).map aH:=by
 apply iw;intro j;rw[vJ,de,de,vK];by_cases hij:i=j;·subst hij;simp[h]
 ·simp only[hij,eL];cases fs[j]?<;>rfl
def Qu(fs:List aE):fY (fs.map aH)=true:=by induction fs<;>simp_all[fY,scalar]
def O1(fs:List aE)(n:ag)(v:ag)(hb:fs.length<=1073741824):ev LI TT 71 [.row .af 2 (fs.map aH),.str ⟨n.toArray⟩,.str ⟨v.toArray⟩]=some (.row .own 2 ((sM fs n v).map aH),[.dead,.dead,.dead]):=by
 rw[aq (b:=Cy) (rs:=[.t 6]) (n:=3) rfl rfl];unfold sM;have hk:fs.length*32<=140737488355328:=by omega
 have hk2:(fs.length+1)*32<=140737488355328:=by omega
 have hsc:=Qu fs;have u1:=vU fs n (by omega);try simp at u1
 cases g:fB fs n with
 |none=>rw[g] at u1;simp[gd] at u1;simp -implicitDefEqProofs [Cy,u1,rowAt,hk,hk2,hsc,cD]
 |some x=>
 obtain⟨i,f⟩:=x;obtain⟨hi,rfl,_⟩:=I7 g;rw[g] at u1;simp[gd] at u1;simp -implicitDefEqProofs [Cy,u1,hk,hk2,hsc,hi,rowAt,Y8 fs i hi v,-List.map_set];all_goals (repeat' split)<;>first|rfl|omega|(simp_all;done)|(simp_all;omega)|skip
def Jo(r:ck)(hb:bQ r<=1073741824):ev LI TT 65 [.agg (jC .af r)]=some (.bool ((fF r)),[.dead]):=by
 rw[aq (b:=uZ) (rs:=[.t 2]) (n:=1) rfl rfl];have hw:bQ r=wL aF r.fields+r.body.length:=rfl;unfold fF;have u1:=OZ r.fields (by omega);try simp at u1
 by_cases g1:100<=r.status;rotate_left;·simp -implicitDefEqProofs [uZ,u1,eq_false g1]
 by_cases g2:r.status<=599;rotate_left;·simp -implicitDefEqProofs [uZ,u1,eq_true g1,eq_false g2]
 by_cases g3:jF r.fields=true;rotate_left;·simp -implicitDefEqProofs [uZ,u1,eq_true g1,eq_true g2,g3]
 simp -implicitDefEqProofs [uZ,u1,eq_true g1,eq_true g2,g3];all_goals (repeat' split)<;>first|rfl|omega|(simp_all;done)|(simp_all;omega)|skip
def OP(r:ck)(hb:bQ r<=1073741824):ev LI TT 22 [.agg (jC .af r)]=some (.bool ((fF r)),[.dead]):=by
 rw[aq (b:=ux) (rs:=[.t 2]) (n:=1) rfl rfl];have hw:bQ r=wL aF r.fields+r.body.length:=rfl;unfold fF;have u1:=OK r.fields (by omega);try simp at u1
 by_cases g1:100<=r.status;rotate_left;·simp -implicitDefEqProofs [ux,u1,eq_false g1]
 by_cases g2:r.status<=599;rotate_left;·simp -implicitDefEqProofs [ux,u1,eq_true g1,eq_false g2]
 by_cases g3:(r.body.length:Int)<=120;rotate_left;·simp -implicitDefEqProofs [ux,u1,eq_true g1,eq_true g2,eq_false g3]
 simp -implicitDefEqProofs [ux,u1,eq_true g1,eq_true g2,eq_true g3];all_goals (repeat' split)<;>first|rfl|omega|(simp_all;done)|(simp_all;omega)|skip
def X0(fs:List aE)(hb:fs.length<=1073741824):ev LI TT 159 [.row .af 2 (fs.map aH)]=some (.row .own 2 (fs.map aH),[.dead]):=by rw[aq (b:=HJ) (rs:=[.t 2]) (n:=1) rfl rfl];simp -implicitDefEqProofs [HJ,Qu fs,rowAt,(by omega:fs.length*32<=140737488355328)];all_goals (repeat' split)<;>first|rfl|omega|(simp_all;done)|(simp_all;omega)|skip
def Pf(r:ck)(hb:r.fields.length<=1073741824):ev LI TT 68 [.agg (jC .af r)]=some (.agg (jC .own r),[.dead]):=by
 rw[aq (b:=HL) (rs:=[.c 2 3 true 29]) (n:=1) rfl rfl];have u1:=X0 r.fields hb;try simp at u1
 simp -implicitDefEqProofs [HL,u1];all_goals (repeat' split)<;>first|rfl|omega|(simp_all;done)|(simp_all;omega)|skip
def Xn(r:ck)(hb:r.fields.length<=1073741824):ev LI TT 58 [.agg (jC .af r)]=some (.agg (jC .own r),[.dead]):=by
 rw[aq (b:=FI) (rs:=[.c 2 3 true 29]) (n:=1) rfl rfl];have u1:=adH r.fields hb;try simp at u1
 simp -implicitDefEqProofs [FI,u1];all_goals (repeat' split)<;>first|rfl|omega|(simp_all;done)|(simp_all;omega)|skip
end M
namespace M
open Go
variable [Lb]
def Dp(s:ag):(iI s).length<=s.length+1:=by unfold iI;have h1:=US (λw:ag=>decide (w≠[])) ((cw 44 s).map gA);have h2:=TL 44 s;simp only[dV] at h1;omega
def yY(s:ag):∀w∈iI s,w.length<=s.length:=by intro w hw;unfold iI at hw;obtain⟨x,hx,rfl⟩:=aT.1 (List.mem_filter.1 hw).1;have h1:=yI 44 s x hx;have h2:=T7 x;omega
def VI(ws:List ag)(hl0:ws.length<=1073741825)(hb:∀w∈ws,w.length<=1073741824):aJ (ak (ev LI TT) (au TT) CI) [(5,.row .own 1 ((jO cC ws 0).map eS)),(6,.int .i64 0)]=some (.exit 0,[(5,.row .own 1 ((jO cC ws (ws).length).map eS)),(6,.int .i64 (ws).length),(17,.bool false)]):=by
 refine Sg (f:=ak (ev LI TT) (au TT) CI) (ws) (λi=>[(5,.row .own 1 ((jO cC ws i).map eS)),(6,.int .i64 i)]) _ (λi b hi hl=>?_) ?_
 ·have hw:=bx i (by first|omega|(simp at hl;omega));obtain⟨_,rfl⟩:=aN.1 hi;have h1:=aea cC ws i hl;have h2:=aeb cC ws i hl;have u1:=O0 ws[i] (hb _ (cN hl));try simp at u1
  simp -implicitDefEqProofs [CI,Mv,hl,hw,u1,h1,h2,rowAt,-List.map_set]
 ·simp -implicitDefEqProofs [CI,Mv,rowAt]
def Ee(fs:List aE)(hb:wL aF fs<=1073741824):ev LI TT 87 [.row .af 2 (fs.map aH)]=some (.row .own 1 ((dO fs).map eS),[.dead]):=by
 rw[aq (b:=GS) (rs:=[.t 2]) (n:=1) rfl rfl];have hfl:=bp (w:=aF) fs;have hg:=oA fs jr;have u1:=zT fs jr (by omega);try simp at u1
 have u2:=O6 ((dr fs jr).getD []) (by omega);try simp at u2
 have u3:=VI (iI ((dr fs jr).getD [])) (by have:=Dp ((dr fs jr).getD []);omega) (λw hw=>by have:=yY _ w hw;omega);try simp at u3
 rw[aec,ad8,show (iI ((dr fs jr).getD [])).map cC=dO fs from rfl] at u3;simp -implicitDefEqProofs [GS,u1,u2,u3];all_goals (repeat' split)<;>first|rfl|omega|(simp_all;done)|(simp_all;omega)|skip
def Vd(ws:List ag)(hl0:ws.length<=1073741825)(hb:∀w∈ws,w.length<=1073741824):aJ (ak (ev LI TT) (au TT) Bq) [(5,.row .own 1 (([]).map eS)),(14,.row .own 1 (ws.map eS)),(15,.int .i64 ws.length),(16,.int .i64 0)]=some (.exit 0,[(5,.row .own 1 ((((ws).flatMap (λw=>[cC w]))).map eS)),(14,.row .own 1 (ws.map eS)),(15,.int .i64 ws.length),(16,.int .i64 (ws).length),(17,.bool false)]):=by
 refine qw (f:=ak (ev LI TT) (au TT) Bq) (ws) (λw=>[cC w]) (λi out=>[(5,.row .own 1 ((out).map eS)),(14,.row .own 1 (ws.map eS)),(15,.int .i64 ws.length),(16,.int .i64 i)]) (λout=>[(5,.row .own 1 ((out).map eS)),(14,.row .own 1 (ws.map eS)),(15,.int .i64 ws.length),(16,.int .i64 (ws).length),(17,.bool false)]) (λi b out hi hl hout=>?_) (λout hout=>?_)
 ·have hw:=bx i (by first|omega|(simp at hl;omega));obtain⟨_,rfl⟩:=aN.1 hi;have hlo:out.length=i:=by rw[hout];exact Ap _ _ _ (by omega)
  have hlz:(i+1)*16<=140737488355328:=by omega
  have u1:=ON ws[i] (hb _ (cN hl));try simp at u1
  simp -implicitDefEqProofs [Bq,K3,hl,hw,u1,hlo,hlz,cD]
 ·simp -implicitDefEqProofs [Bq,K3]
def Xl(fs:List aE)(hb:wL aF fs<=1073741824):ev LI TT 118 [.row .af 2 (fs.map aH)]=some (.row .own 1 ((dO fs).map eS),[.dead]):=by
 rw[aq (b:=FF) (rs:=[.t 2]) (n:=1) rfl rfl];have hfl:=bp (w:=aF) fs;have hg:=oA fs jr;have u1:=zQ fs jr (by omega);try simp at u1
 have u2:=OQ ((dr fs jr).getD []) (by omega);try simp at u2
 have u3:=Vd (iI ((dr fs jr).getD [])) (by have:=Dp ((dr fs jr).getD []);omega) (λw hw=>by have:=yY _ w hw;omega);try simp at u3
 rw[Ao,show (iI ((dr fs jr).getD [])).map cC=dO fs from rfl] at u3;simp -implicitDefEqProofs [FF,u1,u2,u3];all_goals (repeat' split)<;>first|rfl|omega|(simp_all;done)|(simp_all;omega)|skip
def Il(fs:List aE):(dO fs).length<=wL aF fs+1:=by have h1:=Dp ((dr fs jr).getD []);have h2:=oA fs jr;simp[dO];omega
end M
namespace M
open Go
variable [Lb]
def VY(ps:List (ag×ag))(hb:ps.length<=9223372036854775807):aJ (ak (ev LI TT) (au TT) Ds) [(0,.row .af 1 (ps.map λx=>eS x.1)),(1,.row .af 1 (ps.map λx=>eS x.2)),(12,.int .i64 ps.length),(13,.int .i64 0)]=if bu wm (ps)=true then some (.exit 0,[(0,.row .af 1 (ps.map λx=>eS x.1)),(1,.row .af 1 (ps.map λx=>eS x.2)),(12,.int .i64 ps.length),(13,.int .i64 ps.length),(14,.bool false)]) else some (.ret,[(4,.bool false)]):=by
 refine gJ (f:=ak (ev LI TT) (au TT) Ds) (ps) (λi=>[(0,.row .af 1 (ps.map λx=>eS x.1)),(1,.row .af 1 (ps.map λx=>eS x.2)),(12,.int .i64 ps.length),(13,.int .i64 i)]) wm _ _ (λi b hi hl=>?_) ?_;·have hw:=bx i (by first|omega|(simp at hl;omega));obtain⟨_,rfl⟩:=aN.1 hi;simp -implicitDefEqProofs [Ds,Nw,hl,hw,wm];first|done|(split<;>simp_all)
 ·simp -implicitDefEqProofs [Ds,Nw]
def Pg(a b:List ag)(hb:a.length<=9223372036854775807):ev LI TT 103 [.row .af 1 (a.map eS),.row .af 1 (b.map eS)]=some (.bool (decide (a=b)),[.dead,.dead]):=by
 rw[aq (b:=Iu) (rs:=[.t 4]) (n:=2) rfl rfl];simp -implicitDefEqProofs [Iu];by_cases h:a.length=b.length;·obtain⟨ps,rfl,rfl⟩:=UW h;have h1:=VY ps (by simpa using hb);have h2:=Ow ps;simp at h1;cases h3:bu wm ps<;>rw[h3] at h1 h2<;>simp[h1,IK,<-h2]
 ·have:¬a=b:=λe=>h (by rw[e]);simp[this];omega
def UX:∀{a b:List ag},(∀x∈a.zip b,¬(decide (x.1≠x.2))=true)->a.length=b.length->a=b
 |[],[],_,_=>rfl
 |x::a,y::b,h,hl=>by have h1:=h (x,y) (by simp);simp at h1;have h2:a=b:=UX (λz hz=>h z (by simp only[List.zip_cons_cons];exact cE _ hz)) (by simpa using hl);rw[h1,h2]
def aks{a b:List ag}{x:ag×ag}(hx:x∈a.zip b)(h:x.1≠x.2):a≠b:=by
 rintro rfl
 have:∀{l:List ag} {x:ag×ag},x∈l.zip l->x.1=x.2:=by
  intro l;induction l with
  |nil=>intro x h;simp at h
  |cons y l ih=>
   intro x h;simp only[List.zip_cons_cons,ct] at h;rcases h with rfl|h;·rfl
   ·exact ih h
 exact h (this hx)
def VW(a b:List ag)(hb:a.length<=9223372036854775807)(gm:b.length<=9223372036854775807):aJ (ak (ev LI TT) (au TT) yF) [(0,.row .af 1 (a.map eS)),(1,.row .af 1 (b.map eS)),(5,.int .i64 0)]=(cY (λx=>decide (x.1≠x.2)) 0 (a.zip b)).elim (some (.exit 0,[(0,.row .af 1 (a.map eS)),(1,.row .af 1 (b.map eS)),(5,.int .i64 (a.zip b).length),(15,.bool false)])) λx=>some (.ret,(λ(i:Nat) b=>[(4,.bool false)]) x.1 x.2):=by
 refine uD (f:=ak (ev LI TT) (au TT) yF) (a.zip b) (λi=>[(0,.row .af 1 (a.map eS)),(1,.row .af 1 (b.map eS)),(5,.int .i64 i)]) (λx=>decide (x.1≠x.2)) (λ(i:Nat) b=>[(4,.bool false)]) _ (λi b hi hl=>?_) ?_
 ·have hw:=bx i (by first|omega|(simp at hl;omega));obtain⟨_,rfl⟩:=aN.1 hi;have ha:i<a.length:=by simp at hl;omega
  have hb':i<b.length:=by simp at hl;omega
  simp -implicitDefEqProofs [yF,HI,hl,hw,ha,hb']
 ·have hz:(a.zip b).length=min a.length b.length:=by simp
  rw[hz];by_cases hh:a.length<=b.length;·rw[n7 hh];simp -implicitDefEqProofs [yF,HI]
  have h1:b.length<=a.length:=by omega
  have h2:(b.length:Int)<a.length:=by omega
  have h3:b.length<a.length:=by omega
  rw[Nat.min_eq_right h1];simp -implicitDefEqProofs [yF,HI,h2,h3]
def Eh(a b:List ag)(hb:a.length<=9223372036854775807)(gm:b.length<=9223372036854775807):ev LI TT 86 [.row .af 1 (a.map eS),.row .af 1 (b.map eS)]=some (.bool (decide (a=b)),[.dead,.dead]):=by
 rw[aq (b:=yG) (rs:=[.t 4]) (n:=2) rfl rfl];have h:=VW a b hb gm;cases g:cY (λx:ag×ag=>decide (x.1≠x.2)) 0 (a.zip b) with
 |some x=>obtain⟨i,x⟩:=x;obtain⟨_,h1,h2⟩:=wE g;have h3:¬a=b:=aks (lY h1) (by simpa using h2);rw[g] at h;simp only[Option.elim] at h;simp -implicitDefEqProofs [yG,h,h3]
 |none=>
 have h1:=Qq.1 g;rw[g] at h;simp only[Option.elim] at h;try simp at h
 by_cases hl:a.length=b.length
 ·have h2:=UX h1 hl;subst h2;try simp at h
  simp -implicitDefEqProofs [yG,h]
 have h3:¬a=b:=λe=>hl (by rw[e]);have h4:¬(a.length:Int)=b.length:=by omega
 simp -implicitDefEqProofs [yG,h,h3,h4];all_goals (repeat' split)<;>first|rfl|omega|(simp_all;done)|(simp_all;omega)|skip
def XM(x:Int)(y:Int):ev LI TT 163 [.int .i64 x,.int .i64 y]=some (.int .i64 ((plus x y)),[.dead,.dead]):=by
 rw[aq (b:=GI) (rs:=[.t 4]) (n:=2) rfl rfl];unfold plus within;have e1:∀z:Int,(if (if 0<z then z else 0)<1000000 then (if 0<z then z else 0) else 1000000)=max 0 (min z 1000000):=λz=>by (repeat' split)<;>omega
 have e2:∀z:Int,(if (if z<0 then 0 else z)<1000000 then (if z<0 then 0 else z) else 1000000)=max 0 (min z 1000000):=λz=>by (repeat' split)<;>omega
 have w:=cy (n:=max 0 (min x 1000000)+max 0 (min y 1000000)) (by omega) (by omega);simp -implicitDefEqProofs [GI,e1,e2,w];try omega
def Xd(x:Int)(y:Int):ev LI TT 92 [.int .i64 x,.int .i64 y]=some (.int .i64 ((plus x y)),[.dead,.dead]):=by rw[aq (b:=Fw) (rs:=[.t 4]) (n:=2) rfl rfl];unfold plus within;have w:=cy (n:=max 0 (min x 1000000)+max 0 (min y 1000000)) (by omega) (by omega);simp -implicitDefEqProofs [Fw,w];try omega
def XY(t:Int)(now:Int)(h1:bI t)(h2:bI now):ev LI TT 164 [.int .i64 t,.int .i64 now]=some (.int .i64 ((since t now)),[.dead,.dead]):=by
 rw[aq (b:=vA) (rs:=[.t 4]) (n:=2) rfl rfl];obtain⟨a1,a2⟩:=h1;obtain⟨b1,b2⟩:=h2;unfold since;by_cases g1:now<=t;·simp -implicitDefEqProofs [vA,g1]
 by_cases g2:t<0
 ·have w:=cy (n:=t+1000000) (by omega) (by omega);by_cases g3:t+1000000<now;·simp -implicitDefEqProofs [vA,g1,g2,g3,w];omega
  have w2:=cy (n:=now - t) (by omega) (by omega);simp -implicitDefEqProofs [vA,g1,g2,g3,w,w2];(repeat' split)<;>omega
 have w2:=cy (n:=now - t) (by omega) (by omega);simp -implicitDefEqProofs [vA,g1,g2,w2];(repeat' split)<;>omega
def Xt(t:Int)(now:Int)(h1:bI t)(h2:bI now):ev LI TT 93 [.int .i64 t,.int .i64 now]=some (.int .i64 ((since t now)),[.dead,.dead]):=by
 rw[aq (b:=w8) (rs:=[.t 4]) (n:=2) rfl rfl];obtain⟨a1,a2⟩:=h1;obtain⟨b1,b2⟩:=h2;unfold since;by_cases g1:now<=t;·simp -implicitDefEqProofs [w8,g1]
 by_cases g2:now - t<=9223372036854775807
 ·have w2:=cy (n:=now - t) (by omega) (by omega);have w3:¬now - t<0:=by omega
  simp -implicitDefEqProofs [w8,g1,w2,w3];(repeat' split)<;>omega
 have w4:IntKind.i64.wrap (now - t)<0:=by rw[IntKind.wrap_i64];omega
 simp -implicitDefEqProofs [w8,g1,w4];(repeat' split)<;>omega
def Xv(fs:List aE)(t:Int)(now:Int)(hb:wL aF fs<=1073741824)(h1:bI t)(h2:bI now):ev LI TT 72 [.row .af 2 (fs.map aH),.int .i64 t,.int .i64 now]=some (.int .i64 ((tM fs t now)),[.dead,.dead,.dead]):=by
 rw[aq (b:=xM) (rs:=[.t 6]) (n:=3) rfl rfl];have hfl:=bp (w:=aF) fs;have hg:=oA fs qC;have u1:=zT fs qC (by omega);have u2:=tT ((dr fs qC).getD []) (by omega);have u3:=XY t now h1 h2;have u4:=XM (zA fs) (since t now);try simp at u3 u4
 unfold tM;unfold zA at u4⊢;cases e1:dr fs qC with
 |none=>
  rw[e1] at u1 u2 u4;have e0:bT []=none:=by simp[bT,k8,Et]
  simp[e0] at u1 u2 u4;simp -implicitDefEqProofs [xM,u1,u2,u3,u4]
 |some v=>
 rw[e1] at u1 u2 u4;cases e2:bT v with
 |none=>simp[e2] at u1 u2 u4;simp -implicitDefEqProofs [xM,u1,u2,u3,u4,e2]
 |some n=>
 simp[e2] at u1 u2 u4;simp -implicitDefEqProofs [xM,u1,u2,u3,u4,e2];all_goals (repeat' split)<;>first|rfl|omega|(simp_all;done)|(simp_all;omega)|skip
def WY(fs:List aE)(t:Int)(now:Int)(hb:wL aF fs<=1073741824)(h1:bI t)(h2:bI now):ev LI TT 21 [.row .af 2 (fs.map aH),.int .i64 t,.int .i64 now]=some (.int .i64 ((tM fs t now)),[.dead,.dead,.dead]):=by
 rw[aq (b:=wV) (rs:=[.t 6]) (n:=3) rfl rfl];have hfl:=bp (w:=aF) fs;have hg:=oA fs qC;have u1:=zQ fs qC (by omega);have u2:=OO ((dr fs qC).getD []) (by omega);have u3:=Xt t now h1 h2;have u4:=Xd (zA fs) (since t now);try simp at u3 u4
 unfold tM;unfold zA at u4⊢;cases e1:dr fs qC with
 |none=>
  rw[e1] at u1 u2 u4;have e0:bT []=none:=by simp[bT,k8,Et]
  simp[e0] at u1 u2 u4;simp -implicitDefEqProofs [wV,u1,u2,u3,u4]
 |some v=>
 rw[e1] at u1 u2 u4;cases e2:bT v with
 |none=>simp[e2] at u1 u2 u4;simp -implicitDefEqProofs [wV,u1,u2,u3,u4,e2]
 |some n=>
 simp[e2] at u1 u2 u4;simp -implicitDefEqProofs [wV,u1,u2,u3,u4,e2];all_goals (repeat' split)<;>first|rfl|omega|(simp_all;done)|(simp_all;omega)|skip
end M
namespace M
open Go
variable [Lb]
def Vw(o:Ob)(hb:wL wS o.values<=1073741824):aJ (ak (ev LI TT) (au TT) Cv) [(1,.ptr .own (aV .af o)),(3,.int .i64 0)]=if bu fZ (o.values)=true then some (.exit 0,[(1,.ptr .own (aV .af o)),(3,.int .i64 (o.values).length),(49,.bool false)]) else some (.ret,[(2,.bool false)]):=by
 refine gJ (f:=ak (ev LI TT) (au TT) Cv) (o.values) (λi=>[(1,.ptr .own (aV .af o)),(3,.int .i64 i)]) fZ _ _ (λi b hi hl=>?_) ?_
 ·have hw:=bx i (by have:=bp (w:=wS) o.values;omega);obtain⟨_,rfl⟩:=aN.1 hi;have hm:=yW (cN hl);have u1:=Jr o.values[i] (by omega);try simp at u1
  simp -implicitDefEqProofs [Cv,Ml,hl,hw,u1];all_goals (repeat' split)<;>first|rfl|omega|(simp_all;done)|(simp_all;omega)|skip
 ·simp -implicitDefEqProofs [Cv,Ml]
def zU(o:Ob)(hb:bP o<=1073741824):ev LI TT 18 [.agg (aV .af o)]=some (.bool ((dx o)),[.dead]):=by
 rw[aq (b:=mI) (rs:=[.t 2]) (n:=1) rfl rfl];have hw:bP o=o.path.length+wL wS o.names+wL wS o.values+bQ o.resp:=rfl;have fk:bQ o.resp=wL aF o.resp.fields+o.resp.body.length:=rfl;have hn:=bp (w:=wS) o.names;have hv:=bp (w:=wS) o.values;have hvl:=Il o.resp.fields;unfold dx nG;have u1:=Jo o.resp (by omega);try simp at u1
 have u2:=Jt o.path (by omega);try simp at u2
 have u3:=Pe o.names (by omega) (λw hw=>by have:=yW hw;omega);try simp at u3
 have u4:=Ee o.resp.fields (by omega);try simp at u4
 have u5:=Eh o.names (dO o.resp.fields) (by omega) (by omega);try simp at u5
 have u6:=Vw o (by omega);try simp at u6
 by_cases g1:fF o.resp=true;rotate_left;·simp -implicitDefEqProofs [mI,u1,u2,u3,u4,u5,u6,g1]
 by_cases g2:ij o.path=true;rotate_left;·simp -implicitDefEqProofs [mI,u1,u2,u3,u4,u5,u6,g1,g2]
 by_cases g3:0<=o.t;rotate_left;·simp -implicitDefEqProofs [mI,u1,u2,u3,u4,u5,u6,g1,g2,eq_false g3]
 by_cases g4:o.t<=1000000;rotate_left;·simp -implicitDefEqProofs [mI,u1,u2,u3,u4,u5,u6,g1,g2,eq_true g3,eq_false g4]
 by_cases g5:bu eE o.names=true;rotate_left;·simp -implicitDefEqProofs [mI,u1,u2,u3,u4,u5,u6,g1,g2,eq_true g3,eq_true g4,g5]
 by_cases g6:(o.names.length:Int)<=4;rotate_left;·simp -implicitDefEqProofs [mI,u1,u2,u3,u4,u5,u6,g1,g2,eq_true g3,eq_true g4,g5,eq_false g6]
 by_cases g7:o.names=dO o.resp.fields;rotate_left;·simp -implicitDefEqProofs [mI,u1,u2,u3,u4,u5,u6,g1,g2,eq_true g3,eq_true g4,g5,eq_true g6,eq_false g7]
 by_cases g8:o.values.length=o.names.length;rotate_left
 ·have kf:¬(o.values.length:Int)=o.names.length:=by omega
  simp -implicitDefEqProofs [mI,u1,u2,u3,u4,u5,u6,g1,g2,eq_true g3,eq_true g4,g5,eq_true g6,eq_true g7,eq_false g8,eq_false kf]
 have kf:(o.values.length:Int)=o.names.length:=by omega
 simp -implicitDefEqProofs [mI,u1,u2,u3,u4,u5,u6,g1,g2,eq_true g3,eq_true g4,g5,eq_true g6,eq_true g7,eq_true g8,eq_true kf];all_goals (repeat' split)<;>first|rfl|omega|(simp_all;done)|(simp_all;omega)|skip
def U7(o:Ob)(hb:wL wS o.values<=1073741824):aJ (ak (ev LI TT) (au TT) Bi) [(1,.ptr .own (aV .af o)),(5,.aB 1 [] 0 2),(6,.row .af 1 (o.values.map eS)),(7,.int .i64 o.values.length),(8,.int .i64 0)]=if bu fZ (o.values)=true then some (.exit 0,[(1,.ptr .own (aV .af o)),(5,.aB 1 [] 0 2),(6,.row .af 1 (o.values.map eS)),(7,.int .i64 o.values.length),(8,.int .i64 (o.values).length),(9,.bool false)]) else some (.ret,[(2,.bool false)]):=by
 refine gJ (f:=ak (ev LI TT) (au TT) Bi) (o.values) (λi=>[(1,.ptr .own (aV .af o)),(5,.aB 1 [] 0 2),(6,.row .af 1 (o.values.map eS)),(7,.int .i64 o.values.length),(8,.int .i64 i)]) fZ _ _ (λi b hi hl=>?_) ?_
 ·have hw:=bx i (by have:=bp (w:=wS) o.values;omega);obtain⟨_,rfl⟩:=aN.1 hi;have hm:=yW (cN hl);have u1:=Jj o.values[i] (by omega);try simp at u1
  simp -implicitDefEqProofs [Bi,KY,hl,hw,u1];all_goals (repeat' split)<;>first|rfl|omega|(simp_all;done)|(simp_all;omega)|skip
 ·simp -implicitDefEqProofs [Bi,KY]
def Ea(o:Ob)(hb:bP o<=1073741824):ev LI TT 38 [.agg (aV .af o)]=some (.bool ((dx o)),[.dead]):=by
 rw[aq (b:=mA) (rs:=[.t 2]) (n:=1) rfl rfl];have hw:bP o=o.path.length+wL wS o.names+wL wS o.values+bQ o.resp:=rfl;have fk:bQ o.resp=wL aF o.resp.fields+o.resp.body.length:=rfl;have hn:=bp (w:=wS) o.names;have hv:=bp (w:=wS) o.values;have hvl:=Il o.resp.fields;unfold dx nG;have u1:=OP o.resp (by omega);try simp at u1
 have u2:=Jk o.path (by omega);try simp at u2
 have u3:=Xs o.names (by omega) (λw hw=>by have:=yW hw;omega);try simp at u3
 have u4:=Xl o.resp.fields (by omega);try simp at u4
 have u5:=Pg o.names (dO o.resp.fields) (by omega);try simp at u5
 have u6:=U7 o (by omega);try simp at u6
 by_cases g1:bu fZ o.values=true;rotate_left;·simp -implicitDefEqProofs [mA,u1,u2,u3,u4,u5,u6,g1]
 by_cases g2:ij o.path=true;rotate_left;·simp -implicitDefEqProofs [mA,u1,u2,u3,u4,u5,u6,g1,g2]
 by_cases g3:0<=o.t;rotate_left;·simp -implicitDefEqProofs [mA,u1,u2,u3,u4,u5,u6,g1,g2,eq_false g3]
 by_cases g4:o.t<=1000000;rotate_left;·simp -implicitDefEqProofs [mA,u1,u2,u3,u4,u5,u6,g1,g2,eq_true g3,eq_false g4]
 by_cases g8:o.values.length=o.names.length;rotate_left
 ·have kf:¬(o.values.length:Int)=o.names.length:=by omega
  simp -implicitDefEqProofs [mA,u1,u2,u3,u4,u5,u6,g1,g2,eq_true g3,eq_true g4,eq_false g8,eq_false kf]
 have kf:(o.values.length:Int)=o.names.length:=by omega
 by_cases h5:bu eE o.names=true;rotate_left;·simp -implicitDefEqProofs [mA,u1,u2,u3,u4,u5,u6,g1,g2,eq_true g3,eq_true g4,eq_true g8,eq_true kf,h5]
 by_cases h6:(o.names.length:Int)<=4;rotate_left;·simp -implicitDefEqProofs [mA,u1,u2,u3,u4,u5,u6,g1,g2,eq_true g3,eq_true g4,eq_true g8,eq_true kf,h5,eq_false h6]
 by_cases h7:fF o.resp=true;rotate_left;·simp -implicitDefEqProofs [mA,u1,u2,u3,u4,u5,u6,g1,g2,eq_true g3,eq_true g4,eq_true g8,eq_true kf,h5,eq_true h6,h7]
 simp -implicitDefEqProofs [mA,u1,u2,u3,u4,u5,u6,g1,g2,eq_true g3,eq_true g4,eq_true g8,eq_true kf,h5,eq_true h6,h7];all_goals (repeat' split)<;>first|rfl|omega|(simp_all;done)|(simp_all;omega)|skip
def Eb(b:Bn)(hb:aW b<=1073741824):ev LI TT 101 [.agg (cu b)]=some (.bool ((dW b)),[.dead]):=by
 rw[aq (b:=qJ) (rs:=[.t 2]) (n:=1) rfl rfl];have hw:aW b=b.a.length+b.b.length:=rfl;unfold dW;have u1:=Jt b.a (by omega);try simp at u1
 have u2:=Jp b.a (by omega);try simp at u2
 have u3:=Jr b.b (by omega);try simp at u3
 by_cases g1:0<=b.t;rotate_left;·simp -implicitDefEqProofs [qJ,u1,u2,u3,eq_false g1]
 by_cases g2:b.t<=1000000;rotate_left;·simp -implicitDefEqProofs [qJ,u1,u2,u3,eq_true g1,eq_false g2]
 by_cases h1:b.kind=1;·by_cases h2:ij b.a=true<;>simp -implicitDefEqProofs [qJ,u1,u2,u3,eq_true g1,eq_true g2,h1,h2]
 by_cases h2:b.kind=2;·by_cases h3:ij b.a=true<;>simp -implicitDefEqProofs [qJ,u1,u2,u3,eq_true g1,eq_true g2,h2,h3]
 by_cases h3:b.kind=3;·by_cases h4:eE b.a=true<;>simp -implicitDefEqProofs [qJ,u1,u2,u3,eq_true g1,eq_true g2,h3,h4]
 simp -implicitDefEqProofs [qJ,u1,u2,u3,eq_true g1,eq_true g2,h1,h2,h3];all_goals (repeat' split)<;>first|rfl|omega|(simp_all;done)|(simp_all;omega)|skip
def OJ(b:Bn)(hb:aW b<=1073741824):ev LI TT 105 [.agg (cu b)]=some (.bool ((dW b)),[.dead]):=by
 rw[aq (b:=qi) (rs:=[.t 2]) (n:=1) rfl rfl];have hw:aW b=b.a.length+b.b.length:=rfl;unfold dW;have u1:=Jk b.a (by omega);try simp at u1
 have u2:=Ji b.a (by omega);try simp at u2
 have u3:=Jj b.b (by omega);try simp at u3
 by_cases g1:0<=b.t;rotate_left;·simp -implicitDefEqProofs [qi,u1,u2,u3,eq_false g1]
 by_cases g2:b.t<=1000000;rotate_left;·simp -implicitDefEqProofs [qi,u1,u2,u3,eq_true g1,eq_false g2]
 by_cases h1:b.kind=1;·by_cases h2:ij b.a=true<;>simp -implicitDefEqProofs [qi,u1,u2,u3,eq_true g1,eq_true g2,h1,h2]
 by_cases h2:b.kind=2;·by_cases h3:ij b.a=true<;>simp -implicitDefEqProofs [qi,u1,u2,u3,eq_true g1,eq_true g2,h2,h3]
 by_cases h3:b.kind=3;·by_cases h4:eE b.a=true<;>simp -implicitDefEqProofs [qi,u1,u2,u3,eq_true g1,eq_true g2,h3,h4]
 simp -implicitDefEqProofs [qi,u1,u2,u3,eq_true g1,eq_true g2,h1,h2,h3];all_goals (repeat' split)<;>first|rfl|omega|(simp_all;done)|(simp_all;omega)|skip
@[simp] def akU(t:Int):ev LI TT 183 [.int .i64 t]=some (.bool ((decide (0<=t/\t<=19))),[.dead]):=by rw[aq (b:=FN) (rs:=[.t 2]) (n:=1) rfl rfl];simp -implicitDefEqProofs [FN];all_goals (repeat' split)<;>first|rfl|omega|(simp_all;done)|(simp_all;omega)|skip
@[simp] def akV(t:Int):ev LI TT 106 [.int .i64 t]=some (.bool ((decide (5<=t/\t<=19))),[.dead]):=by rw[aq (b:=FO) (rs:=[.t 2]) (n:=1) rfl rfl];simp -implicitDefEqProofs [FO];all_goals (repeat' split)<;>first|rfl|omega|(simp_all;done)|(simp_all;omega)|skip
def Vl(d:bD)(hb:d.pending.length<=9223372036854775807):aJ (ak (ev LI TT) (au TT) Cg) [(1,.ptr .own (cV .af d)),(3,.int .i64 0)]=if bu nM (d.pending)=true then some (.exit 0,[(1,.ptr .own (cV .af d)),(3,.int .i64 (d.pending).length),(8,.bool false)]) else some (.ret,[(2,.bool false)]):=by
 refine gJ (f:=ak (ev LI TT) (au TT) Cg) (d.pending) (λi=>[(1,.ptr .own (cV .af d)),(3,.int .i64 i)]) nM _ _ (λi b hi hl=>?_) ?_;·have hw:=bx i (by first|omega|(simp at hl;omega));obtain⟨_,rfl⟩:=aN.1 hi;simp -implicitDefEqProofs [Cg,Mh,hl,hw,nM];all_goals (repeat' split)<;>first|rfl|omega|(simp_all;done)|(simp_all;omega)|skip
 ·simp -implicitDefEqProofs [Cg,Mh]
def tS(d:bD)(hb:d.pending.length<=9223372036854775807):ev LI TT 100 [.agg (cV .af d)]=some (.bool ((cS d)),[.dead]):=by
 rw[aq (b:=Gu) (rs:=[.t 2]) (n:=1) rfl rfl];unfold cS;have u1:=Vl d hb;try simp at u1
 simp -implicitDefEqProofs [Gu,u1];all_goals (repeat' split)<;>first|rfl|omega|(simp_all;done)|(simp_all;omega)|skip
def U0(d:bD)(hb:d.pending.length<=9223372036854775807):aJ (ak (ev LI TT) (au TT) Bc) [(1,.ptr .own (cV .af d)),(5,.aB 1 [] 0 1),(6,.row .af 2 (d.pending.map eW)),(7,.int .i64 d.pending.length),(8,.int .i64 0)]=if bu nM (d.pending)=true then some (.exit 0,[(1,.ptr .own (cV .af d)),(5,.aB 1 [] 0 1),(6,.row .af 2 (d.pending.map eW)),(7,.int .i64 d.pending.length),(8,.int .i64 (d.pending).length),(9,.bool false)]) else some (.ret,[(2,.bool false)]):=by
 refine gJ (f:=ak (ev LI TT) (au TT) Bc) (d.pending) (λi=>[(1,.ptr .own (cV .af d)),(5,.aB 1 [] 0 1),(6,.row .af 2 (d.pending.map eW)),(7,.int .i64 d.pending.length),(8,.int .i64 i)]) nM _ _ (λi b hi hl=>?_) ?_;·have hw:=bx i (by first|omega|(simp at hl;omega));obtain⟨_,rfl⟩:=aN.1 hi;simp -implicitDefEqProofs [Bc,KW,hl,hw,nM];all_goals (repeat' split)<;>first|rfl|omega|(simp_all;done)|(simp_all;omega)|skip
 ·simp -implicitDefEqProofs [Bc,KW]
def W6(d:bD)(hb:d.pending.length<=9223372036854775807):ev LI TT 107 [.agg (cV .af d)]=some (.bool ((cS d)),[.dead]):=by
 rw[aq (b:=Fp) (rs:=[.t 2]) (n:=1) rfl rfl];unfold cS;have u1:=U0 d hb;try simp at u1
 simp -implicitDefEqProofs [Fp,u1];all_goals (repeat' split)<;>first|rfl|omega|(simp_all;done)|(simp_all;omega)|skip
end M
namespace M
open Go
variable [Lb]
def VU(s:ag)(hb:s.length<=1073741824)(g:List ag×Nat)(hinv:g.2<=0/\g.1.length<=0):aJ (ak (ev LI TT) (au TT) vz) [(0,.str ⟨s.toArray⟩),(3,.row .own 1 ((g).1.map eS)),(4,.int .i64 ((g).2:Nat)),(5,.int .i64 0)]=some (.exit 0,[(0,.str ⟨s.toArray⟩),(3,.row .own 1 (((foldI (gj 32 (λw=>[w]) s) 0 (s.map some++[none]) g)).1.map eS)),(4,.int .i64 (((foldI (gj 32 (λw=>[w]) s) 0 (s.map some++[none]) g)).2:Nat)),(5,.int .i64 (s.map some++[none]).length),(10,.bool false)]):=by
 refine kT (f:=ak (ev LI TT) (au TT) vz) (s.map some++[none]) (λi (g:List ag×Nat)=>[(0,.str ⟨s.toArray⟩),(3,.row .own 1 ((g).1.map eS)),(4,.int .i64 ((g).2:Nat)),(5,.int .i64 i)]) (gj 32 (λw=>[w]) s) (λg=>[(0,.str ⟨s.toArray⟩),(3,.row .own 1 ((g).1.map eS)),(4,.int .i64 ((g).2:Nat)),(5,.int .i64 (s.map some++[none]).length),(10,.bool false)]) (λi (g:List ag×Nat)=>g.2<=i/\g.1.length<=i) g hinv (λi b g hi hl hinv=>?_) (λi b g hi hinv=>?_) (λg hinv=>?_)
 ·have hw:=bx i (by first|omega|(simp at hl;omega));obtain⟨_,rfl⟩:=aN.1 hi;have hlz:(g.1.length+1)*16<=140737488355328:=by simp at hl;omega
  have Az:∀b:UInt8,((b.toNat:Int)=32)↔b=32:=λb=>⟨λh=>tB.1 (by have e:(32:UInt8).toNat=32:=rfl;omega),λh=>by subst h;rfl⟩;rcases SP s i hl with ⟨hi',e⟩|⟨rfl,e⟩
  ·rw[e];have k1:(i:Int)<=s.length:=by omega
   have k2:i<=s.length:=by omega
   have k3:¬i=s.length:=by omega
   have k4:¬(i:Int)=s.length:=by omega
   by_cases hx:s[i]=32;rotate_left;·have hx':=mt (Az s[i]).1 hx;simp -implicitDefEqProofs [vz,C8,k1,k2,k3,k4,hi',hw,gj,hx,hx']
   have hx':=(Az s[i]).2 hx;have e3:(s.take i).drop g.2=(s.drop g.2).take (i - g.2):=zk ..;simp -implicitDefEqProofs [vz,C8,k1,k2,k3,k4,hi',hw,gj,eq_true hx,hx',hinv,Lib.extract_mk,e3,cD,hlz]
  rw[e];have e3:(s.take s.length).drop g.2=(s.drop g.2).take (s.length - g.2):=zk ..;simp only[gj,e3];simp -implicitDefEqProofs [vz,C8,hl,hw,hinv,Lib.extract_mk,cD,hlz]
 ·exact QT 32 (λw=>[w]) (λ_=>dF 1) s i g b hinv
 ·have Ks:¬((s.length:Int)+1<=s.length):=by omega
  simp -implicitDefEqProofs [vz,C8,Ks]
def vV(s:ag)(hb:s.length<=1073741824):ev LI TT 210 [.str ⟨s.toArray⟩]=some (.row .own 1 ((cw 32 s).map eS),[.dead]):=by rw[aq (b:=HH) (rs:=[.t 2]) (n:=1) rfl rfl];have u1:=VU s hb ([],0) ⟨by omega,by simp⟩;rw[QA,List.flatMap_singleton' (cw 32 s)] at u1;simp at u1;simp -implicitDefEqProofs [HH,u1];all_goals (repeat' split)<;>first|rfl|omega|(simp_all;done)|(simp_all;omega)|skip
def PG(c:UInt8):∀(s:ag) (k:Nat),(cY (λb=>decide ((b.toNat:Int)=c.toNat)) k s).map (λx=>(x.1 - k))=(ew c s).map λp=>p.1.length
 |[],k=>rfl
 |b::s,k=>by
  have hb:((b.toNat:Int)=c.toNat)↔b=c:=⟨λh=>tB.1 (by omega),λh=>by subst h;rfl⟩;unfold cY ew;by_cases h:b=c;·simp[hb,h]
  ·have ih:=PG c s (k+1);simp only[hb,h,NR,fJ,eL];cases hf:cY (λb=>decide ((b.toNat:Int)=c.toNat)) (k+1) s with
   |none=>
    rw[hf] at ih;cases hc:ew c s with
    |none=>rfl
    |some p=>rw[hc] at ih;simp at ih
   |some x=>
    rw[hf] at ih;cases hc:ew c s with
    |none=>rw[hc] at ih;simp at ih
    |some p=>rw[hc] at ih;have hx:=(wE (i:=x.1) (b:=x.2) hf).1;simp at ih⊢;omega
def Ep{c:UInt8}:∀{s:ag} {p:ag×ag},ew c s=some p->s=p.1++c::p.2
 |[],p,h=>by cases h
 |b::s,p,h=>by
  unfold ew at h;split at h;·rename_i hb;cases h;simp[hb]
  ·cases hc:ew c s with
   |none=>rw[hc] at h;cases h
   |some q=>rw[hc] at h;cases h;simp[<-Ep hc]
def VJ(s:ag)(k:Nat)(hk:k<=s.length)(hb:s.length<=1073741824):aJ (ak (ev LI TT) (au TT) CK) [(0,.str ⟨s.toArray⟩),(1,.int .i64 (k:Nat)),(6,.int .i64 ((k+0:Nat):Int))]=(cY (λb=>decide ((b.toNat:Int)=(10:UInt8).toNat)) 0 (s.drop k)).elim (some (.exit 0,[(0,.str ⟨s.toArray⟩),(1,.int .i64 (k:Nat)),(6,.int .i64 ((k+(s.drop k).length:Nat):Int)),(11,.bool false)])) λx=>some (.ret,(λ(i:Nat) b=>[(4,.str ⟨((s.drop k).take i).toArray⟩),(5,.int .i64 ((k+i+1:Nat):Int))]) x.1 x.2):=by
 refine uD (f:=ak (ev LI TT) (au TT) CK) (s.drop k) (λi=>[(0,.str ⟨s.toArray⟩),(1,.int .i64 (k:Nat)),(6,.int .i64 ((k+i:Nat):Int))]) (λb=>decide ((b.toNat:Int)=(10:UInt8).toNat)) (λ(i:Nat) b=>[(4,.str ⟨((s.drop k).take i).toArray⟩),(5,.int .i64 ((k+i+1:Nat):Int))]) _ (λi b hi hl=>?_) ?_
 ·have hw:=bx i (by simp at hl;omega);obtain⟨_,rfl⟩:=aN.1 hi;simp at hl;have h1:k+i<s.length:=by omega
  have h2:=bx (k+i) (by omega);have h3:((k+i:Nat):Int)<s.length:=by omega
  have h4:(10:UInt8).toNat=10:=rfl;have h5:(k:Int)<=((k+i:Nat):Int):=by omega
  have h6:((k+i:Nat):Int)<=s.length:=by omega
  simp at h2 h3 h5 h6;have h7:((k:Int)+(i:Int)).toNat=k+i:=by omega
  have h8:(0:Int)<=(k:Int)+(i:Int):=by omega
  have h9:(s.take (k+i)).drop k=(s.drop k).take i:=by rw[zk];congr 1;omega
  simp -implicitDefEqProofs [CK,Mw,hl,hw,h1,h2,h3,h4,h5,h6,h7,h8,h9,Lib.extract_mk];all_goals (repeat' split)<;>first|rfl|omega|(simp_all;done)|(simp_all;omega)|skip
 ·have hz:k+(s.length - k)=s.length:=by omega
  have fO:(k:Int)+((s.length - k:Nat):Int)=s.length:=by omega
  simp -implicitDefEqProofs [CK,Mw,hz,fO]
def xj(s:ag)(k:Nat):Int:=match ew 10 (s.drop k) with
 |some p=>((s.length - p.2.length:Nat):Int)
 |none=>-1
def xk(s:ag)(k:Nat):ag:=match ew 10 (s.drop k) with
 |some p=>p.1
 |none=>[]
def Ef(s:ag)(k:Nat)(hk:k<=s.length)(hb:s.length<=1073741824):ev LI TT 209 [.str ⟨s.toArray⟩,.int .i64 (k:Int)]=some (.aj [.str ⟨(xk s k).toArray⟩,.int .i64 (xj s k)],[.dead,.dead]):=by
 rw[aq (b:=CL) (rs:=[.t 4,.t 5]) (n:=2) rfl rfl];have hc:=PG 10 (s.drop k) 0;unfold xk xj;have u1:=VJ s k hk hb;try simp at u1
 cases g:cY (λb:UInt8=>decide ((b.toNat:Int)=10)) 0 (s.drop k) with
 |none=>
  have h4:(10:UInt8).toNat=10:=rfl;rw[h4] at hc;simp only[Int.cast_ofNat_Int] at hc;rw[g] at u1 hc;cases hq:ew 10 (s.drop k) with
  |some p=>rw[hq] at hc;simp at hc
  |none=>simp at u1;simp -implicitDefEqProofs [CL,u1]
 |some x=>
 have h4:(10:UInt8).toNat=10:=rfl;rw[h4] at hc;simp only[Int.cast_ofNat_Int] at hc;rw[g] at u1 hc;cases hq:ew 10 (s.drop k) with
 |none=>rw[hq] at hc;simp at hc
 |some p=>
 rw[hq] at hc;have he:=Ep hq;have hx:x.1=p.1.length:=by simpa using hc
 have ht:(s.drop k).take x.1=p.1:=by rw[hx,he];simp
 have hl:=dA List.length he;simp at hl;have hn:((s.length - p.2.length:Nat):Int)=((k+x.1+1:Nat):Int):=by omega
 simp only[Option.elim,ht] at u1;try simp at u1
 simp -implicitDefEqProofs [CL,u1,hn];all_goals (repeat' split)<;>first|rfl|omega|(simp_all;done)|(simp_all;omega)|skip
def Ac{s:ag}{p:ag×ag}(h:ew 10 s=some p):p.2.length<s.length/\s.drop (s.length - p.2.length)=p.2/\p.1.length<s.length:=by
 have he:=Ep h;have hl:=dA List.length he;simp at hl;refine⟨by omega,?_,by omega⟩;have:s.length - p.2.length=(p.1++[10]).length:=by simp;omega
 rw[this,he];have e:p.1++10::p.2=(p.1++[10])++p.2:=by simp
 rw[e,vI]
end M
set_option maxHeartbeats 4000000
namespace M
open Go
variable [Lb]
def yV:ag:=[112,97,116,104]
def yS:ag:=[98,101,108,111,119]
def yT:ag:=[102,105,101,108,100]
def Ip(k:Int):ag:=if k=1 then yV else if k=2 then yS else yT
def xg(w:ag):Int:=if w=yV then 1 else if w=yS then 2 else if w=yT then 3 else 0
def iA(b:Bn):ag:=if dW b=true then [98,97,110]++32::(Ip b.kind++32::(en b.t++32::(b.a++if b.kind=3 then 10::b.b else []))) else []
def WE{b:Bn}(h:dW b=true):b.kind=1\/b.kind=2\/b.kind=3:=by
 unfold dW at h;by_cases h1:b.kind=1;·exact Or.inl h1
 by_cases h2:b.kind=2;·exact Or.inr (Or.inl h2)
 by_cases h3:b.kind=3;·exact Or.inr (Or.inr h3)
 simp[h1,h2,h3] at h
def OV(b:Bn)(hb:aW b<=1073741824):ev LI TT 126 [.agg (cu b)]=some (.str ⟨(iA b).toArray⟩,[.dead]):=by
 rw[aq (b:=Cd) (rs:=[.t 2]) (n:=1) rfl rfl];obtain⟨kd,a0,b0,t0⟩:=b;have hw:aW ⟨kd,a0,b0,t0⟩=a0.length+b0.length:=rfl;have l1:=uJ t0;unfold iA;have u1:=Eb ⟨kd,a0,b0,t0⟩ hb;try simp at u1
 have u2:=rH t0;try simp at u2
 by_cases g:dW ⟨kd,a0,b0,t0⟩=true;rotate_left;·simp -implicitDefEqProofs [Cd,u1,u2,g]
 rw[g] at u1;rcases WE g with h|h|h;all_goals simp only at h
 all_goals subst h
 all_goals
 simp -implicitDefEqProofs [Cd,u1,u2,g,Ip,yV,yS,yT,cK,cH,cJ,cy,jS,L9];all_goals (try simp only[*,not_false_eq_true,eL,oa])
 all_goals (repeat rw[aA (by omega)])
 all_goals (try simp)
 all_goals first|done|omega|(refine⟨by omega,by omega,?_⟩;rw[show (⟨#[10]⟩:ByteArray)=⟨([10]:ag).toArray⟩ from rfl,jS,jS];simp;done)|skip
end M
set_option maxHeartbeats 4000000
namespace M
open Go
variable [Lb]
def j0:List ag:=[yV,yS,yT]
def BB(w:ag)(i:Nat)(g:Int)(b:ag):Int:=if b=w then ((1+i:Nat):Int) else g
def adM(w:ag):foldI (BB w) 0 j0 0=xg w:=by
 unfold xg BB;simp only[j0,foldI];by_cases h1:w=yV;·subst h1;rfl
 by_cases h2:w=yS;·subst h2;rfl
 by_cases h3:w=yT;·subst h3;rfl
 simp[h1,h2,h3,ze h1,ze h2,ze h3,eq_comm (b:=w)]
def Vh(s w0 w1 w2 w3 v:ag)(g:Int)(hinv:True):aJ (ak (ev LI TT) (au TT) Cb) [(0,.str ⟨s.toArray⟩),(2,.ptr .own [.int .i64 0,.str ⟨#[]⟩,.str ⟨#[]⟩,.int .i64 0]),(6,.ptr .own [.int .i64 g,.str ⟨#[]⟩,.str ⟨v.toArray⟩,.int .i64 0]),(7,.row .own 1 ([w0,w1,w2,w3].map eS)),(8,.row .own 1 (([]::j0).map eS)),(9,.int .i64 ((1+0:Nat):Int))]=some (.exit 0,[(0,.str ⟨s.toArray⟩),(2,.ptr .own [.int .i64 0,.str ⟨#[]⟩,.str ⟨#[]⟩,.int .i64 0]),(6,.ptr .own [.int .i64 (foldI (BB w1) 0 (j0) g),.str ⟨#[]⟩,.str ⟨v.toArray⟩,.int .i64 0]),(7,.row .own 1 ([w0,w1,w2,w3].map eS)),(8,.row .own 1 (([]::j0).map eS)),(9,.int .i64 4),(33,.bool false)]):=by
 refine kT (f:=ak (ev LI TT) (au TT) Cb) (j0) (λi (g:Int)=>[(0,.str ⟨s.toArray⟩),(2,.ptr .own [.int .i64 0,.str ⟨#[]⟩,.str ⟨#[]⟩,.int .i64 0]),(6,.ptr .own [.int .i64 g,.str ⟨#[]⟩,.str ⟨v.toArray⟩,.int .i64 0]),(7,.row .own 1 ([w0,w1,w2,w3].map eS)),(8,.row .own 1 (([]::j0).map eS)),(9,.int .i64 ((1+i:Nat):Int))]) (BB w1) (λg=>[(0,.str ⟨s.toArray⟩),(2,.ptr .own [.int .i64 0,.str ⟨#[]⟩,.str ⟨#[]⟩,.int .i64 0]),(6,.ptr .own [.int .i64 g,.str ⟨#[]⟩,.str ⟨v.toArray⟩,.int .i64 0]),(7,.row .own 1 ([w0,w1,w2,w3].map eS)),(8,.row .own 1 (([]::j0).map eS)),(9,.int .i64 4),(33,.bool false)]) (λi (g:Int)=>True) g hinv (λi b g hi hl hinv=>?_) (λi b g hi hinv=>?_) (λg hinv=>?_)
 ·have hw:=bx i (by simp[j0] at hl;omega);obtain⟨_,rfl⟩:=aN.1 hi;have h3:i=0\/i=1\/i=2:=by simp[j0] at hl;omega
  by_cases hq:j0[i]=w1;all_goals rcases h3 with rfl|rfl|rfl
  all_goals simp only[j0,N6,UQ] at hq
  all_goals
  simp -implicitDefEqProofs [Cb,L8,hl,hw,BB,hq,j0,cy]
 ·trivial
 ·simp -implicitDefEqProofs [Cb,L8,j0]
def zB:Bn:=⟨0,[],[],0⟩
def rF(s:ag):ag×ag:=match ew 10 s with
 |some p=>p
 |none=>(s,[])
def vR(s v:ag)(ws:List ag):Bn×Bool:=match ws with
 |[_,w,t,a]=>if iA ⟨xg w,a,v,((bT t).getD 0:Nat)⟩=s then (⟨xg w,a,v,((bT t).getD 0:Nat)⟩,true) else (zB,false)
 |_=>(zB,false)
def je(s:ag):Bn×Bool:=vR s (rF s).2 (cw 32 (rF s).1)
def WO{s v:ag}{ws:List ag}(h:ws.length≠4):vR s v ws=(zB,false):=by
 unfold vR;split;·simp at h
 ·rfl
def R2{ws:List ag}(h:ws.length=4):∃a b c d,ws=[a,b,c,d]:=by
 match ws,h with
 |[a,b,c,d],_=>exact⟨a,b,c,d,rfl⟩
def WD(s:ag):(rF s).1.length<=s.length/\(rF s).2.length<=s.length:=by
 unfold rF;cases h:ew 10 s with
 |none=>simp
 |some p=>have:=dA List.length (Ep h);simp at this⊢;omega
def Xw(s:ag)(hb:s.length<=1048576):ev LI TT 208 [.str ⟨s.toArray⟩]=some (.aj [.agg (cu ((je s).1)),.bool ((je s).2)],[.dead]):=by
 rw[aq (b:=qK) (rs:=[.c 2 4 true 83,.t 3]) (n:=1) rfl rfl];have u1:=Ef s 0 (by omega) (by omega);have bl:=WD s;simp only[xk,xj,IP] at u1;unfold je
 have hX:∃l v e,rF s=(l,v)/\((e=-1/\v=[]/\l=s/\ev LI TT 209 [.str ⟨s.toArray⟩,.int .i64 0]=some (.aj [.str ⟨#[]⟩,.int .i64 (-1)],[.dead,.dead]))\/(∃m:Nat,e=(m:Int)/\m<=s.length/\s.length - m=v.length/\s.drop m=v/\ev LI TT 209 [.str ⟨s.toArray⟩,.int .i64 0]=some (.aj [.str ⟨l.toArray⟩,.int .i64 m],[.dead,.dead]))):=by
  unfold rF;cases hc:ew 10 s with
  |none=>rw[hc] at u1;exact⟨s,[],-1,rfl,Or.inl ⟨rfl,rfl,rfl,by simpa using u1⟩⟩
  |some p=>obtain⟨l,v⟩:=p;rw[hc] at u1;obtain⟨d1,d2,d3⟩:=Ac hc;exact⟨l,v,_,rfl,Or.inr ⟨s.length - v.length,rfl,by omega,by simp only at d1;omega,d2,by simpa using u1⟩⟩
 clear u1;obtain⟨l,v,e,he,hX⟩:=hX;rw[he] at bl⊢;simp only at bl⊢;have u2:=vV l (by omega);have hm:=yI 32 l;by_cases h4:(cw 32 l).length=4;rotate_left
 ·rw[WO h4];have EY:¬(((cw 32 l).length:Int)=4):=by omega
  try simp at u2
  rcases hX with ⟨rfl,rfl,rfl,u1⟩|⟨m,rfl,k1,k2,k3,u1⟩;·simp -implicitDefEqProofs [qK,u1,u2,EY,zB]
  ·have k4:¬((m:Int)<0):=by omega
   have k5:(m:Int)<=s.length:=by omega
   simp -implicitDefEqProofs [qK,u1,u2,EY,zB,k1,k2,k3,k4,k5,Lib.extract_mk]
 obtain⟨w0,w1,w2,w3,hw⟩:=R2 h4;rw[hw] at u2 hm⊢;have u3:=tT w2 (by have:=hm w2 (by simp);omega);have u4:=OV ⟨xg w1,w3,v,((bT w2).getD 0:Nat)⟩ (by have:=hm w3 (by simp);simp only[aW];omega);have u5:=Vh s w0 w1 w2 w3 v 0 trivial;rw[adM] at u5;obtain⟨n,hn⟩:∃n,(bT w2).getD 0=n:=⟨_,rfl⟩;unfold vR;simp only[hn] at u3 u4⊢;simp[j0,yV,yS,yT] at u2 u3 u4 u5;by_cases g:iA ⟨xg w1,w3,v,(n:Int)⟩=s;all_goals rcases hX with ⟨rfl,rfl,rfl,u1⟩|⟨m,rfl,k1,k2,k3,u1⟩
 ·simp -implicitDefEqProofs [qK,u1,u2,u3,u4,u5,eq_true g,zB]
 ·have k4:¬((m:Int)<0):=by omega
  have k5:(m:Int)<=s.length:=by omega
  simp -implicitDefEqProofs [qK,u1,u2,u3,u4,u5,eq_true g,zB,k1,k2,k3,k4,k5,Lib.extract_mk]
 ·simp -implicitDefEqProofs [qK,u1,u2,u3,u4,u5,eq_false g,zB]
 have k4:¬((m:Int)<0):=by omega
 have k5:(m:Int)<=s.length:=by omega
 simp -implicitDefEqProofs [qK,u1,u2,u3,u4,u5,eq_false g,zB,k1,k2,k3,k4,k5,Lib.extract_mk];all_goals (repeat' split)<;>first|rfl|omega|(simp_all;done)|(simp_all;omega)|skip
end M
set_option maxHeartbeats 4000000
namespace M
open Go
variable [Lb]
def afO(l:List ag)(k:Nat)(n:Nat)(h:∀s∈l,s.length<=n):(l.getD k []).length<=n:=by
 rw[jX];cases hk:l[k]? with
 |none=>simp
 |some s=>exact h s (lY hk)
def eT(c:aY)(l:List ag)(n:Nat)(h1:0<l.length)(h2:l.length<=1000)(h:∀s∈l,s.length<=n):∃(c':aY) (s:ag),s.length<=n/\ev LI TT 151 [.ptr .own (aL c),.row .af 1 (l.map eS)]=some (.str ⟨s.toArray⟩,[.ptr .own (aL c'),.dead]):=
 ⟨_,_,afO _ _ n h,Pd c l h1 (by omega)⟩
def fR(c:aY)(m:Int)(h1:0<m)(h2:m<=9223372036854775807):∃(c':aY) (n:Int),0<=n/\n<m/\ev LI TT 110 [.ptr .own (aL c),.int .i64 m]=some (.int .i64 n,[.ptr .own (aL c'),.dead]):=
 ⟨_,_,(tR c m h1 h2).1,(tR c m h1 h2).2,zW c m h2⟩
def yZ(c:aY)(m:Int)(h2:m<=9223372036854775807):∃(c':aY) (b:Bool),ev LI TT 73 [.ptr .own (aL c),.int .i64 m]=some (.bool b,[.ptr .own (aL c'),.dead]):=
 ⟨_,_,XT c m h2⟩
def y8(c:aY)(l:List Int)(h1:0<l.length)(h2:l.length<=1000):∃(c':aY) (s:Int),s∈l/\ev LI TT 124 [.ptr .own (aL c),.row .af 1 (l.map eI)]=some (.int .i64 s,[.ptr .own (aL c'),.dead]):=by refine⟨_,_,?_,XU c l h1 (by omega)⟩;have b:=tR c l.length (by omega) (by omega);rw[jX,cj (by omega)];exact cN _
def Is(c:aY):∃(c':aY) (n:Int),bI n/\ev LI TT 57 [.ptr .own (aL c)]=some (.int .i64 n,[.ptr .own (aL c')]):=by
 obtain⟨c1,b,u1⟩:=yZ c 15 (by omega);cases b;·obtain⟨c2,n,h1,h2,u2⟩:=fR c1 40 (by omega) (by omega);refine⟨c2,n,(by unfold bI;omega),?_⟩;rw[aq (b:=yE) (rs:=[.t 2]) (n:=1) rfl rfl];simp -implicitDefEqProofs [yE,u1,u2]
 ·obtain⟨c2,n,hn,u2⟩:=y8 c1 [-1,1000000,1000001,9223372036854775807,-9223372036854775808] (by simp) (by simp);refine⟨c2,n,(by unfold bI;simp at hn;omega),?_⟩;simp at u2;rw[aq (b:=yE) (rs:=[.t 2]) (n:=1) rfl rfl];simp -implicitDefEqProofs [yE,u1,u2,cK,cH]
def Us(c:aY)(t:Int):∃(c':aY) (b:Bn),aW b<=100/\ev LI TT 127 [.ptr .own (aL c),.int .i64 t]=some (.agg (cu b),[.ptr .own (aL c'),.dead]):=by
 obtain⟨c1,k,h1,h2,u1⟩:=fR c 3 (by omega) (by omega);by_cases g0:k=0;·subst g0;obtain⟨c2,s,hs,u2⟩:=eT c1 [[47],[47,97],[47,97,47,98],[47,98]] 4 (by simp) (by simp) (by simp);refine⟨c2,⟨1,s,[],t⟩,(by simp[aW];omega),?_⟩;simp at u2;rw[aq (b:=sY) (rs:=_) (n:=2) rfl rfl];simp -implicitDefEqProofs [sY,u1,u2,cK,cH,cJ]
 by_cases g1:k=1;·subst g1;obtain⟨c2,s,hs,u2⟩:=eT c1 [[47],[47,97],[47,98,47,99]] 4 (by simp) (by simp) (by simp);refine⟨c2,⟨2,s,[],t⟩,(by simp[aW];omega),?_⟩;simp at u2;rw[aq (b:=sY) (rs:=_) (n:=2) rfl rfl];simp -implicitDefEqProofs [sY,u1,u2,cK,cH,cJ]
 ·obtain⟨c2,s,hs,u2⟩:=eT c1 [[101,116,97,103],[120,45,97]] 4 (by simp) (by simp) (by simp);obtain⟨c3,s3,hs3,u3⟩:=eT c2 [[97],[98],[49]] 4 (by simp) (by simp) (by simp);refine⟨c3,⟨3,s,s3,t⟩,(by simp[aW];omega),?_⟩;simp at u2 u3;rw[aq (b:=sY) (rs:=_) (n:=2) rfl rfl];simp -implicitDefEqProofs [sY,u1,u2,u3,g0,g1,cK,cH,cJ]
def aj5(c:aY):∃(c':aY) (b:Bn),aW b<=200/\ev LI TT 146 [.ptr .own (aL c)]=some (.agg (cu b),[.ptr .own (aL c')]):=by
 obtain⟨c1,k1,_,_,u1⟩:=fR c 40 (by omega) (by omega);obtain⟨c2,⟨kd,a,b,t⟩,hb,u2⟩:=Us c1 k1;obtain⟨c3,k,h1,h2,u3⟩:=fR c2 15 (by omega) (by omega);simp at u2;simp only[aW] at hb;by_cases g0:k=0;·subst g0;obtain⟨c4,n,h4,h5,u4⟩:=fR c3 6 (by omega) (by omega);have hw:IntKind.i64.wrap (n - 1)=n - 1:=cy (by omega) (by omega);refine⟨c4,⟨n - 1,a,b,t⟩,(by simp only[aW];omega),?_⟩;rw[aq (b:=mL) (rs:=_) (n:=1) rfl rfl];simp -implicitDefEqProofs [mL,u1,u2,u3,u4,hw]
 by_cases g1:k=1;·subst g1;obtain⟨c4,n,h4,u4⟩:=Is c3;refine⟨c4,⟨kd,a,b,n⟩,(by simp only[aW];omega),?_⟩;rw[aq (b:=mL) (rs:=_) (n:=1) rfl rfl];simp -implicitDefEqProofs [mL,u1,u2,u3,u4]
 by_cases g2:k=2;·subst g2;obtain⟨c4,x,hx,u4⟩:=eT c3 [[],[65],[47,32]] 2 (by simp) (by simp) (by simp);simp at u4;refine⟨c4,⟨kd,x,b,t⟩,(by simp only[aW];omega),?_⟩;rw[aq (b:=mL) (rs:=_) (n:=1) rfl rfl];simp -implicitDefEqProofs [mL,u1,u2,u3,u4,cK,cH,cJ]
 by_cases g3:k=3;·subst g3;obtain⟨c4,x,hx,u4⟩:=eT c3 [[],[113],[32,113]] 2 (by simp) (by simp) (by simp);simp at u4;refine⟨c4,⟨kd,a,x,t⟩,(by simp only[aW];omega),?_⟩;rw[aq (b:=mL) (rs:=_) (n:=1) rfl rfl];simp -implicitDefEqProofs [mL,u1,u2,u3,u4,cK,cH,cJ]
 refine⟨c3,⟨kd,a,b,t⟩,(by simp only[aW];omega),?_⟩;rw[aq (b:=mL) (rs:=_) (n:=1) rfl rfl];simp -implicitDefEqProofs [mL,u1,u2,u3,g0,g1,g2,g3]
end M
set_option maxHeartbeats 4000000
namespace M
open Go
variable [Lb]
def Dk:List ag:=[[32],[44],[97],[90],[55],[45],[61],[120],[58],[1],[64],[91]]
def ag8(k:Nat)(h:k<12):∃b,Dk.getD k []=[b]:=by
 have:k=0\/k=1\/k=2\/k=3\/k=4\/k=5\/k=6\/k=7\/k=8\/k=9\/k=10\/k=11:=by omega
 rcases this with rfl|rfl|rfl|rfl|rfl|rfl|rfl|rfl|rfl|rfl|rfl|rfl<;>exact⟨_,rfl⟩
def akd(c:aY):∃(c':aY) (t:ag),t.length<=100/\ev LI TT 228 [.ptr .own (aL c)]=some (.str ⟨t.toArray⟩,[.ptr .own (aL c')]):=by
 obtain⟨⟨⟨c',i⟩,out⟩,⟨hs,hi⟩,e⟩:=ad6 (f:=ak (ev LI TT) (au TT) Ht)
  (λ(g:(aY×Nat)×ag)=>[(0,.aB 100000 [] 0 0),(3,.row .own 1 (g.2.map eU)),(4,.int .i64 g.1.2),(100000,.ptr .own (aL g.1.1))])
  (λg=>200 - g.1.2) (λg=>g.2.length=g.1.2/\g.1.2<=20)
  (λg=>[(0,.aB 100000 [] 0 0),(3,.row .own 1 (g.2.map eU)),(4,.int .i64 g.1.2),(9,.bool false),(100000,.ptr .own (aL g.1.1))])
  (λg hg=>by
   obtain⟨⟨c,i⟩,out⟩:=g;obtain⟨h1,h2⟩:=hg;simp only at h1 h2;have b:=tR c 14 (by omega) (by omega);have e1:=zW c 14 (by omega);obtain⟨v,hv⟩:∃v,kG c 14=v:=⟨_,rfl⟩;rw[hv] at e1 b;have e2:=Pd (jh c 14) Dk (by decide) (by decide);have b2:=tR (jh c 14) 12 (by omega) (by omega);obtain⟨x,hx⟩:=ag8 (kG (jh c 14) 12).toNat (by omega);have e3:(kG (jh c 14) Dk.length)=kG (jh c 14) 12:=rfl;have e4:(jh (jh c 14) Dk.length)=jh (jh c 14) 12:=rfl;rw[e3,e4,hx] at e2;simp[Dk] at e2;by_cases h:(i:Int)<v;·right;have hw:=bx i (by omega);refine⟨((jh (jh c 14) 12,i+1),out++[x]),⟨by simp[h1],by simp only;omega⟩,by simp only;omega,?_⟩;simp -implicitDefEqProofs [Ht,MS,e1,e2,h,hw,cD,h1,(by omega:i+1<=140737488355328)]
   ·left;refine⟨((jh c 14,i),out),⟨h1,h2⟩,?_⟩;simp -implicitDefEqProofs [Ht,MS,e1,h])
  ((c,0),[]) ⟨rfl,by simp⟩
 refine⟨c',out,by simp only at hs hi;omega,?_⟩;rw[aq (b:=Hu) (rs:=[.t 2]) (n:=1) rfl rfl];have hu:qX (out.map eU)=some out:=Nk out;simp only at hs hi;simp at e;simp -implicitDefEqProofs [Hu,e,hu,(by omega:out.length<=9223372036854775807)]
end M
set_option maxHeartbeats 4000000
namespace M
open Go
variable [Lb]
def uE{xt:Nat}{γ:Type}{f:ah->cG}(st:γ->ah)(μ:γ->Nat)(Inv:γ->Prop)(E:γ->ah)
  (h:∀g,Inv g->(∃g',Inv g'/\f (st g)=some (.exit xt,E g'))\/∃g',Inv g'/\μ g'<μ g/\f (st g)=some (.normal,st g'))(g:γ)(hg:Inv g):∃g',Inv g'/\aJ f (st g)=some (.exit xt,E g'):=by
 suffices H:∀n g,μ g=n->Inv g->∃g',Inv g'/\aJ f (st g)=some (.exit xt,E g') from H _ g rfl hg
 intro n;induction n using Nat.strongRecOn with
 |ind n ih=>
  intro g hn hI;rcases h g hI with ⟨g',h1,h2⟩|⟨g',h1,h2,h3⟩;·exact⟨g',h1,by rw[dS,h2];rfl⟩
  ·obtain⟨g2,h4,h5⟩:=ih _ (by omega) g' rfl h1;exact⟨g2,h4,by rw[dS,h3];exact h5⟩
def Sf{f:ah->cG}{s s':ah}(h:f s=f s'):aJ f s=aJ f s':=by rw[dS,h,<-dS]
def Ns{l:List aE}{m:Nat}(h:∀f∈l,aF f<=100)(hl:l.length<=m):wL aF l<=m*101:=by
 have:wL aF l<=l.length*101:=by
  clear hl;induction l with
  |nil=>simp[wL]
  |cons a l ih=>have h1:=ih λf hf=>h f (cE _ hf);have h2:=h a bE;simp only[wL,cO,bg,pF] at h1⊢;omega
 have:l.length*101<=m*101:=n8 _ hl;omega
def Nv(c:aY):∃(c':aY) (f:aE),aF f<=100/\ev LI TT 224 [.ptr .own (aL c)]=some (.agg (aH f),[.ptr .own (aL c')]):=by
 obtain⟨c1,k,h1,h2,u1⟩:=fR c 9 (by omega) (by omega);by_cases g0:k=0;·subst g0;obtain⟨c2,s,hs,u2⟩:=eT c1 [[109,97,120,45,97,103,101,61,53],[109,97,120,45,97,103,101,61,50,48],[110,111,45,115,116,111,114,101],[110,111,45,99,97,99,104,101],[112,114,105,118,97,116,101],[109,97,120,45,97,103,101,61,57,44,32,109,117,115,116,45,114,101,118,97,108,105,100,97,116,101],[109,97,120,45,97,103,101,61,120],[77,65,88,45,65,71,69,61,51]] 30 (by simp) (by simp) (by simp);refine⟨c2,⟨[99,97,99,104,101,45,99,111,110,116,114,111,108],s⟩,(by simp[aF];omega),?_⟩;simp at u2;rw[aq (b:=iV) (rs:=_) (n:=1) rfl rfl];simp -implicitDefEqProofs [iV,u1,u2,cK,cH,cJ]
 by_cases g1:k=1;·subst g1;obtain⟨c2,s,hs,u2⟩:=eT c1 [[97],[98]] 30 (by simp) (by simp) (by simp);refine⟨c2,⟨[101,116,97,103],s⟩,(by simp[aF];omega),?_⟩;simp at u2;rw[aq (b:=iV) (rs:=_) (n:=1) rfl rfl];simp -implicitDefEqProofs [iV,u1,u2,cK,cH,cJ]
 by_cases g2:k=2;·subst g2;obtain⟨c2,s,hs,u2⟩:=eT c1 [[108,97,110,103],[108,97,110,103,44,32,107,105,110,100],[42]] 30 (by simp) (by simp) (by simp);refine⟨c2,⟨[118,97,114,121],s⟩,(by simp[aF];omega),?_⟩;simp at u2;rw[aq (b:=iV) (rs:=_) (n:=1) rfl rfl];simp -implicitDefEqProofs [iV,u1,u2,cK,cH,cJ]
 by_cases g3:k=3;·subst g3;obtain⟨c2,s,hs,u2⟩:=eT c1 [[100,101],[101,110]] 30 (by simp) (by simp) (by simp);refine⟨c2,⟨[108,97,110,103],s⟩,(by simp[aF];omega),?_⟩;simp at u2;rw[aq (b:=iV) (rs:=_) (n:=1) rfl rfl];simp -implicitDefEqProofs [iV,u1,u2,cK,cH,cJ]
 by_cases g4:k=4;·subst g4;obtain⟨c2,s,hs,u2⟩:=eT c1 [[120],[121]] 30 (by simp) (by simp) (by simp);refine⟨c2,⟨[107,105,110,100],s⟩,(by simp[aF];omega),?_⟩;simp at u2;rw[aq (b:=iV) (rs:=_) (n:=1) rfl rfl];simp -implicitDefEqProofs [iV,u1,u2,cK,cH,cJ]
 by_cases g5:k=5;·subst g5;obtain⟨c2,s,hs,u2⟩:=eT c1 [[48],[51],[57,48],[120]] 30 (by simp) (by simp) (by simp);refine⟨c2,⟨[97,103,101],s⟩,(by simp[aF];omega),?_⟩;simp at u2;rw[aq (b:=iV) (rs:=_) (n:=1) rfl rfl];simp -implicitDefEqProofs [iV,u1,u2,cK,cH,cJ]
 by_cases g6:k=6;·subst g6;obtain⟨c2,s,hs,u2⟩:=eT c1 [[97],[98]] 30 (by simp) (by simp) (by simp);refine⟨c2,⟨[105,102,45,110,111,110,101,45,109,97,116,99,104],s⟩,(by simp[aF];omega),?_⟩;simp at u2;rw[aq (b:=iV) (rs:=_) (n:=1) rfl rfl];simp -implicitDefEqProofs [iV,u1,u2,cK,cH,cJ]
 ·obtain⟨c2,s,hs,u2⟩:=eT c1 [[120,45,97],[120,45,98],[100,97,116,101]] 30 (by simp) (by simp) (by simp);obtain⟨c3,v,hv,u3⟩:=eT c2 [[49],[116,119,111,32,119,111,114,100,115],[113]] 30 (by simp) (by simp) (by simp);refine⟨c3,⟨s,v⟩,(by simp[aF];omega),?_⟩;simp at u2 u3;rw[aq (b:=iV) (rs:=_) (n:=1) rfl rfl];simp -implicitDefEqProofs [iV,u1,u2,u3,g0,g1,g2,g3,g4,g5,g6,cK,cH,cJ]
def Ut(c:aY):∃(c':aY) (fs:List aE),fs.length<=5/\(∀f∈fs,aF f<=100)/\ev LI TT 223 [.ptr .own (aL c)]=some (.row .own 2 (fs.map aH),[.ptr .own (aL c')]):=by
 obtain⟨⟨⟨c',i⟩,out⟩,⟨h1,h2,h3⟩,e⟩:=uE (xt:=0) (f:=ak (ev LI TT) (au TT) C0)
  (λ(g:(aY×Nat)×List aE)=>[(0,.aB 100000 [] 0 0),(3,.row .own 2 (g.2.map aH)),(4,.int .i64 g.1.2),(100000,.ptr .own (aL g.1.1))])
  (λg=>20 - g.1.2) (λg=>g.2.length<=g.1.2/\g.1.2<=5/\∀f∈g.2,aF f<=100)
  (λg=>[(0,.aB 100000 [] 0 0),(3,.row .own 2 (g.2.map aH)),(4,.int .i64 g.1.2),(10,.bool false),(100000,.ptr .own (aL g.1.1))])
  (λg hg=>by
   obtain⟨⟨c,i⟩,out⟩:=g;obtain⟨h1,h2,h3⟩:=hg;simp only at h1 h2 h3;obtain⟨c1,v,hv0,hv,e1⟩:=fR c 5 (by omega) (by omega);by_cases h:(i:Int)<v
   ·right;have hw:=bx i (by omega);obtain⟨c2,f,hf,e2⟩:=Nv c1;have e3:=vU out f.name (by omega);try simp at e2
    try simp at e3
    have h8:(out.length+1)*32<=140737488355328:=by omega
    by_cases ha:gd (fB out f.name)<0
    ·refine⟨((c2,i+1),out++[f]),⟨by simp;omega,by simp only;omega,λx hx=>?_⟩,by simp only;omega,?_⟩
     ·rcases dK.1 hx with hx|hx;·exact h3 x hx
      ·simp at hx;rw[hx];exact hf
     ·simp -implicitDefEqProofs [C0,HD,e1,e2,e3,h,hw,ha,cD,h8]
    ·refine⟨((c2,i+1),out),⟨by simp only;omega,by simp only;omega,h3⟩,by simp only;omega,?_⟩;simp -implicitDefEqProofs [C0,HD,e1,e2,e3,h,hw,ha,cD,h8]
   ·left;refine⟨((c1,i),out),⟨h1,h2,h3⟩,?_⟩;simp -implicitDefEqProofs [C0,HD,e1,h])
  ((c,0),[]) ⟨by simp,by simp,by simp⟩
 refine⟨c',out,by simp only at h1 h2;omega,h3,?_⟩;rw[aq (b:=HE) (rs:=_) (n:=1) rfl rfl];simp at e;simp -implicitDefEqProofs [HE,e]
def akf(c:aY):∃(c':aY) (fs:List aE),fs.length<=10/\(∀f∈fs,aF f<=100)/\ev LI TT 152 [.ptr .own (aL c)]=some (.row .own 2 (fs.map aH),[.ptr .own (aL c')]):=by
 obtain⟨c1,fs,h1,h2,u1⟩:=Ut c;obtain⟨c2,k,k1,k2,u2⟩:=fR c1 15 (by omega) (by omega);try simp at u1
 by_cases g0:k=0
 ·subst g0;obtain⟨c3,f,hf,u3⟩:=Nv c2;obtain⟨c4,f2,ic,u4⟩:=Nv c3;refine⟨c4,fs++[f,f2],by simp;omega,λx hx=>?_,?_⟩
  ·rcases dK.1 hx with hx|hx;·exact h2 x hx
   ·simp at hx;rcases hx with rfl|rfl<;>assumption
  ·simp at u3 u4;have h8:(fs.length+2)*32<=140737488355328:=by omega
   rw[aq (b:=o9) (rs:=_) (n:=1) rfl rfl];simp -implicitDefEqProofs [o9,u1,u2,u3,u4,cD,h8]
 by_cases g1:k=1
 ·subst g1;obtain⟨c3,n,hn,u3⟩:=eT c2 [[],[65],[99,111,110,116,101,110,116,45,108,101,110,103,116,104]] 30 (by simp) (by simp) (by simp);obtain⟨c4,v,hv,u4⟩:=eT c3 [[],[32,97],[49]] 30 (by simp) (by simp) (by simp);refine⟨c4,fs++[⟨n,v⟩],by simp;omega,λx hx=>?_,?_⟩
  ·rcases dK.1 hx with hx|hx;·exact h2 x hx
   ·simp at hx;rw[hx];simp[aF];omega
  ·simp at u3 u4;have h8:(fs.length+1)*32<=140737488355328:=by omega
   rw[aq (b:=o9) (rs:=_) (n:=1) rfl rfl];simp -implicitDefEqProofs [o9,u1,u2,u3,u4,cD,h8,cK,cH,cJ]
 by_cases g2:k=2
 ·subst g2
  obtain⟨⟨c',out⟩,⟨m1,m2⟩,e⟩:=uE (xt:=1) (f:=ak (ev LI TT) (au TT) s8)
   (λ(g:aY×List aE)=>[(0,.aB 100000 [] 0 0),(3,.row .own 2 (g.2.map aH)),(100000,.ptr .own (aL g.1))])
   (λg=>20 - g.2.length) (λg=>g.2.length<=9/\∀f∈g.2,aF f<=100)
   (λg=>[(0,.aB 100000 [] 0 0),(3,.row .own 2 (g.2.map aH)),(36,.bool false),(100000,.ptr .own (aL g.1))])
   (λg hg=>by
    obtain⟨c,out⟩:=g;obtain⟨h1,h2⟩:=hg;simp only at h1 h2;obtain⟨c',v,v0,v1,e1⟩:=fR c 2 (by omega) (by omega);have hw:IntKind.i64.wrap (8+v)=8+v:=cy (by omega) (by omega);by_cases h:(out.length:Int)<8+v
    ·right;have e2:=rH (out.length:Int);have hl:=uJ (out.length:Int);have h8:(out.length+1)*32<=140737488355328:=by omega
     have hx:1+(en (out.length:Int)).length<=9223372036854775807:=by omega
     have hs:(⟨#[110]⟩:ByteArray)++⟨(en (out.length:Int)).toArray⟩=⟨(110::en (out.length:Int)).toArray⟩:=by rw[show (⟨#[110]⟩:ByteArray)=⟨([110]:ag).toArray⟩ from rfl,jS];simp
     refine⟨(c',out++[⟨110::en (out.length:Int),[118]⟩]),⟨by simp;omega,λx hx=>?_⟩,by simp;omega,?_⟩
     ·rcases dK.1 hx with hx|hx;·exact h2 x hx
      ·simp at hx;rw[hx];simp[aF];omega
     ·simp -implicitDefEqProofs [s8,C3,e1,e2,h,hw,cD,h8,hx,hs]
    ·left;refine⟨(c',out),⟨h1,h2⟩,?_⟩;simp -implicitDefEqProofs [s8,C3,e1,h,hw])
   (c2,fs) ⟨by simp only;omega,h2⟩
  have hst:ak (ev LI TT) (au TT) s8 [(0,.aB 100000 [] 0 0),(3,.row .own 2 (fs.map aH)),(29,.bool true),(100000,.ptr .own (aL c2))]=ak (ev LI TT) (au TT) s8 [(0,.aB 100000 [] 0 0),(3,.row .own 2 (fs.map aH)),(100000,.ptr .own (aL c2))]:=by
   obtain⟨c',v,v0,v1,e1⟩:=fR c2 2 (by omega) (by omega);have hw:IntKind.i64.wrap (8+v)=8+v:=cy (by omega) (by omega);by_cases h:(fs.length:Int)<8+v
   ·have e2:=rH (fs.length:Int);have hl:=uJ (fs.length:Int);have h8:(fs.length+1)*32<=140737488355328:=by omega
    have hx:1+(en (fs.length:Int)).length<=9223372036854775807:=by omega
    simp -implicitDefEqProofs [s8,C3,e1,e2,h,hw,cD,h8,hx]
   ·simp -implicitDefEqProofs [s8,C3,e1,h,hw]
  have uo:=Sf hst;rw[e] at uo;refine⟨c',out,by simp only at m1;omega,m2,?_⟩;try simp at uo
  rw[aq (b:=o9) (rs:=_) (n:=1) rfl rfl];simp -implicitDefEqProofs [o9,u1,u2,uo]
 ·refine⟨c2,fs,by omega,h2,?_⟩;rw[aq (b:=o9) (rs:=_) (n:=1) rfl rfl];simp -implicitDefEqProofs [o9,u1,u2,g0,g1,g2]
def Uu(c:aY):∃(c':aY) (t:ag),t.length<=100/\ev LI TT 165 [.ptr .own (aL c)]=some (.str ⟨t.toArray⟩,[.ptr .own (aL c')]):=by
 obtain⟨c1,b,u1⟩:=yZ c 2 (by omega);cases b
 ·obtain⟨c2,t,ht,u2⟩:=akd c1;refine⟨c2,t,ht,?_⟩;try simp at u2
  rw[aq (b:=yx) (rs:=_) (n:=1) rfl rfl];simp -implicitDefEqProofs [yx,u1,u2]
 ·obtain⟨c2,t,ht,u2⟩:=eT c1 [[],[104,101,108,108,111],[13,10,13,10],[97,0,98],[111,110,101,32,116,119,111]] 100 (by simp) (by simp) (by simp);refine⟨c2,t,ht,?_⟩;simp at u2;rw[aq (b:=yx) (rs:=_) (n:=1) rfl rfl];simp -implicitDefEqProofs [yx,u1,u2,cK,cH,cJ]
def akh(c:aY):∃(c':aY) (r:ck),bQ r<=2000/\bI r.status/\ev LI TT 198 [.ptr .own (aL c)]=some (.agg (jC .own r),[.ptr .own (aL c')]):=by
 obtain⟨c1,st,hst,u1⟩:=y8 c [200,200,200,200,404,500,304] (by simp) (by simp);obtain⟨c2,fs,h1,h2,u2⟩:=Ut c1;obtain⟨c3,t,ht,u3⟩:=Uu c2;obtain⟨c4,b,u4⟩:=yZ c3 2 (by omega);have hw:=Ns h2 h1;have hs:bI st:=by unfold bI;simp at hst;omega
 try simp at u1
 try simp at u2
 try simp at u3
 cases b;·refine⟨c4,⟨st,fs,t⟩,by simp only[bQ];omega,hs,?_⟩;rw[aq (b:=yz) (rs:=_) (n:=1) rfl rfl];simp -implicitDefEqProofs [yz,u1,u2,u3,u4,cK,cH,cJ]
 ·obtain⟨c5,v,hv,u5⟩:=eT c4 [[109,97,120,45,97,103,101,61,53],[109,97,120,45,97,103,101,61,50,48],[109,97,120,45,97,103,101,61,57]] 30 (by simp) (by simp) (by simp);have u6:=O1 fs [99,97,99,104,101,45,99,111,110,116,114,111,108] v (by omega);have hp:=S3 fs [99,97,99,104,101,45,99,111,110,116,114,111,108] v;refine⟨c5,⟨st,sM fs [99,97,99,104,101,45,99,111,110,116,114,111,108] v,t⟩,?_,hs,?_⟩;·simp only[bQ];simp at hp;omega
  ·simp at u5;try simp at u6
   rw[aq (b:=yz) (rs:=_) (n:=1) rfl rfl];simp -implicitDefEqProofs [yz,MU,MW,u1,u2,u3,u4,u5,u6,cK,cH,cJ]
end M
set_option maxHeartbeats 8000000
namespace M
open Go
variable [Lb]
def Uv(c:aY):∃(c':aY) (q:Rq),dh q<=2000/\bI q.method/\ev LI TT 75 [.ptr .own (aL c)]=some (.agg (dw .own q),[.ptr .own (aL c')]):=by
 obtain⟨c1,m,hm,u1⟩:=y8 c [1,1,1,1,2,3,4] (by simp) (by simp);obtain⟨c2,p,hp,u2⟩:=eT c1 [[47],[47,97],[47,97,47,98],[47,98]] 10 (by simp) (by simp) (by simp);have Rf:bI m:=by unfold bI;simp at hm;omega
 obtain⟨⟨⟨c3,i⟩,out⟩,⟨h1,h2,h3⟩,e⟩:=uE (xt:=0) (f:=ak (ev LI TT) (au TT) tc)
  (λ(g:(aY×Nat)×List aE)=>[(0,.aB 100000 [] 0 0),(2,.ptr .own [.int .i64 0,.str ⟨#[]⟩,.row .own 2 [],.str ⟨#[]⟩]),(3,.ptr .own (dw .own ⟨m,p,g.2,[]⟩)),(4,.int .i64 g.1.2),(100000,.ptr .own (aL g.1.1))])
  (λg=>20 - g.1.2) (λg=>g.2.length<=g.1.2/\g.1.2<=4/\∀f∈g.2,aF f<=100)
  (λg=>[(0,.aB 100000 [] 0 0),(2,.ptr .own [.int .i64 0,.str ⟨#[]⟩,.row .own 2 [],.str ⟨#[]⟩]),(3,.ptr .own (dw .own ⟨m,p,g.2,[]⟩)),(4,.int .i64 g.1.2),(17,.bool false),(100000,.ptr .own (aL g.1.1))])
  (λg hg=>by
   obtain⟨⟨c,i⟩,out⟩:=g;obtain⟨h1,h2,h3⟩:=hg;simp only at h1 h2 h3;obtain⟨c1,v,hv0,hv,e1⟩:=fR c 4 (by omega) (by omega);by_cases h:(i:Int)<v
   ·right;have hw:=bx i (by omega);obtain⟨c2,f,hf,e2⟩:=eT c1 [[108,97,110,103],[107,105,110,100],[99,97,99,104,101,45,99,111,110,116,114,111,108],[105,102,45,110,111,110,101,45,109,97,116,99,104],[120,45,97]] 20 (by simp) (by simp) (by simp);have e3:=vU out f (by omega);simp at e2;try simp at e3
    have h8:(out.length+1)*32<=140737488355328:=by omega
    by_cases ha:gd (fB out f)<0
    ·obtain⟨c3,w,fk,e4⟩:=eT c2 [[100,101],[101,110]] 20 (by simp) (by simp) (by simp);simp at e4;by_cases g1:f=[107,105,110,100]
     ·obtain⟨c4,w2,ur,e5⟩:=eT c3 [[120],[121]] 20 (by simp) (by simp) (by simp);simp at e5;subst g1;refine⟨((c4,i+1),out++[⟨[107,105,110,100],w2⟩]),⟨by simp;omega,by simp only;omega,λx hx=>?_⟩,by simp only;omega,?_⟩
      ·rcases dK.1 hx with hx|hx;·exact h3 x hx
       ·simp at hx;rw[hx];simp[aF];omega
      ·simp -implicitDefEqProofs [tc,vt,e1,e2,e3,e4,e5,h,hw,ha,cD,h8,cK,cH,cJ]
     by_cases g2:f=[99,97,99,104,101,45,99,111,110,116,114,111,108]
     ·obtain⟨c4,w2,ur,e5⟩:=eT c3 [[110,111,45,99,97,99,104,101],[110,111,45,115,116,111,114,101],[109,97,120,45,97,103,101,61,51]] 20 (by simp) (by simp) (by simp);simp at e5;subst g2;refine⟨((c4,i+1),out++[⟨[99,97,99,104,101,45,99,111,110,116,114,111,108],w2⟩]),⟨by simp;omega,by simp only;omega,λx hx=>?_⟩,by simp only;omega,?_⟩
      ·rcases dK.1 hx with hx|hx;·exact h3 x hx
       ·simp at hx;rw[hx];simp[aF];omega
      ·simp -implicitDefEqProofs [tc,vt,e1,e2,e3,e4,e5,h,hw,ha,cD,h8,cK,cH,cJ]
     by_cases g3:f=[105,102,45,110,111,110,101,45,109,97,116,99,104]
     ·obtain⟨c4,w2,ur,e5⟩:=eT c3 [[97],[98]] 20 (by simp) (by simp) (by simp);simp at e5;subst g3;refine⟨((c4,i+1),out++[⟨[105,102,45,110,111,110,101,45,109,97,116,99,104],w2⟩]),⟨by simp;omega,by simp only;omega,λx hx=>?_⟩,by simp only;omega,?_⟩
      ·rcases dK.1 hx with hx|hx;·exact h3 x hx
       ·simp at hx;rw[hx];simp[aF];omega
      ·simp -implicitDefEqProofs [tc,vt,e1,e2,e3,e4,e5,h,hw,ha,cD,h8,cK,cH,cJ]
     ·refine⟨((c3,i+1),out++[⟨f,w⟩]),⟨by simp;omega,by simp only;omega,λx hx=>?_⟩,by simp only;omega,?_⟩
      ·rcases dK.1 hx with hx|hx;·exact h3 x hx
       ·simp at hx;rw[hx];simp[aF];omega
      ·simp -implicitDefEqProofs [tc,vt,e1,e2,e3,e4,h,hw,ha,cD,h8,cK,cH,cJ,g1,g2,g3]
    ·refine⟨((c2,i+1),out),⟨by simp only;omega,by simp only;omega,h3⟩,by simp only;omega,?_⟩;simp -implicitDefEqProofs [tc,vt,e1,e2,e3,h,hw,ha,cD,h8,cK,cH,cJ]
   ·left;refine⟨((c1,i),out),⟨h1,h2,h3⟩,?_⟩;simp -implicitDefEqProofs [tc,vt,e1,h])
  ((c2,0),[]) ⟨by simp,by simp,by simp⟩
 simp only at h1 h2 h3;have hwf:=Ns (m:=4) h3 (by omega);try simp at u1
 try simp at u2
 try simp at e
 by_cases g3:m=3
 ·obtain⟨c4,t,ht,u4⟩:=Uu c3;refine⟨c4,⟨m,p,out,t⟩,by simp only[dh];omega,Rf,?_⟩;try simp at u4
  rw[aq (b:=yy) (rs:=_) (n:=1) rfl rfl];simp -implicitDefEqProofs [yy,u1,u2,e,u4,eq_true g3,cK,cH,cJ]
 ·refine⟨c3,⟨m,p,out,[]⟩,by simp only[dh];simp;omega,Rf,?_⟩;rw[aq (b:=yy) (rs:=_) (n:=1) rfl rfl];simp -implicitDefEqProofs [yy,u1,u2,e,g3,cK,cH,cJ]
def rQ(fs:List aE)(n:ag):List aE:=(foldI (λi (g:List aE) b=>if ((i:Nat):Int)=gd (fB fs n) then g else g++[b]) 0 fs [])
def JI(a:Int):∀(fs:List aE) (i:Nat) (g:List aE),wL aF (foldI (λi (g:List aE) b=>if ((i:Nat):Int)=a then g else g++[b]) i fs g)<=wL aF g+wL aF fs/\(foldI (λi (g:List aE) b=>if ((i:Nat):Int)=a then g else g++[b]) i fs g).length<=g.length+fs.length
 |[],i,g=>by simp[foldI,wL]
 |f::fs,i,g=>by
  simp only[foldI];have h:=JI a fs (i+1) (if ((i:Nat):Int)=a then g else g++[f]);split at h
  ·rename_i hh;rw[aA hh];refine⟨iZ h.1 ?_,iZ h.2 ?_⟩;·simp only[wL,cO,bg,pF];omega
   ·simp only[cO];omega
  ·rename_i hh;rw[aC hh];refine⟨iZ h.1 ?_,iZ h.2 ?_⟩;·simp only[wL,cO,bg,pF,fK,iK,za,gS,gQ,IA];omega
   ·simp only[cO,fK,gS];omega
def PN(fs:List aE)(n:ag):wL aF (rQ fs n)<=wL aF fs:=by have:=(JI (gd (fB fs n)) fs 0 []).1;unfold rQ;simp[wL] at this⊢;exact this
def YB(fs:List aE)(n:ag):(rQ fs n).length<=fs.length:=by have:=(JI (gd (fB fs n)) fs 0 []).2;unfold rQ;simpa using this
def Vm(fs:List aE)(a:Int)(hb:fs.length<=1000000)(g:List aE)(hinv:g.length<=0):aJ (ak (ev LI TT) (au TT) xP) [(0,.row .af 2 (fs.map aH)),(5,.int .i64 a),(6,.row .own 2 (g.map aH)),(7,.int .i64 0)]=some (.exit 0,[(0,.row .af 2 (fs.map aH)),(5,.int .i64 a),(6,.row .own 2 ((foldI (λi g b=>if ((i:Nat):Int)=a then g else g++[b]) 0 (fs) g).map aH)),(7,.int .i64 (fs).length),(15,.bool false)]):=by
 refine kT (f:=ak (ev LI TT) (au TT) xP) (fs) (λi (g:List aE)=>[(0,.row .af 2 (fs.map aH)),(5,.int .i64 a),(6,.row .own 2 (g.map aH)),(7,.int .i64 i)]) (λi g b=>if ((i:Nat):Int)=a then g else g++[b]) (λg=>[(0,.row .af 2 (fs.map aH)),(5,.int .i64 a),(6,.row .own 2 (g.map aH)),(7,.int .i64 (fs).length),(15,.bool false)]) (λi (g:List aE)=>g.length<=i) g hinv (λi b g hi hl hinv=>?_) (λi b g hi hinv=>?_) (λg hinv=>?_)
 ·have hw:=bx i (by first|omega|(simp at hl;omega));obtain⟨_,rfl⟩:=aN.1 hi;have h8:(g.length+1)*32<=140737488355328:=by omega
  by_cases ha:((i:Nat):Int)=a;·subst ha;simp -implicitDefEqProofs [xP,Gv,hl,hw]
  simp -implicitDefEqProofs [xP,Gv,hl,hw,ha,cD,h8];all_goals (repeat' split)<;>first|rfl|omega|(simp_all;done)|(simp_all;omega)|skip
 ·split<;>(try simp)<;>omega
 ·simp -implicitDefEqProofs [xP,Gv]
def OY(fs:List aE)(n:ag)(hb:fs.length<=1000000):ev LI TT 199 [.row .af 2 (fs.map aH),.str ⟨n.toArray⟩]=some (.row .own 2 ((rQ fs n).map aH),[.dead,.dead]):=by
 rw[aq (b:=Gw) (rs:=[.t 4]) (n:=2) rfl rfl];unfold rQ;have u1:=vU fs n (by omega);try simp at u1
 have u2:=Vm fs (gd (fB fs n)) hb [] (by simp);try simp at u2
 simp -implicitDefEqProofs [Gw,u1,u2];all_goals (repeat' split)<;>first|rfl|omega|(simp_all;done)|(simp_all;omega)|skip
end M
set_option maxHeartbeats 8000000
namespace M
open Go
variable [Lb]
def akg(c:aY):∃(c':aY) (q:Rq),dh q<=10000/\bI q.method/\ev LI TT 55 [.ptr .own (aL c)]=some (.agg (dw .own q),[.ptr .own (aL c')]):=by
 obtain⟨c1,⟨m,p,fs,bd⟩,hq,hm,u1⟩:=Uv c;obtain⟨c3,k,k1,k2,u2⟩:=fR c1 20 (by omega) (by omega);simp only[dh] at hq;simp only at hm;try simp at u1
 by_cases g0:k=0;·subst g0;obtain⟨c4,n,n1,n2,u3⟩:=fR c3 7 (by omega) (by omega);have hw:IntKind.i64.wrap (n - 1)=n - 1:=cy (by omega) (by omega);refine⟨c4,⟨n - 1,p,fs,bd⟩,by simp only[dh];omega,by unfold bI;simp only;omega,?_⟩;rw[aq (b:=mM) (rs:=_) (n:=1) rfl rfl];simp -implicitDefEqProofs [mM,nR,nS,u1,u2,u3,hw,cK,cH,cJ]
 by_cases g1:k=1;·subst g1;obtain⟨c4,s,hs,u3⟩:=eT c3 [[],[97],[47,32,98],[47,127],[47,48,49,50,51,52,53,54,55,56,57,48,49,50,51,52,53,54,55,56,57,48,49,50,51,52,53,54,55,56,57,48,49,50,51,52,53,54,55,56,57,48,49,50,51,52,53,54,55,56,57,48,49,50,51,52,53,54,55,56,57]] 100 (by simp) (by simp) (by simp);refine⟨c4,⟨m,s,fs,bd⟩,by simp only[dh];omega,hm,?_⟩;simp at u3;rw[aq (b:=mM) (rs:=_) (n:=1) rfl rfl];simp -implicitDefEqProofs [mM,nR,nS,u1,u2,u3,cK,cH,cJ]
 by_cases g2:k=2
 ·subst g2;obtain⟨c4,wG,l1,l2,u3⟩:=akf c3;have hwf:=Ns (m:=10) l2 l1;refine⟨c4,⟨m,p,wG,bd⟩,by simp only[dh];omega,hm,?_⟩;try simp at u3
  rw[aq (b:=mM) (rs:=_) (n:=1) rfl rfl];simp -implicitDefEqProofs [mM,nR,nS,u1,u2,u3,cK,cH,cJ]
 by_cases g3:k=3
 ·subst g3
  obtain⟨⟨c',WQ⟩,hb',e⟩:=uE (xt:=1) (f:=ak (ev LI TT) (au TT) s9)
   (λ(g:aY×ag)=>[(0,.aB 100000 [] 0 0),(2,.ptr .own [.int .i64 0,.str ⟨#[]⟩,.row .own 2 [],.str ⟨#[]⟩]),(3,.ptr .own (dw .own ⟨m,p,fs,g.2⟩)),(100000,.ptr .own (aL g.1))])
   (λg=>3000 - g.2.length) (λg=>g.2.length<=2000)
   (λg=>[(0,.aB 100000 [] 0 0),(2,.ptr .own [.int .i64 0,.str ⟨#[]⟩,.row .own 2 [],.str ⟨#[]⟩]),(3,.ptr .own (dw .own ⟨m,p,fs,g.2⟩)),(33,.bool false),(100000,.ptr .own (aL g.1))])
   (λg hg=>by
    obtain⟨c,bd⟩:=g;simp only at hg;obtain⟨c',v,v0,v1,e1⟩:=fR c 2 (by omega) (by omega);have hw:IntKind.i64.wrap (120+v)=120+v:=cy (by omega) (by omega);by_cases h:(bd.length:Int)<120+v
    ·right;have hx:bd.length+1<=9223372036854775807:=by omega
     have hs:(⟨bd.toArray⟩:ByteArray)++⟨#[98]⟩=⟨(bd++[98]).toArray⟩:=by rw[show (⟨#[98]⟩:ByteArray)=⟨([98]:ag).toArray⟩ from rfl,jS]
     refine⟨(c',bd++[98]),by simp;omega,by simp;omega,?_⟩;simp -implicitDefEqProofs [s9,C4,nR,nS,e1,h,hw,hx,hs]
    ·left;refine⟨(c',bd),hg,?_⟩;simp -implicitDefEqProofs [s9,C4,nR,nS,e1,h,hw])
   (c3,bd) (by simp only;omega)
  have hst:ak (ev LI TT) (au TT) s9 [(0,.aB 100000 [] 0 0),(2,.ptr .own [.int .i64 0,.str ⟨#[]⟩,.row .own 2 [],.str ⟨#[]⟩]),(3,.ptr .own (dw .own ⟨m,p,fs,bd⟩)),(25,.bool true),(100000,.ptr .own (aL c3))]=ak (ev LI TT) (au TT) s9 [(0,.aB 100000 [] 0 0),(2,.ptr .own [.int .i64 0,.str ⟨#[]⟩,.row .own 2 [],.str ⟨#[]⟩]),(3,.ptr .own (dw .own ⟨m,p,fs,bd⟩)),(100000,.ptr .own (aL c3))]:=by
   obtain⟨c',v,v0,v1,e1⟩:=fR c3 2 (by omega) (by omega);have hw:IntKind.i64.wrap (120+v)=120+v:=cy (by omega) (by omega);by_cases h:(bd.length:Int)<120+v
   ·have hx:bd.length+1<=9223372036854775807:=by omega
    simp -implicitDefEqProofs [s9,C4,nR,nS,e1,h,hw,hx]
   ·simp -implicitDefEqProofs [s9,C4,nR,nS,e1,h,hw]
  have uo:=Sf hst;rw[e] at uo;simp only at hb';try simp at uo
  refine⟨c',⟨m,p,fs,WQ⟩,by simp only[dh];omega,hm,?_⟩;rw[aq (b:=mM) (rs:=_) (n:=1) rfl rfl];simp -implicitDefEqProofs [mM,nR,nS,u1,u2,uo,cK,cH,cJ]
 ·refine⟨c3,⟨m,p,fs,bd⟩,by simp only[dh];omega,hm,?_⟩;rw[aq (b:=mM) (rs:=_) (n:=1) rfl rfl];simp -implicitDefEqProofs [mM,nR,nS,u1,u2,g0,g1,g2,g3,cK,cH,cJ]
end M
namespace M
open Go
variable [Lb]
def Vy(s:Sh)(hb:bw s<=1073741824):aJ (ak (ev LI TT) (au TT) CA) [(1,.ptr .own (aO .af s)),(3,.int .i64 0)]=if bu dW (s.aG)=true then some (.exit 0,[(1,.ptr .own (aO .af s)),(3,.int .i64 (s.aG).length),(33,.bool false)]) else some (.ret,[(2,.bool false)]):=by
 refine gJ (f:=ak (ev LI TT) (au TT) CA) (s.aG) (λi=>[(1,.ptr .own (aO .af s)),(3,.int .i64 i)]) dW _ _ (λi b hi hl=>?_) ?_
 ·have hw:=bx i (by have dR:bw s=bW s.aI+wL bO s.ai+wL aW s.aG:=rfl;have:=bp (w:=aW) s.aG;omega);obtain⟨_,rfl⟩:=aN.1 hi;have dR:bw s=bW s.aI+wL bO s.ai+wL aW s.aG:=rfl;have hm:=Im (cN hl);have u1:=Eb s.aG[i] (by omega);try simp at u1
  simp -implicitDefEqProofs [CA,Mn,hl,hw,u1];all_goals (repeat' split)<;>first|rfl|omega|(simp_all;done)|(simp_all;omega)|skip
 ·simp -implicitDefEqProofs [CA,Mn]
def Vz(s:Sh)(n:Nat)(k:Kp)(hn:n<=s.ai.length)(hb:s.ai.length<=1073741824):aJ (ak (ev LI TT) (au TT) CB) [(1,.ptr .own (aO .af s)),(4,.int .i64 n),(5,.ptr .own (aP .af k)),(6,.int .i64 0)]=if bu (λy=>decide ¬y.at_=k.at_) (s.ai.take n)=true then some (.exit 4,[(1,.ptr .own (aO .af s)),(4,.int .i64 n),(5,.ptr .own (aP .af k)),(6,.int .i64 (s.ai.take n).length),(92,.bool false)]) else some (.ret,[(2,.bool false)]):=by
 refine gJ (f:=ak (ev LI TT) (au TT) CB) (s.ai.take n) (λi=>[(1,.ptr .own (aO .af s)),(4,.int .i64 n),(5,.ptr .own (aP .af k)),(6,.int .i64 i)]) (λy=>decide ¬y.at_=k.at_) _ _ (λi b hi hl=>?_) ?_
 ·have hw:=bx i (by first|omega|(simp at hl;omega));obtain⟨_,rfl⟩:=aN.1 hi;have h1:i<n:=by simp at hl;omega
  have h2:i<s.ai.length:=by omega
  simp -implicitDefEqProofs [CB,Mo,hl,hw,h1,h2];all_goals (repeat' split)<;>first|rfl|omega|(simp_all;done)|(simp_all;omega)|skip
 ·have hmin:min n s.ai.length=n:=by omega
  simp -implicitDefEqProofs [CB,Mo,hmin]
def VA(s:Sh)(hb:bw s<=1073741824)(hs:1<=s.seq/\s.seq<=100000):aJ (ak (ev LI TT) (au TT) mK) [(1,.ptr .own (aO .af s)),(4,.int .i64 0)]=if bu (lN s.seq s.ai) (s.ai.zipIdx)=true then some (.exit 2,[(1,.ptr .own (aO .af s)),(4,.int .i64 (s.ai.zipIdx).length),(47,.bool false)]) else some (.ret,[(2,.bool false)]):=by
 refine gJ (f:=ak (ev LI TT) (au TT) mK) (s.ai.zipIdx) (λi=>[(1,.ptr .own (aO .af s)),(4,.int .i64 i)]) (lN s.seq s.ai) _ _ (λi b hi hl=>?_) ?_
 ·have hw:=bx i (by have dR:bw s=bW s.aI+wL bO s.ai+wL aW s.aG:=rfl;have:=bp (w:=bO) s.ai;simp at hl;omega);obtain⟨_,rfl⟩:=aN.1 hi;simp only[IV] at hl;have dR:bw s=bW s.aI+wL bO s.ai+wL aW s.aG:=rfl;have hlen:=bp (w:=bO) s.ai;have hz:s.ai.zipIdx[i]'(by simpa using hl)=(s.ai[i],i):=by simp
  have hm:=tq (cN hl);have hS:IntKind.i64.wrap (s.seq - 1)=s.seq - 1:=cy (by omega) (by omega);rw[hz];have hmin:min i s.ai.length=i:=by omega
  have u1:=zU s.ai[i].obj (by omega);try simp at u1
  have u2:=Vz s i s.ai[i] (by omega) (by omega);try simp at u2
  by_cases g1:dx (s.ai[i]).obj=true;rotate_left;·simp -implicitDefEqProofs [mK,oZ,hl,hw,u1,u2,lN,hS,hmin,g1]
  by_cases g2:5<=(s.ai[i]).at_;rotate_left;·simp -implicitDefEqProofs [mK,oZ,hl,hw,u1,u2,lN,hS,hmin,g1,eq_false g2]
  by_cases g3:(s.ai[i]).at_<=19;rotate_left;·simp -implicitDefEqProofs [mK,oZ,hl,hw,u1,u2,lN,hS,hmin,g1,eq_true g2,eq_false g3]
  by_cases g4:1<=(s.ai[i]).seq;rotate_left;·simp -implicitDefEqProofs [mK,oZ,hl,hw,u1,u2,lN,hS,hmin,g1,eq_true g2,eq_true g3,eq_false g4]
  by_cases g5:(s.ai[i]).seq<=s.seq - 1;rotate_left;·simp -implicitDefEqProofs [mK,oZ,hl,hw,u1,u2,lN,hS,hmin,g1,eq_true g2,eq_true g3,eq_true g4,eq_false g5]
  by_cases g6:i=0
  ·subst g6;try simp at u2 hw
   simp -implicitDefEqProofs [mK,oZ,hl,hw,u1,u2,lN,hS,hmin,g1,eq_true g2,eq_true g3,eq_true g4,eq_true g5]
  obtain⟨j,rfl⟩:∃j,i=j+1:=⟨i - 1,by omega⟩;have hj:j<s.ai.length:=by omega
  have hJ:IntKind.i64.wrap (j:Int)=j:=cy (by omega) (by omega);have hp:=B3 s.ai j hj;try simp at u2 hw hS
  have hpos:(0:Int)<(j:Int)+1:=by omega
  have hlc:(j:Int)+1<s.ai.length:=by omega
  have gp:(0:Int)<=(j:Int)+1:=by omega
  by_cases g7:(s.ai[j]).seq<(s.ai[j+1]).seq;rotate_left
  ·have J6:(s.ai[j+1]).seq<=(s.ai[j]).seq:=by omega
   simp -implicitDefEqProofs [mK,oZ,hl,hw,u1,u2,lN,hS,hmin,g1,eq_true g2,eq_true g3,eq_true g4,eq_true g5,hj,hJ,hp,hpos,hlc,gp,eq_false g7,eq_true J6]
  have J6:¬(s.ai[j+1]).seq<=(s.ai[j]).seq:=by omega
  simp -implicitDefEqProofs [mK,oZ,hl,hw,u1,u2,lN,hS,hmin,g1,eq_true g2,eq_true g3,eq_true g4,eq_true g5,hj,hJ,hp,hpos,hlc,gp,eq_true g7,eq_false J6];all_goals (repeat' split)<;>first|rfl|omega|(simp_all;done)|(simp_all;omega)|skip
 ·simp -implicitDefEqProofs [mK,oZ]
def Ed(s:Sh)(hb:bw s<=1073741824):ev LI TT 28 [.agg (aO .af s)]=some (.bool ((dI s)),[.dead]):=by
 rw[aq (b:=o6) (rs:=[.t 2]) (n:=1) rfl rfl];have dR:bw s=bW s.aI+wL bO s.ai+wL aW s.aG:=rfl;have KR:bW s.aI=wL wS s.aI.cells+wL dz s.aI.pending:=rfl;have hlen:=bp (w:=dz) s.aI.pending;unfold dI;have u1:=tS s.aI (by omega);try simp at u1
 have u2:=Vy s hb;try simp at u2
 by_cases g1:cS s.aI=true;rotate_left;·simp -implicitDefEqProofs [o6,u1,u2,g1]
 by_cases g2:(s.aG.length:Int)<=5;rotate_left;·simp -implicitDefEqProofs [o6,u1,u2,g1,eq_false g2]
 by_cases g3:5<=s.next
 rotate_left;·simp -implicitDefEqProofs [o6,u1,u2,g1,eq_true g2,eq_false g3]
 by_cases g4:s.next<=19
 rotate_left;·simp -implicitDefEqProofs [o6,u1,u2,g1,eq_true g2,eq_true g3,eq_false g4]
 by_cases g5:1<=s.seq;rotate_left;·simp -implicitDefEqProofs [o6,u1,u2,g1,eq_true g2,eq_true g3,eq_true g4,eq_false g5]
 by_cases g6:s.seq<=100000;rotate_left;·simp -implicitDefEqProofs [o6,u1,u2,g1,eq_true g2,eq_true g3,eq_true g4,eq_true g5,eq_false g6]
 have u3:=VA s hb ⟨by omega,by omega⟩;rw[adO] at u3;simp at u3;have ke:¬5<(s.aG.length:Int):=by omega
 simp -implicitDefEqProofs [o6,u1,u2,g1,eq_true g2,eq_true g3,eq_true g4,eq_true g5,eq_true g6,u3,ke];all_goals (repeat' split)<;>first|rfl|omega|(simp_all;done)|(simp_all;omega)|skip
end M
namespace M
open Go
variable [Lb]
def Xj(x k:Kp):ev LI TT 185 [.agg (aP .af x),.ptr .af (aP .af k)]=some (.bool (decide (x.at_=k.at_)),[.dead,.dead]):=by rw[aq (b:=Fx) (rs:=[.t 3]) (n:=2) rfl rfl];simp -implicitDefEqProofs [Fx];all_goals (repeat' split)<;>first|rfl|omega|(simp_all;done)|(simp_all;omega)|skip
def V0(l:List Kp)(k:Kp)(gf:Nat)(p:Kp->Bool)(ho:au TT gf=true)(hf:∀x∈l,ev LI TT gf [.agg (aP .af x),.ptr .af (aP .af k)]=some (.bool (p x),[.dead,.dead]))(hb:l.length<=9223372036854775807):aJ (ak (ev LI TT) (au TT) Dv) [(0,.row .af 9 (l.map (aP .af))),(1,.fn gf [.ptr .af (aP .af k)]),(7,.int .i64 l.length),(8,.int .i64 0)]=(cY p 0 (l)).elim (some (.exit 0,[(0,.row .af 9 (l.map (aP .af))),(1,.fn gf [.ptr .af (aP .af k)]),(7,.int .i64 l.length),(8,.int .i64 (l).length),(9,.bool false)])) λx=>some (.ret,(λ(i:Nat) b=>[(4,.int .i64 i)]) x.1 x.2):=by
 refine uD (f:=ak (ev LI TT) (au TT) Dv) (l) (λi=>[(0,.row .af 9 (l.map (aP .af))),(1,.fn gf [.ptr .af (aP .af k)]),(7,.int .i64 l.length),(8,.int .i64 i)]) p (λ(i:Nat) b=>[(4,.int .i64 i)]) _ (λi b hi hl=>?_) ?_
 ·have hw:=bx i (by first|omega|(simp at hl;omega));obtain⟨_,rfl⟩:=aN.1 hi;have u1:=hf l[i] (cN hl);try simp at u1
  simp -implicitDefEqProofs [Dv,Ny,hl,hw,u1,ho,FX];all_goals (repeat' split)<;>first|rfl|omega|(simp_all;done)|(simp_all;omega)|skip
 ·simp -implicitDefEqProofs [Dv,Ny]
def X6(l:List Kp)(k:Kp)(gf:Nat)(p:Kp->Bool)(ho:au TT gf=true)(hf:∀x∈l,ev LI TT gf [.agg (aP .af x),.ptr .af (aP .af k)]=some (.bool (p x),[.dead,.dead]))(hb:l.length<=9223372036854775807):ev LI TT 236 [.row .af 9 (l.map (aP .af)),.fn gf [.ptr .af (aP .af k)]]=some (.int .i64 ((cY p 0 l).elim (-1) λx=>(x.1:Int)),[.dead,.dead]):=by
 rw[aq (b:=Dw) (rs:=[.t 4]) (n:=2) rfl rfl];have u1:=V0 l k gf p ho hf hb;try simp at u1
 cases g:cY p 0 l with
 |none=>rw[g] at u1;simp at u1;simp -implicitDefEqProofs [Dw,u1]
 |some x=>
 rw[g] at u1;simp at u1;simp -implicitDefEqProofs [Dw,u1];all_goals (repeat' split)<;>first|rfl|omega|(simp_all;done)|(simp_all;omega)|skip
def X3(l:List Kp)(k:Kp)(gf:Nat)(p:Kp->Bool)(ho:au TT gf=true)(hf:∀x∈l,ev LI TT gf [.agg (aP .af x),.ptr .af (aP .af k)]=some (.bool (p x),[.dead,.dead]))(hb:l.length<=9223372036854775807):ev LI TT 184 [.row .af 9 (l.map (aP .af)),.fn gf [.ptr .af (aP .af k)]]=some (.bool (!bu (λx=> !p x) l),[.dead,.dead]):=by
 rw[aq (b:=Dq) (rs:=[.t 4]) (n:=2) rfl rfl];have u1:=X6 l k gf p ho hf hb;try simp at u1
 rw[<-Qo p l 0];cases g:cY p 0 l with
 |none=>rw[g] at u1;simp at u1;simp -implicitDefEqProofs [Dq,u1]
 |some x=>
 rw[g] at u1;simp at u1;simp -implicitDefEqProofs [Dq,u1];all_goals (repeat' split)<;>first|rfl|omega|(simp_all;done)|(simp_all;omega)|skip
def Vg(s:Sh)(hb:bw s<=1073741824):∃sl,aJ (ak (ev LI TT) (au TT) nB) [(0,.ptr .af (aO .af s)),(3,.int .i64 0),(7,.ptr .af (aO .af s)),(8,.ptr .af (aO .af s)),(9,.ptr .af ((aO .af s).drop 2)),(10,.row .af 9 (s.ai.map (aP .af))),(11,.int .i64 s.ai.length),(12,.int .i64 0)]=if oN s.seq s.ai=true then some (.exit 0,sl) else some (.ret,[(2,.bool false)]):=by
 have dR:bw s=bW s.aI+wL bO s.ai+wL aW s.aG:=rfl;have hlen:=bp (w:=bO) s.ai;refine⟨_,gJ (f:=ak (ev LI TT) (au TT) nB) s.ai.zipIdx (λi=>[(0,.ptr .af (aO .af s)),(3,.int .i64 (ku s.ai i)),(7,.ptr .af (aO .af s)),(8,.ptr .af (aO .af s)),(9,.ptr .af ((aO .af s).drop 2)),(10,.row .af 9 (s.ai.map (aP .af))),(11,.int .i64 s.ai.length),(12,.int .i64 i)]) (oJ s.seq s.ai) [(2,.bool false)] [(0,.ptr .af (aO .af s)),(3,.int .i64 (ku s.ai s.ai.length)),(7,.ptr .af (aO .af s)),(8,.ptr .af (aO .af s)),(9,.ptr .af ((aO .af s).drop 2)),(10,.row .af 9 (s.ai.map (aP .af))),(11,.int .i64 s.ai.length),(12,.int .i64 s.ai.length),(13,.bool false)] (λi b hi hl=>?_) ?_⟩
 ·simp only[IV] at hl;have hw:=bx i (by omega);obtain⟨_,rfl⟩:=aN.1 hi;have hz:s.ai.zipIdx[i]'(by simpa using hl)=(s.ai[i],i):=by simp
  have hm:=tq (cN hl);have hp:=B3 s.ai i hl;rw[hz];have hs:fY []=true:=rfl;have u1:=Ea s.ai[i].obj (by omega);have u2:=X3 (s.ai.take i) s.ai[i] 185 (λx=>decide (x.at_=(s.ai[i]).at_)) rfl (λx _=>Xj x s.ai[i]) (by simp;omega);have hle:(i:Int)<=s.ai.length:=by omega
  have hle2:i<=s.ai.length:=by omega
  simp at u1 u2;unfold oJ;by_cases g1:dx (s.ai[i]).obj=true;rotate_left;·simp -implicitDefEqProofs [nB,qn,hl,hw,hle,hle2,lV,iT,gN,u1,u2,g1]
  by_cases g2:5<=(s.ai[i]).at_;rotate_left;·simp -implicitDefEqProofs [nB,qn,hl,hw,hle,hle2,lV,iT,gN,u1,u2,g1,eq_false g2]
  by_cases g3:(s.ai[i]).at_<=19;rotate_left;·simp -implicitDefEqProofs [nB,qn,hl,hw,hle,hle2,lV,iT,gN,u1,u2,g1,eq_true g2,eq_false g3]
  by_cases g4:bu (λy:Kp=> !decide (y.at_=(s.ai[i]).at_)) (s.ai.take i)=true;rotate_left;·simp -implicitDefEqProofs [nB,qn,hl,hw,hle,hle2,lV,iT,gN,u1,u2,g1,eq_true g2,eq_true g3,g4]
  by_cases g5:ku s.ai i<(s.ai[i]).seq;rotate_left
  ·have ET:(s.ai[i]).seq<=ku s.ai i:=by omega
   simp -implicitDefEqProofs [nB,qn,hl,hw,hle,hle2,lV,iT,gN,u1,u2,g1,eq_true g2,eq_true g3,g4,eq_false g5,eq_true ET]
  have ET:¬(s.ai[i]).seq<=ku s.ai i:=by omega
  by_cases g6:(s.ai[i]).seq<s.seq;rotate_left
  ·have J5:s.seq<=(s.ai[i]).seq:=by omega
   simp -implicitDefEqProofs [nB,qn,hl,hw,hle,hle2,lV,iT,gN,u1,u2,g1,eq_true g2,eq_true g3,g4,eq_true g5,eq_false ET,eq_false g6,eq_true J5]
  have J5:¬s.seq<=(s.ai[i]).seq:=by omega
  simp -implicitDefEqProofs [nB,qn,hl,hw,hle,hle2,lV,iT,gN,u1,u2,g1,eq_true g2,eq_true g3,g4,eq_true g5,eq_false ET,eq_true g6,eq_false J5,hp]
 ·simp -implicitDefEqProofs [nB,qn]
def Xi(s:Sh)(hb:bw s<=1073741824):ev LI TT 108 [.ptr .af (aO .af s)]=some (.bool (oN s.seq s.ai),[.dead]):=by rw[aq (b:=Fy) (rs:=[.t 2]) (n:=1) rfl rfl];obtain⟨sl,u1⟩:=Vg s hb;simp at u1;simp -implicitDefEqProofs [Fy,u1];all_goals (repeat' split)<;>first|rfl|omega|(simp_all;done)|(simp_all;omega)|skip
def U9(s:Sh)(hb:bw s<=1073741824):aJ (ak (ev LI TT) (au TT) Bm) [(1,.ptr .own (aO .af s)),(5,.aB 1 [] 0 3),(6,.row .af 4 (s.aG.map cu)),(7,.int .i64 s.aG.length),(8,.int .i64 0)]=if bu dW (s.aG)=true then some (.exit 0,[(1,.ptr .own (aO .af s)),(5,.aB 1 [] 0 3),(6,.row .af 4 (s.aG.map cu)),(7,.int .i64 s.aG.length),(8,.int .i64 (s.aG).length),(9,.bool false)]) else some (.ret,[(2,.bool false)]):=by
 refine gJ (f:=ak (ev LI TT) (au TT) Bm) (s.aG) (λi=>[(1,.ptr .own (aO .af s)),(5,.aB 1 [] 0 3),(6,.row .af 4 (s.aG.map cu)),(7,.int .i64 s.aG.length),(8,.int .i64 i)]) dW _ _ (λi b hi hl=>?_) ?_
 ·have hw:=bx i (by have dR:bw s=bW s.aI+wL bO s.ai+wL aW s.aG:=rfl;have:=bp (w:=aW) s.aG;omega);obtain⟨_,rfl⟩:=aN.1 hi;have dR:bw s=bW s.aI+wL bO s.ai+wL aW s.aG:=rfl;have hm:=Im (cN hl);have u1:=OJ s.aG[i] (by omega);try simp at u1
  simp -implicitDefEqProofs [Bm,K0,hl,hw,u1];all_goals (repeat' split)<;>first|rfl|omega|(simp_all;done)|(simp_all;omega)|skip
 ·simp -implicitDefEqProofs [Bm,K0]
def Xg(s:Sh)(hb:bw s<=1073741824):ev LI TT 31 [.agg (aO .af s)]=some (.bool ((dI s)),[.dead]):=by
 rw[aq (b:=nA) (rs:=[.t 2]) (n:=1) rfl rfl];have dR:bw s=bW s.aI+wL bO s.ai+wL aW s.aG:=rfl;have KR:bW s.aI=wL wS s.aI.cells+wL dz s.aI.pending:=rfl;have hlen:=bp (w:=dz) s.aI.pending;unfold dI;have u1:=W6 s.aI (by omega);try simp at u1
 have u2:=U9 s hb;try simp at u2
 have u3:=Xi s hb;try simp at u3
 by_cases g1:bu dW s.aG=true;rotate_left;·simp -implicitDefEqProofs [nA,u1,u2,u3,g1]
 by_cases g2:(s.aG.length:Int)<=5;rotate_left;·simp -implicitDefEqProofs [nA,u1,u2,u3,g1,eq_false g2]
 by_cases g3:5<=s.next
 rotate_left;·simp -implicitDefEqProofs [nA,u1,u2,u3,g1,eq_true g2,eq_false g3]
 by_cases g4:s.next<=19
 rotate_left;·simp -implicitDefEqProofs [nA,u1,u2,u3,g1,eq_true g2,eq_true g3,eq_false g4]
 by_cases g5:1<=s.seq;rotate_left;·simp -implicitDefEqProofs [nA,u1,u2,u3,g1,eq_true g2,eq_true g3,eq_true g4,eq_false g5]
 by_cases g6:s.seq<=100000;rotate_left;·simp -implicitDefEqProofs [nA,u1,u2,u3,g1,eq_true g2,eq_true g3,eq_true g4,eq_true g5,eq_false g6]
 by_cases g7:cS s.aI=true;rotate_left;·simp -implicitDefEqProofs [nA,u1,u2,u3,g1,eq_true g2,eq_true g3,eq_true g4,eq_true g5,eq_true g6,g7]
 simp -implicitDefEqProofs [nA,u1,u2,u3,g1,eq_true g2,eq_true g3,eq_true g4,eq_true g5,eq_true g6,g7];all_goals (repeat' split)<;>first|rfl|omega|(simp_all;done)|(simp_all;omega)|skip
end M
set_option maxHeartbeats 4000000
namespace M
open Go
variable [Lb]
def JS(l:List aE):(ji l).length<=4*wL aF l:=by
 unfold ji;induction l with
 |nil=>simp[wL]
 |cons f l ih=>simp only[jW,fK,wL,cO,bg,pF,rU,aF,gS] at*;omega
def adZ:(⟨#[58,32]⟩:ByteArray)=⟨colon.toArray⟩:=rfl
def Lo:(⟨#[13,10]⟩:ByteArray)=⟨crlf.toArray⟩:=rfl
def ad2:(⟨#[13,10,13,10]⟩:ByteArray)=⟨bA.toArray⟩:=rfl
def Sc:(⟨#[72,84,84,80,47,49,46,49,32]⟩:ByteArray)=⟨(oL++[32]).toArray⟩:=rfl
def ad0:(⟨#[32,46]⟩:ByteArray)=⟨([32,46]:ag).toArray⟩:=rfl
def ad1:(⟨#[32,46,13,10]⟩:ByteArray)=⟨([32,46]++crlf:ag).toArray⟩:=rfl
def R9:(⟨#[99,111,110,116,101,110,116,45,108,101,110,103,116,104,58,32]⟩:ByteArray)=⟨(fD++colon).toArray⟩:=rfl
def Sa:(⟨#[111,98,106,32]⟩:ByteArray)=⟨(mC++[32]).toArray⟩:=rfl
def Sb:(⟨#[32]⟩:ByteArray)=⟨([32]:ag).toArray⟩:=rfl
def F2:(⟨#[10]⟩:ByteArray)=⟨([10]:ag).toArray⟩:=rfl
def BD:colon.length=2:=rfl
def BE:crlf.length=2:=rfl
def Sd:bA.length=4:=rfl
def Lp:oL.length=8:=rfl
def F3:fD.length=14:=rfl
def BF:mC.length=3:=rfl
def Vo(fs:List aE)(hb:wL aF fs<=1073741824)(g:ag)(hinv:g.length<=4*(wL aF (fs.take 0))):aJ (ak (ev LI TT) (au TT) Cl) [(0,.row .af 2 (fs.map aH)),(3,.str ⟨(g).toArray⟩),(4,.int .i64 0)]=some (.exit 0,[(0,.row .af 2 (fs.map aH)),(3,.str ⟨((foldI (λ_ g f=>g++rU f) 0 (fs) g)).toArray⟩),(4,.int .i64 (fs).length),(8,.bool false)]):=by
 refine kT (f:=ak (ev LI TT) (au TT) Cl) (fs) (λi (g:ag)=>[(0,.row .af 2 (fs.map aH)),(3,.str ⟨(g).toArray⟩),(4,.int .i64 i)]) (λ_ g f=>g++rU f) (λg=>[(0,.row .af 2 (fs.map aH)),(3,.str ⟨(g).toArray⟩),(4,.int .i64 (fs).length),(8,.bool false)]) (λi (g:ag)=>g.length<=4*(wL aF (fs.take i))) g hinv (λi b g hi hl hinv=>?_) (λi b g hi hinv=>?_) (λg hinv=>?_)
 ·have hw:=bx i (by have:=bp (w:=aF) fs;omega);obtain⟨_,rfl⟩:=aN.1 hi;have hm:=Io (cN hl);have ht:=Nt aF fs i;have q1:g.length+(fs[i]).name.length<=9223372036854775807:=by omega
  have q2:g.length+((fs[i]).name.length+2)<=9223372036854775807:=by omega
  have q3:g.length+((fs[i]).name.length+(2+(fs[i]).value.length))<=9223372036854775807:=by omega
  simp -implicitDefEqProofs [Cl,Mi,hl,hw,adZ,Lo,jS,BD,BE,rU];exact⟨by omega,by omega,by omega,by omega,by simp[colon,crlf]⟩
 ·obtain⟨hl,rfl⟩:=aN.1 hi;rw[qZ hl];simp only[wL,fK,iK,za,cO,gS,bg,gQ,pF,IA,rU,aF] at*;omega
 ·simp -implicitDefEqProofs [Cl,Mi]
def EO{β:Type}(f:β->ag):∀(l:List β) (i:Nat) (g:ag),foldI (λ_ g b=>g++f b) i l g=g++l.flatMap f
 |[],_,g=>by simp[foldI]
 |b::l,i,g=>by rw[foldI,EO f l];simp
def XC(fs:List aE)(hb:wL aF fs<=1073741824):ev LI TT 67 [.row .af 2 (fs.map aH)]=some (.str ⟨(ji fs).toArray⟩,[.dead]):=by
 rw[aq (b:=Gy) (rs:=[.t 2]) (n:=1) rfl rfl];have u1:=Vo fs hb [] (by simp);try simp at u1
 rw[EO,jz,show fs.flatMap (λf=>rU f)=ji fs from rfl] at u1;simp -implicitDefEqProofs [Gy,u1];all_goals (repeat' split)<;>first|rfl|omega|(simp_all;done)|(simp_all;omega)|skip
structure V3 (r:ck):Prop where
 s0:100<=r.status
 s1:r.status<=599
 f:jF r.fields=true
 b:r.body.length<=120
 nt:en r.status=bq r.status.toNat
 nb:en (r.body.length:Int)=bq r.body.length
 ls:(bq r.status.toNat).length<=7
 lb:(bq r.body.length).length<=7
 Nj:gw r=oL++32::(bq r.status.toNat++32::46::(crlf++(ji r.fields++(fD++(colon++(bq r.body.length++(bA++r.body)))))))
def Gn{r:ck}(h:fF r=true):V3 r:=by
 obtain⟨h1,h2,h3⟩:=LY h;refine⟨h1.1,h1.2,h2,h3,?_,?_,ow _ (by omega),ow _ (by omega),?_⟩;·unfold en;rw[aA (by omega)]
 ·exact Ge _ (by omega)
 ·unfold gw;rw[aA h,To];simp[kX,kq,colon]
def O4(r:ck)(hb:bQ r<=1073741824):ev LI TT 12 [.agg (jC .af r)]=some (.str ⟨(gw r).toArray⟩,[.dead]):=by
 rw[aq (b:=Cz) (rs:=[.t 2]) (n:=1) rfl rfl];have hw:bQ r=wL aF r.fields+r.body.length:=rfl;have hfl:=JS r.fields;have hft:=XC r.fields (by omega);have u1:=Jo r hb;try simp at u1
 have u2:=rH r.status;try simp at u2
 have u3:=rH (r.body.length:Int);try simp at u3
 by_cases hok:fF r=true;rotate_left;·have e:gw r=[]:=(L0 r).2 hok;rw[show fF r=false by simpa using hok] at u1;simp -implicitDefEqProofs [Cz,u1,e]
 rw[hok] at u1;have A:=Gn hok;rw[A.nt] at u2;rw[A.nb] at u3;have a1:=A.ls;have a2:=A.lb;have a3:=A.b;try simp at hft
 rw[A.Nj];generalize ji r.fields=T at hft hfl;generalize bq r.status.toNat=D at u2 a1;generalize bq r.body.length=E at u3 a2;simp -implicitDefEqProofs [Cz,u1,u2,u3,hft,Sc,ad1,R9,ad2,jS,Lp,BE,F3,BD,Sd];all_goals (try omega)
def Xr(b:ag)(hb:b.length<=1000000):ev LI TT 64 [.str ⟨b.toArray⟩]=some (.str ⟨(fD++(colon++(bq b.length++crlf))).toArray⟩,[.dead]):=by
 rw[aq (b:=FQ) (rs:=[.t 2]) (n:=1) rfl rfl];have l7:=ow b.length hb;have u1:=Ei b.length (by omega);try simp at u1
 simp -implicitDefEqProofs [FQ,u1,R9,Lo,jS,F3,BD,BE];all_goals (try omega)
def Xf(r:ck)(hb:bQ r<=1073741824):ev LI TT 11 [.agg (jC .af r)]=some (.str ⟨(gw r).toArray⟩,[.dead]):=by
 rw[aq (b:=Bl) (rs:=[.t 2]) (n:=1) rfl rfl];have hw:bQ r=wL aF r.fields+r.body.length:=rfl;have hfl:=JS r.fields;have r8:=bp (w:=aF) r.fields;have hft:=W7 r.fields (by omega) (by omega);have u1:=OP r hb;try simp at u1
 by_cases hok:fF r=true;rotate_left;·have e:gw r=[]:=(L0 r).2 hok;rw[show fF r=false by simpa using hok] at u1;simp -implicitDefEqProofs [Bl,u1,e]
 rw[hok] at u1;have A:=Gn hok;have a0:=A.s0;have a0':=A.s1;have a1:=A.ls;have a2:=A.lb;have a3:=A.b;have hst:r.status=((r.status.toNat:Nat):Int):=by omega
 have u2:=Ei r.status.toNat (by omega);rw[<-hst] at u2;have u3:=Xr r.body (by omega);try simp at hft
 try simp at u2
 try simp at u3
 rw[A.Nj];generalize ji r.fields=T at hft hfl;generalize bq r.status.toNat=D at u2 a1;generalize bq r.body.length=E at u3 a2;simp -implicitDefEqProofs [Bl,u1,hft,u2,u3,Sc,ad0,Lo,jS,Lp,BE,F3,BD];refine⟨by omega,by omega,by omega,by omega,by omega,by omega,by omega,?_⟩;simp[crlf,bA]
def Nq(l:List ag):(k9 l).length<=2*wL wS l:=by
 unfold k9;induction l with
 |nil=>simp[wL]
 |cons v l ih=>simp only[jW,fK,wL,cO,bg,pF,wS,gS] at*;omega
def L5(r:ck):(gw r).length<=4*bQ r+60:=by
 by_cases h:fF r=true;·have A:=Gn h;have hfl:=JS r.fields;have a1:=A.ls;have a2:=A.lb;rw[A.Nj];have hw:bQ r=wL aF r.fields+r.body.length:=rfl;simp[Lp,BE,F3,BD,Sd];omega
 ·rw[(L0 r).2 h];simp
def Vx(o:Ob)(hb:bP o<=1073741824)(g:ag)(hinv:g.length<=9223372036+2*(wL wS (o.values.take 0))):aJ (ak (ev LI TT) (au TT) Cw) [(1,.ptr .own (aV .af o)),(3,.str ⟨(g).toArray⟩),(4,.int .i64 0)]=some (.exit 0,[(1,.ptr .own (aV .af o)),(3,.str ⟨((foldI (λ_ g v=>g++(v++[10])) 0 (o.values) g)).toArray⟩),(4,.int .i64 (o.values).length),(27,.bool false)]):=by
 refine kT (f:=ak (ev LI TT) (au TT) Cw) (o.values) (λi (g:ag)=>[(1,.ptr .own (aV .af o)),(3,.str ⟨(g).toArray⟩),(4,.int .i64 i)]) (λ_ g v=>g++(v++[10])) (λg=>[(1,.ptr .own (aV .af o)),(3,.str ⟨(g).toArray⟩),(4,.int .i64 (o.values).length),(27,.bool false)]) (λi (g:ag)=>g.length<=9223372036+2*(wL wS (o.values.take i))) g hinv (λi b g hi hl hinv=>?_) (λi b g hi hinv=>?_) (λg hinv=>?_);·have hw:=bx i (by have hw:bP o=o.path.length+wL wS o.names+wL wS o.values+bQ o.resp:=rfl;have:=bp (w:=wS) o.values;omega);obtain⟨_,rfl⟩:=aN.1 hi;have hw0:bP o=o.path.length+wL wS o.names+wL wS o.values+bQ o.resp:=rfl;have hm:=yW (cN hl);have ht:=Nt wS o.values i;simp -implicitDefEqProofs [Cw,Mm,hl,hw,F2,jS];all_goals (try omega)
 ·obtain⟨hl,rfl⟩:=aN.1 hi;rw[qZ hl];simp only[wL,fK,iK,za,cO,gS,bg,gQ,pF,IA,wS] at*;omega
 ·simp -implicitDefEqProofs [Cw,Mm]
def Jm(o:Ob)(hb:bP o<=1073741824):ev LI TT 36 [.agg (aV .af o)]=some (.str ⟨(ep o).toArray⟩,[.dead]):=by
 rw[aq (b:=Cx) (rs:=[.t 2]) (n:=1) rfl rfl];have hw:bP o=o.path.length+wL wS o.names+wL wS o.values+bQ o.resp:=rfl;have hrl:=L5 o.resp;have hvl:=Nq o.values;have hft:=O4 o.resp (by omega);have u1:=zU o (by omega);try simp at u1
 have u2:=rH o.t;try simp at u2
 have u3:=rH (o.values.length:Int);try simp at u3
 by_cases hok:dx o=true;rotate_left;·have e:ep o=[]:=(LD o).2 hok;rw[show dx o=false by simpa using hok] at u1;simp -implicitDefEqProofs [Cx,u1,e]
 rw[hok] at u1;have A:=BU hok;have a1:=A.len;have a2:=A.n4;have a3:=uJ o.t;have a4:=ow o.values.length (by omega);rw[Ge o.values.length (by omega)] at u3;have et:ep o=mC++32::(o.path++32::(en o.t++32::(bq o.values.length++10::(k9 o.values++gw o.resp)))):=by unfold ep nJ qE gw;rw[aA hok,aA A.resp];simp
 have hlp:=Vx o hb (mC++32::(o.path++32::(en o.t++32::(bq o.values.length++[10])))) (by simp[BF];omega);rw[EO,show o.values.flatMap (λv=>v++[10])=k9 o.values from rfl] at hlp;try simp at hlp
 try simp at hft
 rw[et];generalize gw o.resp=R at hft hrl;generalize bq o.values.length=E at u3 a4 hlp;generalize k9 o.values=V at hvl hlp;simp -implicitDefEqProofs [Cx,u1,u2,u3,hft,hlp,Sa,Sb,F2,jS,BF];all_goals (try omega)
def U8(o:Ob)(hb:bP o<=1073741824)(g:ag)(hinv:g.length<=9223372036+2*(wL wS (o.values.take 0))):aJ (ak (ev LI TT) (au TT) Bj) [(1,.ptr .own (aV .af o)),(3,.str ⟨(g).toArray⟩),(24,.aB 1 [] 0 2),(25,.row .af 1 (o.values.map eS)),(26,.int .i64 o.values.length),(27,.int .i64 0)]=some (.exit 0,[(1,.ptr .own (aV .af o)),(3,.str ⟨((foldI (λ_ g v=>g++(v++[10])) 0 (o.values) g)).toArray⟩),(24,.aB 1 [] 0 2),(25,.row .af 1 (o.values.map eS)),(26,.int .i64 o.values.length),(27,.int .i64 (o.values).length),(28,.bool false)]):=by
 refine kT (f:=ak (ev LI TT) (au TT) Bj) (o.values) (λi (g:ag)=>[(1,.ptr .own (aV .af o)),(3,.str ⟨(g).toArray⟩),(24,.aB 1 [] 0 2),(25,.row .af 1 (o.values.map eS)),(26,.int .i64 o.values.length),(27,.int .i64 i)]) (λ_ g v=>g++(v++[10])) (λg=>[(1,.ptr .own (aV .af o)),(3,.str ⟨(g).toArray⟩),(24,.aB 1 [] 0 2),(25,.row .af 1 (o.values.map eS)),(26,.int .i64 o.values.length),(27,.int .i64 (o.values).length),(28,.bool false)]) (λi (g:ag)=>g.length<=9223372036+2*(wL wS (o.values.take i))) g hinv (λi b g hi hl hinv=>?_) (λi b g hi hinv=>?_) (λg hinv=>?_);·have hw:=bx i (by have hw:bP o=o.path.length+wL wS o.names+wL wS o.values+bQ o.resp:=rfl;have:=bp (w:=wS) o.values;omega);obtain⟨_,rfl⟩:=aN.1 hi;have hw0:bP o=o.path.length+wL wS o.names+wL wS o.values+bQ o.resp:=rfl;have hm:=yW (cN hl);have ht:=Nt wS o.values i;simp -implicitDefEqProofs [Bj,KZ,hl,hw,F2,jS];all_goals (try omega)
 ·obtain⟨hl,rfl⟩:=aN.1 hi;rw[qZ hl];simp only[wL,fK,iK,za,cO,gS,bg,gQ,pF,IA,wS] at*;omega
 ·simp -implicitDefEqProofs [Bj,KZ]
def Xc(o:Ob)(hb:bP o<=1073741824):ev LI TT 27 [.agg (aV .af o)]=some (.str ⟨(ep o).toArray⟩,[.dead]):=by
 rw[aq (b:=Bk) (rs:=[.t 2]) (n:=1) rfl rfl];have hw:bP o=o.path.length+wL wS o.names+wL wS o.values+bQ o.resp:=rfl;have hrl:=L5 o.resp;have hvl:=Nq o.values;have hvn:=bp (w:=wS) o.values;have hft:=Xf o.resp (by omega);have u1:=Ea o (by omega);try simp at u1
 have u2:=Xb o.t;try simp at u2
 have u3:=Ei o.values.length (by omega);try simp at u3
 by_cases hok:dx o=true;rotate_left;·have e:ep o=[]:=(LD o).2 hok;rw[show dx o=false by simpa using hok] at u1;simp -implicitDefEqProofs [Bk,u1,e]
 rw[hok] at u1;have A:=BU hok;have a1:=A.len;have a2:=A.n4;have a3:=uJ o.t;have a4:=ow o.values.length (by omega);have et:ep o=mC++32::(o.path++32::(en o.t++32::(bq o.values.length++10::(k9 o.values++gw o.resp)))):=by unfold ep nJ qE gw;rw[aA hok,aA A.resp];simp
 have hlp:=U8 o hb (mC++32::(o.path++32::(en o.t++32::(bq o.values.length++[10])))) (by simp[BF];omega);rw[EO,show o.values.flatMap (λv=>v++[10])=k9 o.values from rfl] at hlp;try simp at hlp
 try simp at hft
 rw[et];generalize gw o.resp=R at hft hrl;generalize bq o.values.length=E at u3 a4 hlp;generalize k9 o.values=V at hvl hlp;simp -implicitDefEqProofs [Bk,u1,u2,u3,hft,hlp,Sa,Sb,F2,jS,BF];all_goals (try omega)
end M
set_option maxHeartbeats 4000000
namespace M
open Go
variable [Lb]
def QY(fs:List aE)(n v:ag):(decide (dr fs n=some v))=((dr fs n).isSome && decide ((dr fs n).getD []=v)):=by cases dr fs n<;>simp
def afT(p s:ag):p.isPrefixOf s=(decide (p.length<=s.length) && decide (s.take p.length=p)):=by have:=Lib.hasPrefix_of_take s p;unfold Lib.hasPrefix at this;rw[<-this];congr 1;rw[NQ];simp
def XF(b:Bn)(o:Ob)(h1:aW b<=1073741824)(h2:bP o<=1073741824):ev LI TT 181 [.agg (cu b),.agg (aV .af o)]=some (.bool (mw b o),[.dead,.dead]):=by
 rw[aq (b:=nP) (rs:=[.t 4]) (n:=2) rfl rfl];have hw:aW b=b.a.length+b.b.length:=rfl;have fk:bP o=o.path.length+wL wS o.names+wL wS o.values+bQ o.resp:=rfl;have ur:bQ o.resp=wL aF o.resp.fields+o.resp.body.length:=rfl;have l1:=bp (w:=aF) o.resp.fields;unfold mw;rw[QY,afT];have u1:=Eb b h1;try simp at u1
 have u2:=zU o (by omega);try simp at u2
 have u3:=zT o.resp.fields b.a (by omega);try simp at u3
 generalize dW b=b1 at u1;cases b1;·simp -implicitDefEqProofs [nP,u1]
 generalize dx o=b2 at u2;cases b2;·simp -implicitDefEqProofs [nP,u1,u2]
 by_cases g1:o.t<=b.t;rotate_left
 ·have dH:b.t<o.t:=by omega
  simp -implicitDefEqProofs [nP,u1,u2,g1,dH]
 have dH:¬b.t<o.t:=by omega
 by_cases g2:b.kind=1;·rw[g2] at u1;simp -implicitDefEqProofs [nP,u1,u2,g1,dH,g2]
 by_cases g3:b.kind=2
 ·rw[g3] at u1;by_cases g4:b.a.length<=o.path.length
  ·have rX:(b.a.length:Int)<=o.path.length:=by omega
   by_cases g5:o.path.take b.a.length=b.a;·simp -implicitDefEqProofs [nP,u1,u2,g1,dH,g2,g3,g4,rX,Lib.extract_mk,eq_true g5]
   ·simp -implicitDefEqProofs [nP,u1,u2,g1,dH,g2,g3,g4,rX,Lib.extract_mk,eq_false g5]
  ·have rX:¬(b.a.length:Int)<=o.path.length:=by omega
   simp -implicitDefEqProofs [nP,u1,u2,g1,dH,g2,g3,g4,rX]
 generalize (dr o.resp.fields b.a).isSome=b3 at u3;cases b3;all_goals
 simp -implicitDefEqProofs [nP,u1,u2,u3,g1,dH,g2,g3];all_goals (repeat' split)<;>first|rfl|omega|(simp_all;done)|(simp_all;omega)|skip
def W9(b:Bn)(o:Ob)(h1:aW b<=1073741824)(h2:bP o<=1073741824):ev LI TT 53 [.agg (cu b),.agg (aV .af o)]=some (.bool (mw b o),[.dead,.dead]):=by
 rw[aq (b:=ql) (rs:=[.t 4]) (n:=2) rfl rfl];have hw:aW b=b.a.length+b.b.length:=rfl;have fk:bP o=o.path.length+wL wS o.names+wL wS o.values+bQ o.resp:=rfl;have ur:bQ o.resp=wL aF o.resp.fields+o.resp.body.length:=rfl;have l1:=bp (w:=aF) o.resp.fields;unfold mw;rw[QY,show b.a.isPrefixOf o.path=Lib.hasPrefix o.path b.a from rfl];have u1:=OJ b h1;try simp at u1
 have u2:=Ea o (by omega);try simp at u2
 have u3:=zQ o.resp.fields b.a (by omega);try simp at u3
 have u4:=X9 o.path b.a;try simp at u4
 by_cases g1:o.t<=b.t;rotate_left
 ·have dH:b.t<o.t:=by omega
  simp -implicitDefEqProofs [ql,u1,u2,g1,dH]
 have dH:¬b.t<o.t:=by omega
 generalize dW b=b1 at u1;cases b1;·simp -implicitDefEqProofs [ql,u1,g1,dH]
 generalize dx o=b2 at u2;cases b2;·simp -implicitDefEqProofs [ql,u1,u2,g1,dH]
 by_cases g2:b.kind=1;·rw[g2] at u1;simp -implicitDefEqProofs [ql,u1,u2,g1,dH,g2]
 by_cases g3:b.kind=2;·rw[g3] at u1;simp -implicitDefEqProofs [ql,u1,u2,u4,g1,dH,g2,g3]
 generalize (dr o.resp.fields b.a).isSome=b3 at u3;cases b3;all_goals
 simp -implicitDefEqProofs [ql,u1,u2,u3,u4,g1,dH,g2,g3];all_goals (repeat' split)<;>first|rfl|omega|(simp_all;done)|(simp_all;omega)|skip
def Rr(l:List Bn)(o:Ob):bu (λb=> !mw b o) l= !gG l o:=by
 unfold gG bu;induction l with
 |nil=>rfl
 |cons b l ih=>simp only[List.all_cons,List.any_cons,ih,Bool.not_or]
def Vq(l:List Bn)(o:Ob)(h1:wL aW l<=1073741824)(h2:bP o<=1073741824):aJ (ak (ev LI TT) (au TT) Cn) [(0,.row .af 4 (l.map cu)),(3,.ptr .own (aV .af o)),(5,.int .i64 0)]=if bu (λb=> !mw b o) (l)=true then some (.exit 0,[(0,.row .af 4 (l.map cu)),(3,.ptr .own (aV .af o)),(5,.int .i64 (l).length),(9,.bool false)]) else some (.ret,[(4,.bool true)]):=by
 refine gJ (f:=ak (ev LI TT) (au TT) Cn) (l) (λi=>[(0,.row .af 4 (l.map cu)),(3,.ptr .own (aV .af o)),(5,.int .i64 i)]) (λb=> !mw b o) _ _ (λi b hi hl=>?_) ?_
 ·have hw:=bx i (by have:=bp (w:=aW) l;omega);obtain⟨_,rfl⟩:=aN.1 hi;have hm:=Im (cN hl);have u1:=XF l[i] o (by omega) h2;try simp at u1
  cases hh:mw l[i] o<;>rw[hh] at u1;all_goals
  simp -implicitDefEqProofs [Cn,Mj,hl,hw,u1,hh];all_goals (repeat' split)<;>first|rfl|omega|(simp_all;done)|(simp_all;omega)|skip
 ·simp -implicitDefEqProofs [Cn,Mj]
def Ec(l:List Bn)(o:Ob)(h1:wL aW l<=1073741824)(h2:bP o<=1073741824):ev LI TT 98 [.row .af 4 (l.map cu),.agg (aV .af o)]=some (.bool (gG l o),[.dead,.dead]):=by
 rw[aq (b:=GB) (rs:=[.t 4]) (n:=2) rfl rfl];have u1:=Vq l o h1 h2;try simp at u1
 rw[Rr] at u1;cases hh:gG l o<;>rw[hh] at u1;all_goals try simp at u1
 all_goals
 simp -implicitDefEqProofs [GB,u1];all_goals (repeat' split)<;>first|rfl|omega|(simp_all;done)|(simp_all;omega)|skip
def U5(l:List Bn)(o:Ob)(h1:wL aW l<=1073741824)(h2:bP o<=1073741824):aJ (ak (ev LI TT) (au TT) Bf) [(0,.row .af 4 (l.map cu)),(3,.ptr .own (aV .af o)),(7,.row .af 4 (l.map cu)),(8,.int .i64 l.length),(9,.int .i64 0)]=if bu (λb=> !mw b o) (l)=true then some (.exit 0,[(0,.row .af 4 (l.map cu)),(3,.ptr .own (aV .af o)),(7,.row .af 4 (l.map cu)),(8,.int .i64 l.length),(9,.int .i64 (l).length),(10,.bool false)]) else some (.ret,[(4,.bool true)]):=by
 refine gJ (f:=ak (ev LI TT) (au TT) Bf) (l) (λi=>[(0,.row .af 4 (l.map cu)),(3,.ptr .own (aV .af o)),(7,.row .af 4 (l.map cu)),(8,.int .i64 l.length),(9,.int .i64 i)]) (λb=> !mw b o) _ _ (λi b hi hl=>?_) ?_
 ·have hw:=bx i (by have:=bp (w:=aW) l;omega);obtain⟨_,rfl⟩:=aN.1 hi;have hm:=Im (cN hl);have u1:=W9 l[i] o (by omega) h2;try simp at u1
  cases hh:mw l[i] o<;>rw[hh] at u1;all_goals
  simp -implicitDefEqProofs [Bf,KX,hl,hw,u1,hh];all_goals (repeat' split)<;>first|rfl|omega|(simp_all;done)|(simp_all;omega)|skip
 ·simp -implicitDefEqProofs [Bf,KX]
def OM(l:List Bn)(o:Ob)(h1:wL aW l<=1073741824)(h2:bP o<=1073741824):ev LI TT 30 [.row .af 4 (l.map cu),.agg (aV .af o)]=some (.bool (gG l o),[.dead,.dead]):=by
 rw[aq (b:=Ft) (rs:=[.t 4]) (n:=2) rfl rfl];have u1:=U5 l o h1 h2;try simp at u1
 rw[Rr] at u1;cases hh:gG l o<;>rw[hh] at u1;all_goals try simp at u1
 all_goals
 simp -implicitDefEqProofs [Ft,u1];all_goals (repeat' split)<;>first|rfl|omega|(simp_all;done)|(simp_all;omega)|skip
end M
namespace M
open Go
variable [Lb]
def nW(fs:List aE)(n:ag):ag:=(dr fs n).getD [45]
def valuesOf(ns:List ag)(fs:List aE):List ag:=ns.map (nW fs)
def Nr(ns:List ag)(fs:List aE):(valuesOf ns fs).length=ns.length:=by simp[valuesOf]
def VH(ns:List ag)(fs:List aE)(hb:ns.length<=1073741824)(hf:fs.length<=9223372036854775807):aJ (ak (ev LI TT) (au TT) CH) [(0,.row .af 1 (ns.map eS)),(1,.row .af 2 (fs.map aH)),(5,.row .own 1 (([]).map eS)),(6,.int .i64 0)]=some (.exit 0,[(0,.row .af 1 (ns.map eS)),(1,.row .af 2 (fs.map aH)),(5,.row .own 1 ((((ns).flatMap (λn=>[nW fs n]))).map eS)),(6,.int .i64 (ns).length),(13,.bool false)]):=by
 refine qw (f:=ak (ev LI TT) (au TT) CH) (ns) (λn=>[nW fs n]) (λi out=>[(0,.row .af 1 (ns.map eS)),(1,.row .af 2 (fs.map aH)),(5,.row .own 1 ((out).map eS)),(6,.int .i64 i)]) (λout=>[(0,.row .af 1 (ns.map eS)),(1,.row .af 2 (fs.map aH)),(5,.row .own 1 ((out).map eS)),(6,.int .i64 (ns).length),(13,.bool false)]) (λi b out hi hl hout=>?_) (λout hout=>?_)
 ·have hw:=bx i (by first|omega|(simp at hl;omega));obtain⟨_,rfl⟩:=aN.1 hi;have h:=zT fs ns[i] hf;have hlo:out.length=i:=by rw[hout];exact Ap _ _ _ (by omega)
  have hlz:(i+1)*16<=140737488355328:=by omega
  unfold nW;cases g:dr fs ns[i]<;>rw[g] at h;all_goals
  simp -implicitDefEqProofs [CH,Mu,hl,hw,h,hlo,hlz,cD]
 ·simp -implicitDefEqProofs [CH,Mu]
def O7(ns:List ag)(fs:List aE)(hb:ns.length<=1073741824)(hf:fs.length<=9223372036854775807):ev LI TT 180 [.row .af 1 (ns.map eS),.row .af 2 (fs.map aH)]=some (.row .own 1 ((valuesOf ns fs).map eS),[.dead,.dead]):=by
 rw[aq (b:=GR) (rs:=[.t 4]) (n:=2) rfl rfl];have u1:=VH ns fs hb hf;try simp at u1
 rw[Ao,show ns.map (λn=>nW fs n)=valuesOf ns fs from rfl] at u1;simp -implicitDefEqProofs [GR,u1];all_goals (repeat' split)<;>first|rfl|omega|(simp_all;done)|(simp_all;omega)|skip
def Vc(ns:List ag)(fs:List aE)(hb:ns.length<=1073741824)(hf:fs.length<=9223372036854775807):aJ (ak (ev LI TT) (au TT) Bp) [(0,.row .af 1 (ns.map eS)),(1,.row .af 2 (fs.map aH)),(5,.row .own 1 (([]).map eS)),(10,.row .af 1 (ns.map eS)),(11,.int .i64 ns.length),(12,.int .i64 0)]=some (.exit 0,[(0,.row .af 1 (ns.map eS)),(1,.row .af 2 (fs.map aH)),(5,.row .own 1 ((((ns).flatMap (λn=>[nW fs n]))).map eS)),(10,.row .af 1 (ns.map eS)),(11,.int .i64 ns.length),(12,.int .i64 (ns).length),(13,.bool false)]):=by
 refine qw (f:=ak (ev LI TT) (au TT) Bp) (ns) (λn=>[nW fs n]) (λi out=>[(0,.row .af 1 (ns.map eS)),(1,.row .af 2 (fs.map aH)),(5,.row .own 1 ((out).map eS)),(10,.row .af 1 (ns.map eS)),(11,.int .i64 ns.length),(12,.int .i64 i)]) (λout=>[(0,.row .af 1 (ns.map eS)),(1,.row .af 2 (fs.map aH)),(5,.row .own 1 ((out).map eS)),(10,.row .af 1 (ns.map eS)),(11,.int .i64 ns.length),(12,.int .i64 (ns).length),(13,.bool false)]) (λi b out hi hl hout=>?_) (λout hout=>?_)
 ·have hw:=bx i (by first|omega|(simp at hl;omega));obtain⟨_,rfl⟩:=aN.1 hi;have h:=zQ fs ns[i] hf;have hlo:out.length=i:=by rw[hout];exact Ap _ _ _ (by omega)
  have hlz:(i+1)*16<=140737488355328:=by omega
  unfold nW;cases g:dr fs ns[i]<;>rw[g] at h;all_goals
  simp -implicitDefEqProofs [Bp,K2,hl,hw,h,hlo,hlz,cD]
 ·simp -implicitDefEqProofs [Bp,K2]
def Xk(ns:List ag)(fs:List aE)(hb:ns.length<=1073741824)(hf:fs.length<=9223372036854775807):ev LI TT 104 [.row .af 1 (ns.map eS),.row .af 2 (fs.map aH)]=some (.row .own 1 ((valuesOf ns fs).map eS),[.dead,.dead]):=by
 rw[aq (b:=FE) (rs:=[.t 4]) (n:=2) rfl rfl];have u1:=Vc ns fs hb hf;try simp at u1
 rw[Ao,show ns.map (λn=>nW fs n)=valuesOf ns fs from rfl] at u1;simp -implicitDefEqProofs [FE,u1];all_goals (repeat' split)<;>first|rfl|omega|(simp_all;done)|(simp_all;omega)|skip
def yJ(ns:List ag):Bool:=(cY (λn=>decide (n=[42])) 0 ns).isSome
def VV(ns:List ag)(hb:ns.length<=9223372036854775807):aJ (ak (ev LI TT) (au TT) C9) [(0,.row .af 1 (ns.map eS)),(3,.int .i64 0)]=(cY (λn=>decide (n=[42])) 0 (ns)).elim (some (.exit 0,[(0,.row .af 1 (ns.map eS)),(3,.int .i64 (ns).length),(7,.bool false)])) λx=>some (.ret,(λ(i:Nat) b=>[(2,.bool true)]) x.1 x.2):=by
 refine uD (f:=ak (ev LI TT) (au TT) C9) (ns) (λi=>[(0,.row .af 1 (ns.map eS)),(3,.int .i64 i)]) (λn=>decide (n=[42])) (λ(i:Nat) b=>[(2,.bool true)]) _ (λi b hi hl=>?_) ?_;·have hw:=bx i (by first|omega|(simp at hl;omega));obtain⟨_,rfl⟩:=aN.1 hi;have h42:(⟨#[42]⟩:ByteArray)=⟨([42]:ag).toArray⟩:=rfl;simp -implicitDefEqProofs [C9,MY,hl,hw,h42]
 ·simp -implicitDefEqProofs [C9,MY]
def XZ(ns:List ag)(hb:ns.length<=9223372036854775807):ev LI TT 179 [.row .af 1 (ns.map eS)]=some (.bool (yJ ns),[.dead]):=by
 rw[aq (b:=Da) (rs:=[.t 2]) (n:=1) rfl rfl];have u1:=VV ns hb;try simp at u1
 unfold yJ;cases g:cY (λn=>decide (n=([42]:ag))) 0 ns with
 |none=>rw[g] at u1;simp at u1;simp -implicitDefEqProofs [Da,u1]
 |some x=>
 rw[g] at u1;simp at u1;simp -implicitDefEqProofs [Da,u1];all_goals (repeat' split)<;>first|rfl|omega|(simp_all;done)|(simp_all;omega)|skip
def V1(ns:List ag)(s:ag)(hb:ns.length<=9223372036854775807):aJ (ak (ev LI TT) (au TT) Dx) [(0,.row .af 1 (ns.map eS)),(1,.str ⟨s.toArray⟩),(7,.int .i64 ns.length),(8,.int .i64 0)]=(cY (λn=>decide (n=s)) 0 (ns)).elim (some (.exit 0,[(0,.row .af 1 (ns.map eS)),(1,.str ⟨s.toArray⟩),(7,.int .i64 ns.length),(8,.int .i64 (ns).length),(9,.bool false)])) λx=>some (.ret,(λ(i:Nat) b=>[(4,.int .i64 i)]) x.1 x.2):=by
 refine uD (f:=ak (ev LI TT) (au TT) Dx) (ns) (λi=>[(0,.row .af 1 (ns.map eS)),(1,.str ⟨s.toArray⟩),(7,.int .i64 ns.length),(8,.int .i64 i)]) (λn=>decide (n=s)) (λ(i:Nat) b=>[(4,.int .i64 i)]) _ (λi b hi hl=>?_) ?_;·have hw:=bx i (by first|omega|(simp at hl;omega));obtain⟨_,rfl⟩:=aN.1 hi;simp -implicitDefEqProofs [Dx,Nz,hl,hw,eq_comm (a:=s)]
 ·simp -implicitDefEqProofs [Dx,Nz]
def X7(ns:List ag)(s:ag)(hb:ns.length<=9223372036854775807):ev LI TT 182 [.row .af 1 (ns.map eS),.str ⟨s.toArray⟩]=some (.int .i64 (((cY (λn=>decide (n=s)) 0 ns).elim (-1) λx=>(x.1:Int))),[.dead,.dead]):=by
 rw[aq (b:=Dy) (rs:=[.t 4]) (n:=2) rfl rfl];have u1:=V1 ns s hb;try simp at u1
 cases g:cY (λn=>decide (n=s)) 0 ns with
 |none=>rw[g] at u1;simp at u1;simp -implicitDefEqProofs [Dy,u1]
 |some x=>
 rw[g] at u1;simp at u1;simp -implicitDefEqProofs [Dy,u1];all_goals (repeat' split)<;>first|rfl|omega|(simp_all;done)|(simp_all;omega)|skip
def X4(ns:List ag)(s:ag)(hb:ns.length<=9223372036854775807):ev LI TT 102 [.row .af 1 (ns.map eS),.str ⟨s.toArray⟩]=some (.bool ((cY (λn=>decide (n=s)) 0 ns).isSome),[.dead,.dead]):=by
 rw[aq (b:=Dr) (rs:=[.t 4]) (n:=2) rfl rfl];have u1:=X7 ns s hb;try simp at u1
 cases g:cY (λn=>decide (n=s)) 0 ns with
 |none=>rw[g] at u1;simp at u1;simp -implicitDefEqProofs [Dr,u1]
 |some x=>
 rw[g] at u1;simp at u1;simp -implicitDefEqProofs [Dr,u1];all_goals (repeat' split)<;>first|rfl|omega|(simp_all;done)|(simp_all;omega)|skip
def pg(ns vs:List ag)(fs:List aE):Bool:= !yJ ns && decide (valuesOf ns fs=vs)
def XP(ns:List ag)(vs:List ag)(fs:List aE)(hb:ns.length<=1073741824)(hv:vs.length<=1073741824)(hf:fs.length<=9223372036854775807):ev LI TT 97 [.row .af 1 (ns.map eS),.row .af 1 (vs.map eS),.row .af 2 (fs.map aH)]=some (.bool (pg ns vs fs),[.dead,.dead,.dead]):=by
 rw[aq (b:=GN) (rs:=[.t 6]) (n:=3) rfl rfl];have u1:=XZ ns (by omega);try simp at u1
 have u2:=O7 ns fs hb hf;try simp at u2
 have u3:=Eh (valuesOf ns fs) vs (by rw[Nr];omega) (by omega);try simp at u3
 unfold pg;cases g:yJ ns<;>rw[g] at u1;all_goals
 simp -implicitDefEqProofs [GN,u1,u2,u3];all_goals (repeat' split)<;>first|rfl|omega|(simp_all;done)|(simp_all;omega)|skip
def OR(ns:List ag)(vs:List ag)(fs:List aE)(hb:ns.length<=1073741824)(hv:vs.length<=1073741824)(hf:fs.length<=9223372036854775807):ev LI TT 29 [.row .af 1 (ns.map eS),.row .af 1 (vs.map eS),.row .af 2 (fs.map aH)]=some (.bool (pg ns vs fs),[.dead,.dead,.dead]):=by
 rw[aq (b:=FB) (rs:=[.t 6]) (n:=3) rfl rfl];have u1:=X4 ns [42] (by omega);try simp at u1
 have u2:=Xk ns fs hb hf;try simp at u2
 have u3:=Pg (valuesOf ns fs) vs (by rw[Nr];omega);try simp at u3
 rw[show (cY (λn:ag=>decide (n=[42])) 0 ns).isSome=yJ ns from rfl] at u1;unfold pg;cases g:yJ ns<;>rw[g] at u1;all_goals
 simp -implicitDefEqProofs [FB,u1,u2,u3];all_goals (repeat' split)<;>first|rfl|omega|(simp_all;done)|(simp_all;omega)|skip
end M
set_option maxHeartbeats 4000000
namespace M
open Go
variable [Lb]
def zV(o:Ob)(hb:bP o<=1073741824):ev LI TT 99 [.agg (aV .af o)]=some (.agg (aV .own o),[.dead]):=by
 rw[aq (b:=GU) (rs:=[.c 2 7 true 31]) (n:=1) rfl rfl];have hw:bP o=o.path.length+wL wS o.names+wL wS o.values+bQ o.resp:=rfl;have fk:bQ o.resp=wL aF o.resp.fields+o.resp.body.length:=rfl;have l1:=bp (w:=aF) o.resp.fields;have l2:=bp (w:=wS) o.names;have l3:=bp (w:=wS) o.values;have u1:=Pf o.resp (by omega);try simp at u1
 simp -implicitDefEqProofs [GU,u1,HM,rowAt,(by omega:o.names.length*16<=140737488355328),(by omega:o.values.length*16<=140737488355328)];all_goals (repeat' split)<;>first|rfl|omega|(simp_all;done)|(simp_all;omega)|skip
def Xm(o:Ob)(hb:bP o<=1073741824):ev LI TT 178 [.agg (aV .af o)]=some (.agg (aV .own o),[.dead]):=by
 rw[aq (b:=FH) (rs:=[.c 2 7 true 31]) (n:=1) rfl rfl];have hw:bP o=o.path.length+wL wS o.names+wL wS o.values+bQ o.resp:=rfl;have fk:bQ o.resp=wL aF o.resp.fields+o.resp.body.length:=rfl;have l1:=bp (w:=aF) o.resp.fields;have l2:=bp (w:=wS) o.names;have l3:=bp (w:=wS) o.values;have u1:=Xn o.resp (by omega);try simp at u1
 have u2:=RT o.names (by omega);try simp at u2
 have u3:=RT o.values (by omega);try simp at u3
 simp -implicitDefEqProofs [FH,u1,u2,u3];all_goals (repeat' split)<;>first|rfl|omega|(simp_all;done)|(simp_all;omega)|skip
def ue(s:Sh)(q:Rq)(k:Kp):Bool:=decide (k.obj.path=q.path) && pg k.obj.names k.obj.values q.fields && !gG s.aG k.obj
def wB(s:Sh)(q:Rq):Option Ob:=(s.ai.reverse.find? (ue s q)).map λk=>k.obj
def di(s:Sh)(q:Rq):Option Ob:=if dI s=true then wB s q else none
def bY:Ob:=⟨[],[],[],⟨0,[],[]⟩,0⟩
def Vp(s:Sh)(q:Rq)(hs:bw s<=100000000)(hq:dh q<=100000000)(hok:dI s=true):
  aJ (ak (ev LI TT) (au TT) oX) [(2,.ptr .own (aO .af s)),(3,.ptr .own (dw .af q)),(4,.ptr .own (aV .own bY)),(6,.int .i64 (s.ai.length - 1))]=(s.ai.reverse.find? (ue s q)).elim (some (.exit 0,[(2,.ptr .own (aO .af s)),(3,.ptr .own (dw .af q)),(4,.ptr .own (aV .own bY)),(6,.int .i64 (-1)),(17,.bool false)])) (λk=>some (.ret,[(4,.ptr .own (aV .own k.obj)),(5,.bool true)])):=by
 have dR:bw s=bW s.aI+wL bO s.ai+wL aW s.aG:=rfl;have wU:dh q=q.path.length+wL aF q.fields+q.body.length:=rfl;have si:=bp (w:=aF) q.fields;have hlo:=bp (w:=bO) s.ai;refine ad3 (f:=ak (ev LI TT) (au TT) oX) s.ai (λi=>[(2,.ptr .own (aO .af s)),(3,.ptr .own (dw .af q)),(4,.ptr .own (aV .own bY)),(6,.int .i64 i)]) (ue s q) (λk=>[(4,.ptr .own (aV .own k.obj)),(5,.bool true)]) _ (λi b hi hl=>?_) ?_
 ·have hw:IntKind.i64.wrap ((i:Int) - 1)=(i:Int) - 1:=cy (by omega) (by omega);obtain⟨_,rfl⟩:=aN.1 hi;have hm:=tq (cN hl);have ho:bP (s.ai[i]).obj=(s.ai[i]).obj.path.length+wL wS (s.ai[i]).obj.names+wL wS (s.ai[i]).obj.values+bQ (s.ai[i]).obj.resp:=rfl;have l2:=bp (w:=wS) (s.ai[i]).obj.names;have l3:=bp (w:=wS) (s.ai[i]).obj.values;have u1:=Ed s (by omega);have u2:=XP (s.ai[i]).obj.names (s.ai[i]).obj.values q.fields (by omega) (by omega) (by omega);have u3:=Ec s.aG (s.ai[i]).obj (by omega) (by omega);have u4:=zV (s.ai[i]).obj (by omega);rw[hok] at u1;unfold ue;generalize pg (s.ai[i]).obj.names (s.ai[i]).obj.values q.fields=b2 at u2;generalize gG s.aG (s.ai[i]).obj=b3 at u3;have gp:(0:Int)<=i:=by omega
  try simp at u1
  try simp at u2
  try simp at u3
  try simp at u4
  by_cases g1:(s.ai[i]).obj.path=q.path;rotate_left;·simp -implicitDefEqProofs [oX,uO,hl,hw,gp,u1,eq_false g1]
  cases b2;·simp -implicitDefEqProofs [oX,uO,hl,hw,gp,u1,u2,eq_true g1]
  cases b3;·simp -implicitDefEqProofs [oX,uO,hl,hw,gp,u1,u2,u3,u4,eq_true g1]
  ·simp -implicitDefEqProofs [oX,uO,hl,hw,gp,u1,u2,u3,u4,eq_true g1]
 ·simp -implicitDefEqProofs [oX,uO]
def XD(s:Sh)(q:Rq)(hs:bw s<=100000000)(hq:dh q<=100000000):ev LI TT 26 [.agg (aO .af s),.agg (dw .af q)]=some (.aj [.agg (aV .own ((di s q).getD bY)),.bool ((di s q).isSome)],[.dead,.dead]):=by
 rw[aq (b:=xQ) (rs:=[.c 4 7 true 31,.t 5]) (n:=2) rfl rfl];have dR:bw s=bW s.aI+wL bO s.ai+wL aW s.aG:=rfl;have hlo:=bp (w:=bO) s.ai;have hw:IntKind.i64.wrap ((s.ai.length:Int) - 1)=(s.ai.length:Int) - 1:=cy (by omega) (by omega);unfold di;by_cases hok:dI s=true
 ·have h:=Vp s q hs hq hok;unfold wB;cases hf:s.ai.reverse.find? (ue s q) with
  |none=>rw[hf] at h;simp[bY] at h;simp -implicitDefEqProofs [xQ,h,hw,hok,bY]
  |some k=>rw[hf] at h;simp[bY] at h;simp -implicitDefEqProofs [xQ,h,hw,hok,bY]
 have u1:=Ed s (by omega);rw[show dI s=false by simpa using hok] at u1;try simp at u1
 have hlp:∀(i:Int),aJ (ak (ev LI TT) (au TT) oX) [(2,.ptr .own (aO .af s)),(3,.ptr .own (dw .af q)),(4,.ptr .own (aV .own bY)),(6,.int .i64 i)]=some (.exit 0,[(2,.ptr .own (aO .af s)),(3,.ptr .own (dw .af q)),(4,.ptr .own (aV .own bY)),(6,.int .i64 i),(17,.bool false)]):=by intro i;rw[dS];by_cases hi:0<=i<;>simp -implicitDefEqProofs [oX,uO,u1,hi]
 have h:=hlp (s.ai.length - 1);simp[bY] at h;simp -implicitDefEqProofs [xQ,h,hw,hok,bY];all_goals (repeat' split)<;>first|rfl|omega|(simp_all;done)|(simp_all;omega)|skip
end M
set_option maxHeartbeats 4000000
namespace M
open Go
variable [Lb]
structure Cc where
 ns:Bool
 nc:Bool
 pr:Bool
 mu:Bool
 ha:Bool
 rA:Int
@[simp] def gi(c:Cc):List X:=[.bool c.ns,.bool c.nc,.bool c.pr,.bool c.mu,.bool c.ha,.int .i64 c.rA]
def fM:Cc:=⟨false,false,false,false,false,0⟩
def BS:ag:=[110,111,45,115,116,111,114,101]
def BR:ag:=[110,111,45,99,97,99,104,101]
def BT:ag:=[112,114,105,118,97,116,101]
def BQ:ag:=[109,117,115,116,45,114,101,118,97,108,105,100,97,116,101]
def lQ:ag:=[109,97,120,45,97,103,101,61]
def vX(w:ag):Option Nat:=if Lib.hasPrefix w lQ=true then some ((bT (w.drop 8)).getD 0) else none
def oq(c:Cc)(w:ag):Cc:=if w=BS then {c with ns:=true} else if w=BR then {c with nc:=true} else if w=BT then {c with pr:=true} else if w=BQ then {c with mu:=true} else
 match vX w with
 |some n=>{c with ha:=true,rA:=if c.ha=true then min (n:Int) c.rA else n}
 |none=>c
def tV(v:ag):Cc:=(iI v).foldl (λc w=>oq c (cC w)) fM
def fS(fs:List aE):Cc:=tV ((dr fs nH).getD [])
def LC:(⟨#[110,111,45,115,116,111,114,101]⟩:ByteArray)=⟨BS.toArray⟩/\(⟨#[110,111,45,99,97,99,104,101]⟩:ByteArray)=⟨BR.toArray⟩/\(⟨#[112,114,105,118,97,116,101]⟩:ByteArray)=⟨BT.toArray⟩/\(⟨#[109,117,115,116,45,114,101,118,97,108,105,100,97,116,101]⟩:ByteArray)=⟨BQ.toArray⟩/\(⟨#[109,97,120,45,97,103,101,61]⟩:ByteArray)=⟨lQ.toArray⟩:=⟨rfl,rfl,rfl,rfl,rfl⟩
def XX(w:ag)(hb:w.length<=1073741824):ev LI TT 229 [.str ⟨w.toArray⟩]=some (.aj [.int .i64 ((((vX w).getD 0:Nat):Int)),.bool ((vX w).isSome)],[.dead]):=by
 rw[aq (b:=yC) (rs:=[.t 2,.t 3]) (n:=1) rfl rfl];have hp:=Lib.hasPrefix_of_take w lQ;have l8:lQ.length=8:=rfl;have z:lQ.toArray.size=8:=rfl;obtain⟨t1,t2,t3,t4,t5⟩:=LC;rw[l8] at hp;unfold vX;by_cases g8:w.length<8
 ·have:Lib.hasPrefix w lQ=false:=by rw[<-hp];simp;omega
  have kf:(w.length:Int)<8:=by omega
  simp -implicitDefEqProofs [yC,t5,this,g8,kf,ByteArray.size,z,l8]
 have kf:¬(w.length:Int)<8:=by omega
 have g9:(8:Int)<=w.length:=by omega
 have g10:8<=w.length:=by omega
 have g11:decide (8<=w.length)=true:=by simp;omega
 rw[g11,NU] at hp;by_cases g:w.take 8=lQ;rotate_left
 ·have:Lib.hasPrefix w lQ=false:=by rw[<-hp];simpa using g
  simp -implicitDefEqProofs [yC,t5,this,g8,kf,g9,g10,ByteArray.size,z,l8,Lib.extract_mk,eq_false g]
 have:Lib.hasPrefix w lQ=true:=by rw[<-hp];simpa using g
 have u1:=tT (w.drop 8) (by simp;omega);have hz:(w.drop 8).take (w.length - 8)=w.drop 8:=zc (by simp);simp -implicitDefEqProofs [yC,t5,this,g8,kf,g9,g10,ByteArray.size,z,l8,Lib.extract_mk,eq_true g,u1,hz];all_goals (repeat' split)<;>first|rfl|omega|(simp_all;done)|(simp_all;omega)|skip
def Vj(ws:List ag)(hl0:ws.length<=1073741825)(hb:∀w∈ws,w.length<=1073741824)(g:Cc):aJ (ak (ev LI TT) (au TT) oW) [(2,.ptr .own (gi fM)),(3,.ptr .own (gi g)),(4,.row .own 1 (ws.map eS)),(5,.int .i64 0)]=some (.exit 0,[(2,.ptr .own (gi fM)),(3,.ptr .own (gi ((ws).foldl (λc w=>oq c (cC w)) g))),(4,.row .own 1 (ws.map eS)),(5,.int .i64 (ws).length),(15,.bool false)]):=by
 refine F4 (f:=ak (ev LI TT) (au TT) oW) (ws) (λi (g:Cc)=>[(2,.ptr .own (gi fM)),(3,.ptr .own (gi g)),(4,.row .own 1 (ws.map eS)),(5,.int .i64 i)]) (λc w=>oq c (cC w)) (λg=>[(2,.ptr .own (gi fM)),(3,.ptr .own (gi g)),(4,.row .own 1 (ws.map eS)),(5,.int .i64 (ws).length),(15,.bool false)]) (λ_ _=>True) g trivial (λi b g hi hl _=>?_) (λ_ _ _ _ _=>trivial) (λg _=>?_)
 ·have hw:=bx i (by first|omega|(simp at hl;omega));obtain⟨_,rfl⟩:=aN.1 hi;obtain⟨t1,t2,t3,t4,t5⟩:=LC;have hx:=hb _ (cN hl);have v1:=O0 ws[i] hx;have v2:(cC ws[i]).length<=1073741824:=by simp[cC];exact hx
  generalize cC ws[i]=w at v1 v2;have v3:=XX w v2;try simp at v1
  try simp at v3
  unfold oq;by_cases g1:w=BS;·simp -implicitDefEqProofs [oW,sQ,hl,hw,v1,v3,t1,eq_true g1,fM]
  by_cases g2:w=BR;·simp -implicitDefEqProofs [oW,sQ,hl,hw,v1,v3,t1,t2,eq_false g1,eq_true g2,fM]
  by_cases g3:w=BT;·simp -implicitDefEqProofs [oW,sQ,hl,hw,v1,v3,t1,t2,t3,eq_false g1,eq_false g2,eq_true g3,fM]
  by_cases g4:w=BQ;·simp -implicitDefEqProofs [oW,sQ,hl,hw,v1,v3,t1,t2,t3,t4,eq_false g1,eq_false g2,eq_false g3,eq_true g4,fM]
  cases ha:vX w with
  |none=>rw[ha] at v3;simp at v3;simp -implicitDefEqProofs [oW,sQ,hl,hw,v1,v3,t1,t2,t3,t4,eq_false g1,eq_false g2,eq_false g3,eq_false g4,fM]
  |some n=>
  rw[ha] at v3;simp at v3;cases gh:g.ha;all_goals
  simp -implicitDefEqProofs [oW,sQ,hl,hw,v1,v3,t1,t2,t3,t4,eq_false g1,eq_false g2,eq_false g3,eq_false g4,gh,fM];all_goals (repeat' split)<;>first|rfl|omega|(simp_all;done)|(simp_all;omega)|skip
 ·simp -implicitDefEqProofs [oW,sQ]
def Xy(v:ag)(hb:v.length<=1073741824):ev LI TT 166 [.str ⟨v.toArray⟩]=some (.agg (gi (tV v)),[.dead]):=by
 rw[aq (b:=Gq) (rs:=[.c 2 6 true 72]) (n:=1) rfl rfl];have hm:=yY v;have hn:=Dp v;have u1:=O6 v hb;try simp at u1
 have u2:=Vj (iI v) (by omega) (λw hw=>by have:=hm w hw;omega) fM;try simp at u2
 rw[show (iI v).foldl (λc w=>oq c (cC w)) fM=tV v from rfl] at u2;simp[fM] at u2;simp -implicitDefEqProofs [Gq,u1,u2,fM];all_goals (repeat' split)<;>first|rfl|omega|(simp_all;done)|(simp_all;omega)|skip
def zR(fs:List aE)(hb:wL aF fs<=1073741824):ev LI TT 80 [.row .af 2 (fs.map aH)]=some (.agg (gi (fS fs)),[.dead]):=by
 rw[aq (b:=Gp) (rs:=[.c 2 6 true 72]) (n:=1) rfl rfl];have hfl:=bp (w:=aF) fs;have hg:=oA fs nH;have t3:(⟨#[99,97,99,104,101,45,99,111,110,116,114,111,108]⟩:ByteArray)=⟨nH.toArray⟩:=rfl;have u1:=zT fs nH (by omega);try simp at u1
 have u2:=Xy ((dr fs nH).getD []) (by omega);try simp at u2
 rw[show tV ((dr fs nH).getD [])=fS fs from rfl] at u2;simp -implicitDefEqProofs [Gp,u1,u2,t3];all_goals (repeat' split)<;>first|rfl|omega|(simp_all;done)|(simp_all;omega)|skip
def Ye{w:ag}(h:w=BS\/w=BR\/w=BT\/w=BQ):Lib.hasPrefix w lQ=false:=by rcases h with rfl|rfl|rfl|rfl<;>decide
def W4(c:Cc)(w:ag)(hb:w.length<=1073741824):ev LI TT 192 [.ptr .own (gi c),.str ⟨w.toArray⟩]=some (.aj [],[.ptr .own (gi (oq c w)),.dead]):=by
 rw[aq (b:=qj) (rs:=[]) (n:=2) rfl rfl];obtain⟨t1,t2,t3,t4,t5⟩:=LC;have v3:=X8 w lQ (by omega);have hword:=Ye (w:=w);unfold oq;by_cases g1:w=BS;·rw[hword (Or.inl g1)] at v3;simp -implicitDefEqProofs [qj,v3,t1,t5,eq_true g1]
 by_cases g2:w=BR;·rw[hword (by simp[g2])] at v3;simp -implicitDefEqProofs [qj,v3,t1,t2,t5,eq_false g1,eq_true g2]
 by_cases g3:w=BT;·rw[hword (by simp[g3])] at v3;simp -implicitDefEqProofs [qj,v3,t1,t2,t3,t5,eq_false g1,eq_false g2,eq_true g3]
 by_cases g4:w=BQ;·rw[hword (by simp[g4])] at v3;simp -implicitDefEqProofs [qj,v3,t1,t2,t3,t4,t5,eq_false g1,eq_false g2,eq_false g3,eq_true g4]
 unfold vX;cases hp:Lib.hasPrefix w lQ;·rw[hp] at v3;simp -implicitDefEqProofs [qj,v3,t1,t2,t3,t4,t5,eq_false g1,eq_false g2,eq_false g3,eq_false g4]
 rw[hp,show Lib.trimPrefix w lQ=w.drop 8 by unfold Lib.trimPrefix;rw[hp];rfl] at v3;have v4:=OO (w.drop 8) (by simp;omega);try simp at v3
 try simp at v4
 generalize (bT (w.drop 8)).getD 0=n at v4;cases gh:c.ha;all_goals
 simp -implicitDefEqProofs [qj,v3,v4,t1,t2,t3,t4,t5,eq_false g1,eq_false g2,eq_false g3,eq_false g4,gh];all_goals (repeat' split)<;>first|rfl|omega|(simp_all;done)|(simp_all;omega)|skip
def UZ(ws:List ag)(hl0:ws.length<=1073741825)(hb:∀w∈ws,w.length<=1073741824)(g:Cc):aJ (ak (ev LI TT) (au TT) Bb) [(2,.ptr .own (gi fM)),(3,.ptr .own (gi g)),(7,.row .own 1 (ws.map eS)),(8,.int .i64 ws.length),(9,.int .i64 0)]=some (.exit 0,[(2,.ptr .own (gi fM)),(3,.ptr .own (gi ((ws).foldl (λc w=>oq c (cC w)) g))),(7,.row .own 1 (ws.map eS)),(8,.int .i64 ws.length),(9,.int .i64 (ws).length),(10,.bool false)]):=by
 refine F4 (f:=ak (ev LI TT) (au TT) Bb) (ws) (λi (g:Cc)=>[(2,.ptr .own (gi fM)),(3,.ptr .own (gi g)),(7,.row .own 1 (ws.map eS)),(8,.int .i64 ws.length),(9,.int .i64 i)]) (λc w=>oq c (cC w)) (λg=>[(2,.ptr .own (gi fM)),(3,.ptr .own (gi g)),(7,.row .own 1 (ws.map eS)),(8,.int .i64 ws.length),(9,.int .i64 (ws).length),(10,.bool false)]) (λ_ _=>True) g trivial (λi b g hi hl _=>?_) (λ_ _ _ _ _=>trivial) (λg _=>?_)
 ·have hw:=bx i (by first|omega|(simp at hl;omega));obtain⟨_,rfl⟩:=aN.1 hi;have hx:=hb _ (cN hl);have v1:=ON ws[i] hx;have v2:(cC ws[i]).length<=1073741824:=by simp[cC];exact hx
  have v3:=W4 g (cC ws[i]) v2;try simp at v1
  try simp at v3
  simp -implicitDefEqProofs [Bb,KV,hl,hw,v1,v3,fM];all_goals (repeat' split)<;>first|rfl|omega|(simp_all;done)|(simp_all;omega)|skip
 ·simp -implicitDefEqProofs [Bb,KV]
def WZ(v:ag)(hb:v.length<=1073741824):ev LI TT 119 [.str ⟨v.toArray⟩]=some (.agg (gi (tV v)),[.dead]):=by
 rw[aq (b:=Fo) (rs:=[.c 2 6 true 72]) (n:=1) rfl rfl];have hm:=yY v;have hn:=Dp v;have u1:=OQ v hb;try simp at u1
 have u2:=UZ (iI v) (by omega) (λw hw=>by have:=hm w hw;omega) fM;try simp at u2
 rw[show (iI v).foldl (λc w=>oq c (cC w)) fM=tV v from rfl] at u2;simp[fM] at u2;simp -implicitDefEqProofs [Fo,u1,u2,fM];all_goals (repeat' split)<;>first|rfl|omega|(simp_all;done)|(simp_all;omega)|skip
def zP(fs:List aE)(hb:wL aF fs<=1073741824):ev LI TT 39 [.row .af 2 (fs.map aH)]=some (.agg (gi (fS fs)),[.dead]):=by
 rw[aq (b:=Fm) (rs:=[.c 2 6 true 72]) (n:=1) rfl rfl];have hfl:=bp (w:=aF) fs;have hg:=oA fs nH;have t3:(⟨#[99,97,99,104,101,45,99,111,110,116,114,111,108]⟩:ByteArray)=⟨nH.toArray⟩:=rfl;have u1:=zQ fs nH (by omega);try simp at u1
 have u2:=WZ ((dr fs nH).getD []) (by omega);try simp at u2
 rw[show tV ((dr fs nH).getD [])=fS fs from rfl] at u2;simp -implicitDefEqProofs [Fm,u1,u2,t3];all_goals (repeat' split)<;>first|rfl|omega|(simp_all;done)|(simp_all;omega)|skip
end M
set_option maxHeartbeats 4000000
namespace M
open Go
variable [Lb]
def O3(q:Rq)(hb:dh q<=1073741824):ev LI TT 78 [.agg (dw .af q)]=some (.bool (oR q),[.dead]):=by
 rw[aq (b:=xV) (rs:=[.t 2]) (n:=1) rfl rfl];have ur:dh q=q.path.length+wL aF q.fields+q.body.length:=rfl;unfold oR;have u1:=Jt q.path (by omega);try simp at u1
 have u2:=OZ q.fields (by omega);try simp at u2
 by_cases g1:1<=q.method;rotate_left;·simp -implicitDefEqProofs [xV,u1,u2,eq_false g1]
 by_cases g2:q.method<=4;rotate_left;·simp -implicitDefEqProofs [xV,u1,u2,eq_true g1,eq_false g2]
 cases g3:ij q.path<;>cases g4:jF q.fields<;>rw[g3] at u1<;>rw[g4] at u2;all_goals
 simp -implicitDefEqProofs [xV,u1,u2,eq_true g1,eq_true g2];all_goals (repeat' split)<;>first|rfl|omega|(simp_all;done)|(simp_all;omega)|skip
def Xe(q:Rq)(hb:dh q<=1073741824):ev LI TT 81 [.agg (dw .af q)]=some (.bool (oR q),[.dead]):=by
 rw[aq (b:=wX) (rs:=[.t 2]) (n:=1) rfl rfl];have ur:dh q=q.path.length+wL aF q.fields+q.body.length:=rfl;unfold oR;have u1:=Jk q.path (by omega);try simp at u1
 have u2:=OK q.fields (by omega);try simp at u2
 by_cases g1:1<=q.method;rotate_left;·simp -implicitDefEqProofs [wX,u1,u2,eq_false g1]
 by_cases g2:q.method<=4;rotate_left;·simp -implicitDefEqProofs [wX,u1,u2,eq_true g1,eq_false g2]
 cases g3:ij q.path<;>cases g4:jF q.fields<;>rw[g3] at u1<;>rw[g4] at u2;all_goals
 simp -implicitDefEqProofs [wX,u1,u2,eq_true g1,eq_true g2];all_goals (repeat' split)<;>first|rfl|omega|(simp_all;done)|(simp_all;omega)|skip
def kE(q:Rq):Bool:=oR q && decide (q.method=1) && !(fS q.fields).ns
def Wp(a b:Rq):Bool:=kE a && kE b && decide (a.path=b.path) && decide (a.fields=b.fields)
def Xq(q:Rq)(hb:dh q<=1073741824):ev LI TT 76 [.agg (dw .af q)]=some (.bool (kE q),[.dead]):=by
 rw[aq (b:=FM) (rs:=[.t 2]) (n:=1) rfl rfl];have ur:dh q=q.path.length+wL aF q.fields+q.body.length:=rfl;unfold kE;have u1:=Xe q hb;try simp at u1
 have u2:=zP q.fields (by omega);try simp at u2
 cases g3:oR q<;>rw[g3] at u1;all_goals by_cases g4:q.method=1
 all_goals
 simp -implicitDefEqProofs [FM,u1,u2,g4];all_goals (repeat' split)<;>first|rfl|omega|(simp_all;done)|(simp_all;omega)|skip
end M
set_option maxHeartbeats 4000000
namespace M
open Go
variable [Lb]
end M
set_option maxHeartbeats 4000000
namespace M
open Go
variable [Lb]
end M
set_option maxHeartbeats 4000000
namespace M
open Go
variable [Lb]
def Eg(d:bD)(h1:d.cells.length<=1073741824)(h2:d.pending.length<=1073741824):ev LI TT 137 [.agg (cV .af d)]=some (.agg (cV .own d),[.dead]):=by rw[aq (b:=GW) (rs:=[.c 2 2 true 50]) (n:=1) rfl rfl];simp -implicitDefEqProofs [GW,HM,Tz,rowAt,(by omega:d.cells.length*16<=140737488355328),(by omega:d.pending.length*24<=140737488355328),GX,Mx,GY,My,Mz,MA];all_goals (repeat' split)<;>first|rfl|omega|(simp_all;done)|(simp_all;omega)|skip
def Ox(ws:List Wr):Prop:=∀w∈ws,0<=w.at_/\w.at_<=19
def ju{d:bD}(h:cS d=true):Ox d.pending/\d.cells.length=20/\d.pending.length<=16:=by simp only[cS,av,aZ] at h;refine⟨λw hw=>?_,by omega,by omega⟩;simpa [nM] using ff.1 h.1.1 w hw
def gY(d:bD):bD:=⟨qu (kS [] true) d.cells d.pending,[]⟩
def VK(d:bD)(keep:List Bool)(all:Bool)(hb:d.pending.length<=9223372036854775807)(ho:Ox d.pending)(hk:keep.length<=9223372036854775807)(cs:List ag)(hinv:cs.length=20):aJ (ak (ev LI TT) (au TT) vp) [(1,.row .af 1 (keep.map eB)),(2,.bool all),(3,.ptr .own (cV .af d)),(6,.ptr .own [.row .own 1 [],.row .own 2 []]),(7,.ptr .own [.row .own 1 ((cs).map eS),.row .own 2 []]),(8,.int .i64 0)]=some (.exit 0,[(1,.row .af 1 (keep.map eB)),(2,.bool all),(3,.ptr .own (cV .af d)),(6,.ptr .own [.row .own 1 [],.row .own 2 []]),(7,.ptr .own [.row .own 1 (((foldI (lP (kS keep all)) 0 (d.pending) cs)).map eS),.row .own 2 []]),(8,.int .i64 (d.pending).length),(18,.bool false)]):=by
 refine kT (f:=ak (ev LI TT) (au TT) vp) (d.pending) (λi (cs:List ag)=>[(1,.row .af 1 (keep.map eB)),(2,.bool all),(3,.ptr .own (cV .af d)),(6,.ptr .own [.row .own 1 [],.row .own 2 []]),(7,.ptr .own [.row .own 1 ((cs).map eS),.row .own 2 []]),(8,.int .i64 i)]) (lP (kS keep all)) (λcs=>[(1,.row .af 1 (keep.map eB)),(2,.bool all),(3,.ptr .own (cV .af d)),(6,.ptr .own [.row .own 1 [],.row .own 2 []]),(7,.ptr .own [.row .own 1 ((cs).map eS),.row .own 2 []]),(8,.int .i64 (d.pending).length),(18,.bool false)]) (λi (cs:List ag)=>cs.length=20) cs hinv (λi b cs hi hl hinv=>?_) (λi b cs hi hinv=>?_) (λcs hinv=>?_)
 ·have hw:=bx i (by first|omega|(simp at hl;omega));obtain⟨_,rfl⟩:=aN.1 hi;have h1:=ho _ (cN hl);have h2:(d.pending[i]).at_.toNat<cs.length:=by omega
  cases all
  ·by_cases h4:i<keep.length;·cases h5:keep[i]<;>simp -implicitDefEqProofs [vp,CM,hl,hw,h1,h2,lP,kS,h4,h5]
   ·simp -implicitDefEqProofs [vp,CM,hl,hw,h1,h2,lP,kS,h4]
  simp -implicitDefEqProofs [vp,CM,hl,hw,h1,h2,lP,kS]
 ·rw[RZ];exact hinv
 ·simp -implicitDefEqProofs [vp,CM]
def O8(d:bD)(keep:List Bool)(all:Bool)(h:cS d=true)(hk:keep.length<=9223372036854775807):ev LI TT 221 [.agg (cV .af d),.row .af 1 (keep.map eB),.bool all]=some (.agg (cV .own (⟨qu (kS keep all) d.cells d.pending,[]⟩)),[.dead,.dead,.dead]):=by
 rw[aq (b:=G5) (rs:=[.c 6 2 true 50]) (n:=3) rfl rfl];obtain⟨h0,h1,h1'⟩:=ju h;have h2:=VK d keep all (by omega) h0 hk d.cells h1;try simp at h2
 simp -implicitDefEqProofs [G5,h1,h2,qu,HM,rowAt];all_goals (repeat' split)<;>first|rfl|omega|(simp_all;done)|(simp_all;omega)|skip
def zS(d:bD)(h:cS d=true):ev LI TT 148 [.agg (cV .af d)]=some (.agg (cV .own (gY d)),[.dead]):=by
 rw[aq (b:=Gz) (rs:=[.c 2 2 true 50]) (n:=1) rfl rfl];obtain⟨h0,h1,h1'⟩:=ju h;have h2:=tS d (by omega);have h3:=O8 d [] true h (by simp);rw[h] at h2;try simp at h2
 try simp at h3
 simp -implicitDefEqProofs [Gz,h2,h3,gY];all_goals (repeat' split)<;>first|rfl|omega|(simp_all;done)|(simp_all;omega)|skip
def Jl(d:bD)(at_:Int)(t:ag)(h:cS d=true)(ha:0<=at_/\at_<=19)(hp:d.pending.length<16):ev LI TT 122 [.agg (cV .af d),.int .i64 at_,.str ⟨t.toArray⟩]=some (.aj [.agg (cV .own (⟨d.cells,d.pending++[⟨at_,t⟩]⟩)),.bool true],[.dead,.dead,.dead]):=by
 rw[aq (b:=xN) (rs:=[.c 6 2 true 50,.t 7]) (n:=3) rfl rfl];obtain⟨h0,h1,h1'⟩:=ju h;have h2:=tS d (by omega);have h3:=Eg d (by omega) (by omega);rw[h] at h2;try simp at h2
 try simp at h3
 have h4:¬(d.pending.length:Int)=16:=by omega
 have h5:(d.pending.length+1)*24<=140737488355328:=by omega
 simp -implicitDefEqProofs [xN,h2,h3,h4,h5,ha,cD,rowAt];all_goals (repeat' split)<;>first|rfl|omega|(simp_all;done)|(simp_all;omega)|skip
def lT(d:bD)(a:Int)(t:ag):bD:=if 16<=(d.pending.length:Int) then ⟨(gY d).cells,[⟨a,t⟩]⟩ else ⟨d.cells,d.pending++[⟨a,t⟩]⟩
def Gi(s:Sh)(a:Int)(t:ag):Sh:=⟨lT s.aI a t,s.ai,s.aG,s.next,s.seq⟩
def wF{d:bD}(h:cS d=true):cS (gY d)=true:=by obtain⟨h0,h1,h1'⟩:=ju h;have:=RY (kS [] true) d.cells d.pending;unfold cS gY;simp only[this,h1];rfl
def Pb(s:Sh)(at_:Int)(t:ag)(h:cS s.aI=true)(ha:0<=at_/\at_<=19):ev LI TT 145 [.agg (aO .own s),.int .i64 at_,.str ⟨t.toArray⟩]=some (.agg (aO .own (Gi s at_ t)),[.dead,.dead,.dead]):=by
 rw[aq (b:=CW) (rs:=[.c 6 6 true 54]) (n:=3) rfl rfl];obtain⟨h0,h1,h1'⟩:=ju h;have h2:=zS s.aI h;try simp at h2
 unfold Gi lT;by_cases g:(s.aI.pending.length:Int)=16
 ·have h3:=Jl (gY s.aI) at_ t (wF h) ha (by simp[gY]);try simp[gY] at h3
  have g2:(16:Int)<=s.aI.pending.length:=by omega
  simp -implicitDefEqProofs [CW,h2,h3,g,gY]
 have h3:=Jl s.aI at_ t h ha (by omega);try simp at h3
 have g2:¬(16:Int)<=s.aI.pending.length:=by omega
 simp -implicitDefEqProofs [CW,h3,g,g2];all_goals (repeat' split)<;>first|rfl|omega|(simp_all;done)|(simp_all;omega)|skip
def sG(a:Int):Int:=if a=19 then 5 else a+1
def O9(a:Int)(h:5<=a/\a<=19):ev LI TT 139 [.int .i64 a]=some (.int .i64 (sG a),[.dead]):=by rw[aq (b:=G7) (rs:=[.t 2]) (n:=1) rfl rfl];unfold sG;have hw:IntKind.i64.wrap (a+1)=a+1:=cy (by omega) (by omega);simp -implicitDefEqProofs [G7,hw];all_goals (repeat' split)<;>first|rfl|omega|(simp_all;done)|(simp_all;omega)|skip
def k7(a b:Ob):Bool:=decide (a.path=b.path) && decide (a.names=b.names) && decide (a.values=b.values)
def Pc(a:Ob)(b:Ob)(ha:bP a<=1073741824)(hb:bP b<=1073741824):ev LI TT 138 [.agg (aV .af a),.agg (aV .af b)]=some (.bool (k7 a b),[.dead,.dead]):=by
 rw[aq (b:=yt) (rs:=[.t 4]) (n:=2) rfl rfl];have hw:bP a=a.path.length+wL wS a.names+wL wS a.values+bQ a.resp:=rfl;have fk:bP b=b.path.length+wL wS b.names+wL wS b.values+bQ b.resp:=rfl;have l1:=bp (w:=wS) a.names;have l2:=bp (w:=wS) a.values;have l3:=bp (w:=wS) b.names;have l4:=bp (w:=wS) b.values;unfold k7;have u1:=Eh a.names b.names (by omega) (by omega);try simp at u1
 have u2:=Eh a.values b.values (by omega) (by omega);try simp at u2
 by_cases g:a.path=b.path;rotate_left;·simp -implicitDefEqProofs [yt,eq_false g]
 by_cases g2:a.names=b.names;rotate_left;·rw[decide_eq_false g2] at u1;simp -implicitDefEqProofs [yt,eq_true g,u1,eq_false g2]
 rw[decide_eq_true g2] at u1;simp -implicitDefEqProofs [yt,u1,u2,eq_true g,eq_true g2];all_goals (repeat' split)<;>first|rfl|omega|(simp_all;done)|(simp_all;omega)|skip
end M
namespace M
open Go
variable [Lb]
def dn(s:ag):Int×ag×Bool:=match ew 10 s with
 |some (l,b)=>match cw 32 l with
  |[_,w,_]=>if fP ((bT w).getD 0:Nat) b=s then ((((bT w).getD 0:Nat):Int),b,true) else (0,[],false)
  |_=>(0,[],false)
 |none=>(0,[],false)
def O2(s:ag)(hb:s.length<=1073741824):ev LI TT 132 [.str ⟨s.toArray⟩]=some (.aj [.int .i64 ((dn s).1),.str ⟨((dn s).2.1).toArray⟩,.bool ((dn s).2.2)],[.dead]):=by
 rw[aq (b:=qP) (rs:=[.t 2,.t 3,.t 4]) (n:=1) rfl rfl];have u1:=Ef s 0 (by omega) hb;simp only[xk,xj,IP] at u1;unfold dn;cases hc:ew 10 s with
 |none=>rw[hc] at u1;have u2:=vV [] (by simp);simp at u1 u2;simp -implicitDefEqProofs [qP,u1,u2]
 |some p=>
 obtain⟨l,b⟩:=p;rw[hc] at u1;have hd:=Ac hc;simp only at hd;obtain⟨d1,d2,d3⟩:=hd;have u2:=vV l (by omega);have d4:¬(((s.length - b.length:Nat):Int)<0):=by omega
 have d5:s.length - b.length<=s.length:=by omega
 have d6:¬s=[]:=by rintro rfl;simp at d1
 have hm:=yI 32 l;simp only at u1;generalize s.length - b.length=e at u1 d2 d4 d5;have d7:(e:Int)<=s.length:=by omega
 rcases hw:cw 32 l with _|⟨w0,_|⟨w1,_|⟨w2,_|⟨w3,ws⟩⟩⟩⟩;·exact absurd hw (HW 32 l)
 ·rw[hw] at u2;simp at u1 u2;simp -implicitDefEqProofs [qP,u1,u2,hw,d4]
 ·rw[hw] at u2;simp at u1 u2;simp -implicitDefEqProofs [qP,u1,u2,hw,d4]
 rotate_left
 ·rw[hw] at u2;have hn:¬((ws.length:Int)+1+1+1+1=3):=by omega
  simp at u1 u2;simp -implicitDefEqProofs [qP,u1,u2,hw,d4,hn]
 have hw1:=hm w1 (by rw[hw];simp);rw[hw] at u2;have u3:=tT w1 (by omega);have u4:=Jn ((bT w1).getD 0:Nat) b (by omega);simp at u1 u2 u3;obtain⟨n,hn⟩:∃n,(bT w1).getD 0=n:=⟨_,rfl⟩;rw[hn] at u3 u4;have d8:s.length - e=b.length:=by rw[<-d2];simp
 by_cases g:fP (n:Int) b=s;·simp -implicitDefEqProofs [qP,u1,u2,hw,u3,u4,d2,d4,d5,d6,d7,d8,hn,eq_true g,Lib.extract_mk]
 simp -implicitDefEqProofs [qP,u1,u2,hw,u3,u4,d2,d4,d5,d6,d7,d8,hn,eq_false g,Lib.extract_mk];all_goals (repeat' split)<;>first|rfl|omega|(simp_all;done)|(simp_all;omega)|skip
end M
set_option maxHeartbeats 4000000
namespace M
open Go
variable [Lb]
def Ta{s:ag}(h:(dn s).2.2=false):dn s=(0,[],false):=by
 unfold dn at h⊢;(repeat' split at h)<;>first|(cases h;done)|skip
 all_goals (repeat' split)<;>simp_all
def Gl{s:ag}(h:(dn s).2.2=true):1<=(dn s).1/\(dn s).1<=100000/\(dn s).2.1.length<=2000/\fP (dn s).1 (dn s).2.1=s/\s≠[]:=by
 unfold dn at h⊢;cases hc:ew 10 s with
 |none=>simp[hc] at h
 |some p=>
  obtain⟨l,b⟩:=p;have hs:s≠[]:=by rintro rfl;simp[ew] at hc
  simp only[hc] at h⊢;split at h
  ·rename_i w0 w w2 hw;split at h
   ·rename_i g;simp only[hw,g,dB];have g2:=g;unfold fP at g;split at g;·rename_i c;exact⟨c.1,c.2.1,c.2.2,by trivial,hs⟩
    ·exact absurd g.symm hs
   ·cases h
  ·cases h
def S8(s:ag):(dn s).2.1.length<=2000:=by
 cases h:(dn s).2.2;·rw[Ta h];simp
 ·exact(Gl h).2.2.1
def Ng{s:ag}(h:eE s=true):s.length<=20:=by unfold eE at h;simp only[av,aZ] at h;omega
def Nn{s:ag}(h:fZ s=true):s.length<=60:=by unfold fZ at h;simp only[av,aZ] at h;omega
def SS{s:ag}(h:ij s=true):s.length<=60:=by unfold ij at h;simp only[av,aZ] at h;omega
def tu{α:Type}{w:α->Nat}{l:List α}{n m:Nat}(h:∀x∈l,w x<=n)(hl:l.length<=m):wL w l<=m*(n+1):=by
 suffices H:wL w l<=l.length*(n+1) from iZ H (n8 _ hl)
 clear hl;induction l with
 |nil=>simp[wL]
 |cons x l ih=>have h1:=h x (bE ..);have h2:=ih λy hy=>h y (cE _ hy);simp only[wL,cO,bg,pF,fI,IB] at h2⊢;omega
def LZ{r:ck}(h:fF r=true):bQ r<=800:=by
 have A:=Gn h;have h1:wL aF r.fields<=8*(80+1):=tu (λf hf=>by have:=EI A.f hf;have h1:=Ng this.1;have h2:=Nn this.2.1;simp only[aF];omega) (Qe A.f)
 have h2:=A.b;simp only[bQ];omega
def BV{o:Ob}(h:dx o=true):bP o<=1300:=by
 have A:=BU h;have h1:=LZ A.resp;have h2:=SS A.path;have hn:∀x∈o.names,x.length<=20:=by have:=A.names;unfold nG at this;simp only[av] at this;exact λx hx=>Ng (ff.1 this.1 x hx)
 have h3:wL wS o.names<=4*(20+1):=tu hn A.n4;have h4:wL wS o.values<=4*(60+1):=tu (λx hx=>Nn (A.vals x hx)) (by have:=A.len;have:=A.n4;omega);simp only[bP];omega
def SG{s:ag}(h:(jP s).2=true):dx (jP s).1=true/\ep (jP s).1=s:=by have:=S7 h;refine⟨this.1,?_⟩;have h2:dx (jP s).1=true:=this.1;unfold ep;rw[aA h2];exact this.2
def aeV(s:ag):bP (jP s).1<=1300:=by
 cases h:(jP s).2;·have:jP s=(fu,false):=S6 h;rw[this];decide
 ·exact BV (SG h).1
def WG{b:Bn}(h:dW b=true):aW b<=120:=by
 unfold dW at h;simp only[av,aZ] at h;obtain⟨_,h⟩:=h;split at h;·simp only[av,aZ] at h;have:=SS h.1;simp[aW,h.2];omega
 ·split at h;·simp only[av] at h;have h1:=Ng h.1;have h2:=Nn h.2;simp only[aW];omega
  ·cases h
def WM{b:Bn}(h:iA b≠[]):dW b=true:=by
 unfold iA at h;split at h;·assumption
 ·exact absurd rfl h
def WI{s:ag}(h:(je s).2=true)(hs:s≠[]):dW (je s).1=true/\iA (je s).1=s:=by
 unfold je vR at h⊢;split at h
 ·split at h;·rename_i hw hg;simp only[hw,hg,dB];exact⟨WM (by rw[hg];exact hs),trivial⟩
  ·cases h
 ·cases h
def WH:je []=(zB,false):=by simp[je,vR,rF,ew,cw]
def WJ{s:ag}(h:(je s).2=true):dW (je s).1=true/\iA (je s).1=s:=by refine WI h ?_;rintro rfl;rw[WH] at h;cases h
def BN(m n:Int):Int:=if n<100000 then max m n else m
def nE(d:bD)(i:Nat)(g:List Bn×Int)(_:Nat):(List Bn×Int) ⊕ ((List Bn×Int)×Int×Bn×Nat):=
 if (dn (ek d i)).2.2=true/\(je (dn (ek d i)).2.1).2=true then .inl (g.1++[(je (dn (ek d i)).2.1).1],BN g.2 (dn (ek d i)).1) else .inr (g,(dn (ek d i)).1,(je (dn (ek d i)).2.1).1,i)
def Jd{α β:Type}:α ⊕ (α×β)->α
 |.inl a=>a
 |.inr a=>a.1
def gK(d:bD):List Bn×Int:=Jd (eu (nE d) 0 (List.range 5) ([],0))
noncomputable def xw(bs:List Bn)(d:bD)(i:Nat)(g:List Kp×Int)(_:Nat):List Kp×Int:=
 if (dn (ek d ((5+i:Nat):Int))).2.2=true/\(jP (dn (ek d ((5+i:Nat):Int))).2.1).2=true/\(dn (ek d ((5+i:Nat):Int))).1<100000 then
  (if gG bs (jP (dn (ek d ((5+i:Nat):Int))).2.1).1=true then g.1 else g.1++[⟨(jP (dn (ek d ((5+i:Nat):Int))).2.1).1,((5+i:Nat):Int),(dn (ek d ((5+i:Nat):Int))).1⟩],max g.2 (dn (ek d ((5+i:Nat):Int))).1)
 else g
noncomputable def xl(bs:List Bn)(d:bD)(m:Int):List Kp×Int:=foldI (xw bs d) 0 (List.range 15) ([],m)
def sB(all:List Kp)(i:Nat)(k:Kp):Bool:=(all.drop (i+1)).any λx=>decide (x.seq=k.seq)||k7 x.obj k.obj
def sD(all:List Kp)(i:Nat)(g:List Kp×Int)(k:Kp):List Kp×Int:=if sB all i k=true then g else (g.1++[k],sG k.at_)
def iQ:List Kp->List Kp
 |[]=>[]
 |k::l=>if (l.any λx=>decide (x.seq=k.seq)||k7 x.obj k.obj)=true then iQ l else k::iQ l
def uH(l:List Kp):Int:=l.getLast?.elim 5 λk=>sG k.at_
def qv(all:List Kp):List Kp×Int:=(iQ all,uH (iQ all))
def xh:∀l:List Kp,List.Sublist (iQ l) l
 |[]=>List.Sublist.refl _
 |k::l=>by
  unfold iQ;split;·exact(xh l).trans (List.sublist_cons_self ..)
  ·exact(xh l).cons_cons k
def Ll:∀l:List Kp,(iQ l).Pairwise λx y=>y.seq≠x.seq/\k7 y.obj x.obj=false
 |[]=>List.Pairwise.nil
 |k::l=>by
  unfold iQ;split;·exact Ll l
  ·rename_i h;rw[eZ];refine⟨λy hy=>?_,Ll l⟩;have:=(xh l).subset hy;simp only[Bool.not_eq_true,NX,tE,aZ,not_or] at h;have:=h y this;exact⟨this.1,by simpa using this.2⟩
def R1(all:List Kp):∀(l:List Kp) (i:Nat) (g:List Kp×Int),all.drop i=l->foldI (sD all) i l g=(g.1++iQ l,if iQ l=[] then g.2 else uH (iQ l))
 |[],i,g,_=>by simp[foldI,iQ]
 |k::l,i,g,h=>by
  have hd:all.drop (i+1)=l:=by rw[<-DK,h];rfl
  rw[foldI,R1 all l (i+1) _ hd];unfold sD sB;rw[hd];rw[show iQ (k::l)=(if (l.any λx=>decide (x.seq=k.seq)||k7 x.obj k.obj)=true then iQ l else k::iQ l) from rfl];split;·rfl
  ·simp only[mS,UF,reduceCtorEq,eL];congr 1;cases hL:iQ l with
   |nil=>simp[uH]
   |cons a L=>simp[uH]
def adP(all:List Kp):foldI (sD all) 0 all ([],5)=qv all:=by
 rw[R1 all all 0 _ rfl];unfold qv;simp only[jz];congr 1;split;·rename_i h;rw[h];rfl
 ·rfl
noncomputable def kU(d:bD):List Kp×Int:=xl (gK d).1 d (gK d).2
noncomputable def iR(d:bD):List Kp:=kY Kp.seq (kU d).1
noncomputable def uG(d:bD):Sh:=⟨d,(qv (iR d)).1,(gK d).1,(qv (iR d)).2,(kU d).2+1⟩
structure zw (k:Kp):Prop where
 o:dx k.obj=true
 a:5<=k.at_/\k.at_<=19
 s:1<=k.seq/\k.seq<100000
def Lt(d:bD){i:Nat}{g:List Bn×Int}(hg:(∀b∈g.1,dW b=true)/\g.1.length<=i/\0<=g.2/\g.2<100000){x:Nat}:
  (∀g',nE d i g x=.inl g'->(∀b∈g'.1,dW b=true)/\g'.1.length<=i+1/\0<=g'.2/\g'.2<100000)/\∀e,nE d i g x=.inr e->e.1=g:=by
 unfold nE;by_cases c:(dn (ek d i)).2.2=true/\(je (dn (ek d i)).2.1).2=true
 ·rw[aA c];refine⟨λg' h=>?_,λe h=>by cases h⟩;have r:=Gl c.1;have b:=WJ c.2;cases h;refine⟨λy hy=>?_,by simp;omega,?_,?_⟩
  ·rcases dK.1 hy with hy|hy;·exact hg.1 y hy
   ·simp at hy;subst hy;exact b.1
  ·simp only[BN];split<;>omega
  ·simp only[BN];split<;>omega
 ·rw[aC c];exact⟨λg' h=>(by cases h),λe h=>(by cases h;rfl)⟩
def F6(d:bD):(∀b∈(gK d).1,dW b=true)/\(gK d).1.length<=5/\0<=(gK d).2/\(gK d).2<100000:=by
 have H:=L6 (go:=nE d) (I:=λi g=>(∀b∈g.1,dW b=true)/\g.1.length<=i/\0<=g.2/\g.2<100000) (O:=λe=>(∀b∈e.1.1,dW b=true)/\e.1.1.length<=5/\0<=e.1.2/\e.1.2<100000) 5
  (λi g b hi hg=>⟨(Lt d hg).1,λe he=>by rw[(Lt d hg).2 e he];exact⟨hg.1,by omega,hg.2.2⟩⟩) (List.range 5) 0 ([],0) (by simp) (by simp)
 unfold gK;cases hr:eu (nE d) 0 (List.range 5) ([],0) with
 |inl g=>exact H.1 g hr
 |inr g=>exact H.2 g hr
def Qy{β γ:Type}{go:Nat->γ->β->γ}(I:Nat->γ->Prop):∀(l:List β) (i:Nat) (g:γ),(∀j b g,i<=j->j<i+l.length->I j g->I (j+1) (go j g b))->I i g->I (i+l.length) (foldI go i l g)
 |[],i,g,_,h=>h
 |b::l,i,g,hs,h=>by rw[foldI,cO,show i+(l.length+1)=i+1+l.length by omega];exact Qy I l (i+1) _ (λj b g h1 h2 h3=>hs j b g (by omega) (by simp;omega) h3) (hs i b g (dF _) (by simp) h)
structure vN (i:Nat) (g:List Kp×Int):Prop where
 k:∀k∈g.1,zw k
 n:g.1.length<=i
 m:0<=g.2/\g.2<100000
 q:∀k∈g.1,k.seq<=g.2
 a:∀k∈g.1,k.at_<5+i
 d:g.1.Pairwise λx y=>x.at_≠y.at_
def Sv(bs:List Bn)(d:bD){i:Nat}(hi:i<15){g:List Kp×Int}(x:Nat)(h:vN i g):vN (i+1) (xw bs d i g x):=by
 unfold xw;split
 ·rename_i c;have r:=Gl c.1;have o:=SG c.2.1;have hm:=h.m;split;·exact⟨h.k,by have:=h.n;simp only;omega,by simp only;omega,λk hk=>by have:=h.q k hk;simp only;omega,λk hk=>by have:=h.a k hk;omega,h.d⟩
  ·generalize dn (ek d ((5+i:Nat):Int))=rr at*;generalize jk:((5+i:Nat):Int)=at_;refine⟨λk hk=>?_,by have:=h.n;rw[fK,UU];omega,by constructor<;>(try dsimp only)<;>omega,λk hk=>?_,λk hk=>?_,?_⟩
   ·rcases dK.1 hk with hk|hk;·exact h.k k hk
    ·rw[fH] at hk;subst hk;exact⟨o.1,⟨by (try dsimp only);omega,by (try dsimp only);omega⟩,⟨r.1,c.2.2⟩⟩
   ·rcases dK.1 hk with hk|hk;·have:=h.q k hk;(try dsimp only);omega
    ·rw[fH] at hk;subst hk;(try dsimp only);omega
   ·rcases dK.1 hk with hk|hk;·have:=h.a k hk;omega
    ·rw[fH] at hk;subst hk;(try dsimp only);omega
   ·dsimp only;rw[vE];refine⟨h.d,UD ..,λx hx y hy=>?_⟩;rw[fH] at hy;subst hy;have:=h.a x hx;(try dsimp only)
    omega
 ·exact⟨h.k,by have:=h.n;omega,h.m,h.q,λk hk=>by have:=h.a k hk;omega,h.d⟩
def ad7(bs:List Bn)(d:bD)(m:Int)(hm:0<=m/\m<100000):vN 15 (xl bs d m):=by have:=Qy (go:=xw bs d) vN (List.range 15) 0 ([],m) (λj b g h1 h2 h3=>Sv bs d (by simp at h2;omega) b h3) ⟨by simp,by simp,hm,by simp,by simp,by simp⟩;simpa [xl] using this
def BH(d:bD):vN 15 (kU d):=ad7 _ d _ (F6 d).2.2
def Sl{d:bD}{k:Kp}:k∈iR d↔k∈(kU d).1:=(HU Kp.seq _).mem_iff
def Sk(d:bD):(iR d).length<=15:=by unfold iR;rw[(HU Kp.seq _).length_eq];exact(BH d).n
def Sy{a:Int}(h:5<=a/\a<=19):5<=sG a/\sG a<=19:=by unfold sG;split<;>omega
def aez{l:List Kp}(h:∀k∈l,5<=k.at_/\k.at_<=19):5<=uH l/\uH l<=19:=by
 unfold uH;cases hl:l.getLast? with
 |none=>simp
 |some k=>exact Sy (h k (List.mem_of_getLast? hl))
def F5{d:bD}{k:Kp}(h:k∈iR d):zw k/\k.seq<=(kU d).2:=⟨(BH d).k k (Sl.1 h),(BH d).q k (Sl.1 h)⟩
end M
set_option maxHeartbeats 4000000
namespace M
open Go
variable [Lb]
end M
set_option maxHeartbeats 4000000
namespace M
open Go
variable [Lb]
def VS(s:ag)(hb:s.length<=1073741824):
  aJ (ak (ev LI TT) (au TT) qT) [(0,.str ⟨s.toArray⟩),(4,.row .own 1 []),(5,.int .i64 0),(6,.int .i64 1)]=
  (match qa s with
   |.inl g=>some (.exit 0,[(0,.str ⟨s.toArray⟩),(4,.row .own 1 (g.1.map eS)),(5,.int .i64 g.2),(6,.int .i64 ((s.length - 1:Nat)+1:Nat)),(12,.bool false)])
   |.inr g=>some (.ret,[(2,.row .own 1 (g.1.map eS)),(3,.int .i64 g.2),(4,.dead)])):=by
 have:=Ls (xt:=0) (f:=ak (ev LI TT) (au TT) qT) (s.drop 1) (λi (g:List ag×Nat)=>[(0,.str ⟨s.toArray⟩),(4,.row .own 1 (g.1.map eS)),(5,.int .i64 g.2),(6,.int .i64 ((i+1:Nat):Int))]) (λj=>ia s (j+1))
  (λg=>[(0,.str ⟨s.toArray⟩),(4,.row .own 1 (g.1.map eS)),(5,.int .i64 g.2),(6,.int .i64 ((s.length - 1:Nat)+1:Nat)),(12,.bool false)])
  (λg=>(.ret,[(2,.row .own 1 (g.1.map eS)),(3,.int .i64 g.2),(4,.dead)]))
  (λi g=>g.1.length<=i/\g.2<=i+1) ([],0) (by simp) (λi b g hi hl hg=>?_) (λi b g g' hi hg nv=>?_) (λg hg=>?_)
 ·simp only[gQ] at this;refine this.trans ?_;unfold qa;cases eu (λj=>ia s (j+1)) 0 (s.drop 1) ([],0) with
  |inl g=>rfl
  |inr e=>rfl
 ·simp only[tF] at hl;have oD:i+1<s.length:=by omega
  have hi2:s[i+1]=b:=by rw[pK] at hi;have:=(aN.1 hi);obtain⟨_,h⟩:=this;rw[<-h];congr 1;omega
  have wK:i<s.length:=by omega
  have hw:IntKind.i64.wrap ((i:Int)+1+1)=(i:Int)+1+1:=cy (by omega) (by omega);have fk:IntKind.i64.wrap (i:Int)=i:=cy (by omega) (by omega);have oB:(0:Int)<=(i:Int)+1:=by omega
  have hlz:(g.1.length+1)*16<=140737488355328:=by omega
  have hls:((i:Int)+1<s.length):=by omega
  have ht:s[i]?=some s[i]:=cj wK;have hle:(i:Int)<=s.length:=by omega
  unfold ia;simp only[Nat.add_sub_cancel,ht];by_cases g1:b=10;rotate_left;·have dH:¬(b.toNat:Int)=10:=λh=>g1 (tB.1 (by show b.toNat=10;omega));simp -implicitDefEqProofs [qT,vu,oD,hls,hi2,hw,fk,oB,g1,dH,lv]
  subst g1;by_cases g2:s[i]=13;rotate_left;·have ke:¬((s[i]).toNat:Int)=13:=λh=>g2 (tB.1 (by show (s[i]).toNat=13;omega));simp -implicitDefEqProofs [qT,vu,oD,hls,hi2,hw,fk,oB,g2,ke,wK,lv]
  by_cases g3:g.2+1<=i+1;rotate_left
  ·have lB:(i:Int)<g.2:=by omega
   simp -implicitDefEqProofs [qT,vu,oD,hls,hi2,hw,fk,oB,g2,g3,lB,wK,lv]
  have lB:¬(i:Int)<g.2:=by omega
  have QJ:(g.2:Int)<=i:=by omega
  have g5:1<=i+1:=by omega
  rw[zk];obtain⟨Y,hY⟩:∃Y,(s.drop g.2).take (i - g.2)=Y:=⟨_,rfl⟩;rw[hY];cases Y with
  |nil=>simp -implicitDefEqProofs [qT,vu,oD,hls,hi2,hw,fk,oB,g2,g3,lB,QJ,hY,g5,wK,lv,hle,Lib.extract_mk]
  |cons y Y=>simp -implicitDefEqProofs [qT,vu,oD,hls,hi2,hw,fk,oB,g2,g3,lB,QJ,hY,g5,wK,lv,hle,hlz,cD,Lib.extract_mk]
 ·unfold ia at nv;split at nv
  ·split at nv;·cases nv
   ·cases nv;simp;omega
  ·cases nv;omega
 ·have h0:¬(((s.length - 1:Nat):Int)+1<s.length):=by omega
  simp only[tF];simp -implicitDefEqProofs [qT,vu,h0]
def XW(s:ag)(hb:s.length<=1073741824):ev LI TT 249 [.str ⟨s.toArray⟩]=some (.aj [.row .own 1 ((iE s).map eS),.int .i64 (lH s)],[.dead]):=by
 rw[aq (b:=C6) (rs:=[.t 2,.t 3]) (n:=1) rfl rfl];have u1:=VS s hb;try simp at u1
 unfold iE lH;cases hr:qa s with
 |inl g=>rw[hr] at u1;simp at u1;simp -implicitDefEqProofs [C6,u1]
 |inr g=>
 rw[hr] at u1;simp at u1;simp -implicitDefEqProofs [C6,u1];all_goals (repeat' split)<;>first|rfl|omega|(simp_all;done)|(simp_all;omega)|skip
def Eo(i:Nat)(_:Unit)(x:UInt8×UInt8):Unit ⊕ Nat:=if rO x=true then .inr i else .inl ()
def PC:∀(l:List (UInt8×UInt8)) (i:Nat),eu Eo i l ()=match cY rO i l with
  |some (k,_)=>.inr k
  |none=>.inl ()
 |[],_=>rfl
 |x::l,i=>by
  rw[eu,cY];unfold Eo;cases h:rO x;·simp only[fJ,eL];exact PC l (i+1)
  ·simp
def VQ(ls:List ag)(i:Nat)(hi:i<ls.length)(fs:List aE)(hm:ls[i].length<=1073741824)(hf:fs.length<=1073741824):
  aJ (ak (ev LI TT) (au TT) td) [(0,.row .af 1 (ls.map eS)),(3,.row .own 2 (fs.map aH)),(4,.int .i64 i),(5,.int .i64 0)]=
  (match ua ls[i] with
   |none=>some (.exit 2,[(0,.row .af 1 (ls.map eS)),(3,.row .own 2 (fs.map aH)),(4,.int .i64 i),(5,.int .i64 (ls[i].zip (ls[i].drop 1)).length),(21,.bool false)])
   |some (k,_)=>some (.exit 2,[(0,.row .af 1 (ls.map eS)),(3,.row .own 2 ((fs++ig ls[i]).map aH)),(4,.int .i64 i)])):=by
 have:=Ls (xt:=2) (f:=ak (ev LI TT) (au TT) td) (ls[i].zip (ls[i].drop 1)) (λk (_:Unit)=>[(0,.row .af 1 (ls.map eS)),(3,.row .own 2 (fs.map aH)),(4,.int .i64 i),(5,.int .i64 k)]) Eo
  (λ_=>[(0,.row .af 1 (ls.map eS)),(3,.row .own 2 (fs.map aH)),(4,.int .i64 i),(5,.int .i64 (ls[i].zip (ls[i].drop 1)).length),(21,.bool false)])
  (λk=>(.exit 2,[(0,.row .af 1 (ls.map eS)),(3,.row .own 2 ((fs++(if ls[i].take k=fD then [] else [(⟨ls[i].take k,ls[i].drop (k+2)⟩:aE)])).map aH)),(4,.int .i64 i)]))
  (λ_ _=>True) () trivial (λk b _ hk hl _=>?_) (λ_ _ _ _ _ _ _=>trivial) (λ_ _=>?_)
 ·refine this.trans ?_;rw[PC];unfold ig ua;cases cY rO 0 (ls[i].zip (ls[i].drop 1)) with
  |none=>rfl
  |some x=>rfl
 ·have hlz:k+1<ls[i].length:=by simp at hl;omega
  have hk1:k<ls[i].length:=by omega
  obtain⟨q1,q2⟩:=N5.1 hk;obtain⟨_,h1⟩:=aN.1 q1;rw[pK,pG] at q2;obtain⟨_,h2⟩:=aN.1 q2;clear q1 q2;have oB:(0:Int)<=(k:Int)+1:=by omega
  have Ka:(0:Int)<=(k:Int)+2:=by omega
  have Q1:((k:Int)+2).toNat=k+2:=by omega
  have htk:(ls[i].drop (k+2)).take (ls[i].length - (k+2))=ls[i].drop (k+2):=zc (by simp);have hw:=bx k (by omega);have fk:IntKind.i64.wrap ((k:Int)+2)=k+2:=cy (by omega) (by omega);have hla:(fs.length+1)*32<=140737488355328:=by omega
  have hls:((k:Int)+1<ls[i].length):=by omega
  have hle:(k:Int)<=ls[i].length:=by omega
  have hle2:(k:Int)+2<=ls[i].length:=by omega
  obtain⟨b1,b2⟩:=b;simp only at h1 h2;unfold Eo rO;simp only;by_cases g1:b1=58;rotate_left;·have dH:¬(b1.toNat:Int)=58:=λh=>g1 (tB.1 (by show b1.toNat=58;omega));simp -implicitDefEqProofs [td,yA,hi,hk1,hls,h1,hw,oB,g1,dH,lv]
  by_cases g2:b2=32;rotate_left;·have ke:¬(b2.toNat:Int)=32:=λh=>g2 (tB.1 (by show b2.toNat=32;omega));simp -implicitDefEqProofs [td,yA,hi,hk1,hlz,hls,h1,h2,hw,oB,Ka,g1,g2,ke,lv]
  subst g1 g2;by_cases g3:ls[i].take k=fD;·have lB:ls[i].take k=[99,111,110,116,101,110,116,45,108,101,110,103,116,104]:=g3;simp -implicitDefEqProofs [td,yA,C5,hi,hk1,hlz,hls,h1,h2,hw,oB,Ka,Q1,htk,fk,g3,lB,lv,hle,hle2,Lib.extract_mk,fD]
  ·have lB:¬ls[i].take k=[99,111,110,116,101,110,116,45,108,101,110,103,116,104]:=g3;simp -implicitDefEqProofs [td,yA,C5,hi,hk1,hlz,hls,h1,h2,hw,oB,Ka,Q1,htk,fk,g3,lB,lv,hle,hle2,hla,cD,Lib.extract_mk]
 ·have hlen:(ls[i].zip (ls[i].drop 1)).length=ls[i].length - 1:=by simp
  have h0:¬(((ls[i].length - 1:Nat):Int)+1<ls[i].length):=by omega
  have hw:=bx (ls[i].length - 1) (by omega);simp only[hlen];simp -implicitDefEqProofs [td,yA,hi,h0,hw]
def VR(ls:List ag)(hm:∀l∈ls,l.length<=1073741824)(hb:ls.length<=1073741824):aJ (ak (ev LI TT) (au TT) yB) [(0,.row .af 1 (ls.map eS)),(3,.row .own 2 (([]).map aH)),(4,.int .i64 0)]=some (.exit 0,[(0,.row .af 1 (ls.map eS)),(3,.row .own 2 ((((ls).flatMap ig)).map aH)),(4,.int .i64 (ls).length),(11,.bool false)]):=by
 refine qw (f:=ak (ev LI TT) (au TT) yB) (ls) ig (λi out=>[(0,.row .af 1 (ls.map eS)),(3,.row .own 2 ((out).map aH)),(4,.int .i64 i)]) (λout=>[(0,.row .af 1 (ls.map eS)),(3,.row .own 2 ((out).map aH)),(4,.int .i64 (ls).length),(11,.bool false)]) (λi b out hi hl hout=>?_) (λout hout=>?_)
 ·have hw:=bx i (by first|omega|(simp at hl;omega));obtain⟨_,rfl⟩:=aN.1 hi;have hlo:out.length<=i:=by rw[hout];exact EN _ (λb=>by unfold ig;split<;>(try split)<;>simp) _ _
  have u1:=VQ ls i hl out (hm _ (cN hl)) (by omega);cases hc:ua ls[i] with
  |none=>
   rw[hc] at u1;have hz:ig ls[i]=[]:=by unfold ig;rw[hc]
   try simp at u1
   simp -implicitDefEqProofs [yB,HF,hl,hw,u1,hz]
  |some x=>
  obtain⟨k,x⟩:=x;rw[hc] at u1;try simp at u1
  simp -implicitDefEqProofs [yB,HF,hl,hw,u1]
 ·simp -implicitDefEqProofs [yB,HF]
def XV(ls:List ag)(hm:∀l∈ls,l.length<=1073741824)(hb:ls.length<=1073741824):ev LI TT 250 [.row .af 1 (ls.map eS)]=some (.row .own 2 ((ls.flatMap ig).map aH),[.dead]):=by
 rw[aq (b:=HG) (rs:=[.t 2]) (n:=1) rfl rfl];have u1:=VR ls hm hb;try simp at u1
 simp -implicitDefEqProofs [HG,u1,C5];all_goals (repeat' split)<;>first|rfl|omega|(simp_all;done)|(simp_all;omega)|skip
def XO(s:ag)(hb:s.length<=16777216):ev LI TT 211 [.str ⟨s.toArray⟩]=some (.aj [.agg (jC .own ((fy s).1)),.bool ((fy s).2)],[.dead]):=by
 rw[aq (b:=oY) (rs:=[.c 2 3 true 29,.t 3]) (n:=1) rfl rfl];have u1:=XW s (by omega);try simp at u1
 rw[aga];have hw:=λr=>agt (s:=s) (r:=r);have hh:=Rl s;have KD:∀l∈iE s,l.length<=16777216:=λl hl=>by have:=pn (w:=wS) hl;simp only[wS] at this;omega
 have AP:=bp (w:=wS) (iE s);have er:oU s=(if 0<=lH s/\iE s≠[] then (qY (cw 32 ((iE s).headD []))).map λw=>(⟨(((bT w).getD 0:Nat):Int),(iE s).tail.flatMap ig,s.drop (lH s).toNat⟩:ck) else none):=rfl;rw[er] at hw⊢;clear er;generalize iE s=ls at u1 hw hh KD AP⊢;generalize lH s=n at u1 hw hh⊢;by_cases g1:0<=n;rotate_left
 ·have dH:n<0:=by omega
  simp -implicitDefEqProofs [oY,u1,g1,dH,dZ]
 have dH:¬n<0:=by omega
 cases ls with
 |nil=>simp at u1;simp -implicitDefEqProofs [oY,u1,g1,dH,dZ]
 |cons l0 lt=>
 have hl0:=KD l0 (by simp);have u2:=vV l0 (by omega);have hm:=yI 32 l0;simp only[List.headD_cons,List.tail_cons] at hw⊢;have g2:0<=n/\l0::lt≠[]:=⟨g1,by simp⟩;have g3:¬((lt.length:Int)+1=0):=by omega
 rw[aA g2] at hw⊢;rcases dR:cw 32 l0 with _|⟨w0,_|⟨w1,_|⟨w2,_|⟨w3,ws⟩⟩⟩⟩;·exact absurd dR (HW 32 l0)
 ·rw[dR] at u2;simp at u1 u2;simp -implicitDefEqProofs [oY,u1,u2,qY,dZ,dH,g3]
 ·rw[dR] at u2;simp at u1 u2;simp -implicitDefEqProofs [oY,u1,u2,qY,dZ,dH,g3]
 rotate_left
 ·rw[dR] at u2;have hn:¬((ws.length:Int)+1+1+1+1=3):=by omega
  simp at u1 u2;simp -implicitDefEqProofs [oY,u1,u2,qY,dZ,hn,dH,g3]
 rw[dR] at u2 hw;have hw1:=hm w1 (by rw[dR];simp);have u3:=tT w1 (by omega);have u5:=XV lt (λl hl=>by have:=KD l (cE _ hl);omega) (by simp at AP;omega);have hr:=hw ⟨(((bT w1).getD 0:Nat):Int),lt.flatMap ig,s.drop n.toNat⟩ rfl;have u4:=O4 ⟨(((bT w1).getD 0:Nat):Int),lt.flatMap ig,s.drop n.toNat⟩ (by omega);have hn2:n<=s.length:=hh.2.1;have RB:(lt.map eS).take lt.length=lt.map eS:=zc (by simp);have wN:(1:Int)<=(lt.length:Int)+1:=by omega
 have htk:(s.drop n.toNat).take (s.length - n.toNat)=s.drop n.toNat:=zc (by simp);simp only[qY,cx];obtain⟨st,hst⟩:∃st,(((bT w1).getD 0:Nat):Int)=st:=⟨_,rfl⟩;rw[hst] at u3 u4⊢;by_cases g:gw ⟨st,lt.flatMap ig,s.drop n.toNat⟩=s;·rw[g] at u4;simp at u1 u2 u3 u4 u5;simp -implicitDefEqProofs [oY,GJ,GK,u1,u2,u3,u4,u5,g,g1,dH,g3,hn2,wN,htk,RB,dZ,Lib.extract_mk]
 simp at u1 u2 u3 u4 u5;simp -implicitDefEqProofs [oY,u1,u2,u3,u4,u5,g,g1,dH,g3,hn2,wN,htk,RB,dZ,Lib.extract_mk,GJ,GK];all_goals (repeat' split)<;>first|rfl|omega|(simp_all;done)|(simp_all;omega)|skip
end M
set_option maxHeartbeats 4000000
namespace M
open Go
variable [Lb]
def Tf(s:ag):bQ (fy s).1<=800:=by
 cases h:(fy s).2;·have:fy s=(dZ,false):=S6 h;rw[this];decide
 ·exact LZ (S7 h).1
def Ui(fs:List aE):wL wS (dO fs)<=(wL aF fs+1)*(wL aF fs+1):=by refine tu (λw hw=>?_) (Il fs);unfold dO at hw;obtain⟨x,hx,rfl⟩:=aT.1 hw;have h1:=yY _ x hx;have h2:=oA fs jr;simp only[wS,cC,dV];omega
def ajY(s:ag):wL wS (dO (fy s).1.fields)<=641601:=by
 have h1:=Tf s;have h2:=Ui (fy s).1.fields;have h3:wL aF (fy s).1.fields+1<=801:=by have:bQ (fy s).1=wL aF (fy s).1.fields+(fy s).1.body.length:=rfl;omega
 exact iZ h2 (Nat.mul_le_mul h3 h3)
def kz:Nat->ag->Option (List ag×ag)
 |0,s=>some ([],s)
 |n+1,s=>(ew 10 s).bind λp=>(kz n p.2).map λq=>(p.1::q.1,q.2)
def TX:∀(n:Nat) (s:ag) (q:List ag×ag),kz n s=some q->q.1.length=n/\(∀v∈q.1,v.length<=s.length)/\q.2.length<=s.length/\s.drop (s.length - q.2.length)=q.2
 |0,s,q,h=>by simp[kz] at h;subst h;simp
 |n+1,s,q,h=>by
  rw[kz] at h;obtain⟨p,h1,h2⟩:=ld.1 h;obtain⟨r,h3,rfl⟩:=mR.1 h2;have hd:=Ac h1;have ih:=TX n p.2 r h3;refine⟨by simp[ih.1],λv hv=>?_,by simp only;omega,?_⟩
  ·rcases ct.1 hv with rfl|hv;·omega
   ·have:=ih.2.1 v hv;omega
  ·simp only;have e:s.length - r.2.length=(s.length - p.2.length)+(p.2.length - r.2.length):=by omega
   rw[e,<-DK,hd.2.1];exact ih.2.2.2
def TW(r:ag):∀(l:List ag),(∀v∈l,bR 10 v)->kz l.length (k9 l++r)=some (l,r)
 |[],_=>rfl
 |v::l,h=>by
  have e:k9 (v::l)++r=v++10::(k9 l++r):=by simp[k9]
  rw[e,cO,kz,PF v _ (h v (bE ..))];simp only[ja];rw[TW r l λx hx=>h x (cE _ hx)];rfl
noncomputable def xD(s:ag):Option Ob:=(ew 10 s).bind λc=>(yX (cw 32 c.1)).bind λw=>(kz (min ((bT w.2.2).getD 0) 4) c.2).map λq=>⟨w.1,dO (fy q.2).1.fields,q.1,(fy q.2).1,(((bT w.2.1).getD 0:Nat):Int)⟩
def aeX:xD []=none:=by simp[xD,ew]
def aeW{o:Ob}(ho:dx o=true):xD (nJ o)=some o:=by
 have h:=BU ho;unfold xD nJ;rw[PF _ _ (aeP h)];simp only[ja];rw[aeQ h];have h0:=h.t0;have h1:=h.t1;have hl:=h.len;have h4:=h.n4
 have hn:bT (en o.t)=some o.t.toNat:=by
  have e:o.t=((o.t.toNat:Nat):Int):=by omega
  rw[e,aeK _ (by omega)];simp;omega
 have hd:bT (bq o.values.length)=some o.values.length:=nI.2 ⟨by omega,rfl⟩;simp only[yX,ja,hn,hd,q8];rw[n7 (by omega),TW (iG o.resp) o.values (ajW h)];have h2:fy (iG o.resp)=(o.resp,true):=af4 (cand:=L4) (λr h=>agp h) h.resp;simp only[cx,h2];have ht:((o.t.toNat:Nat):Int)=o.t:=by omega
 rw[ht,<-h.ajX]
def aeT(s:ag):jP s=match xD s with
  |some o=>if ep o=s then (o,true) else (fu,false)
  |none=>(fu,false):=aeU (λo h=>aeW h) aeX s
end M
set_option maxHeartbeats 4000000
namespace M
open Go
variable [Lb]
def On(s p:ag)(tt:Int)(n:Nat)(hn:n<=1000000)(hs:s.length<=16777216):∀(m i:Nat) (g:List ag) (t:ag),i+m=min n 4->g.length=i->t.length<=s.length->s.drop (s.length - t.length)=t->
  (∀q,kz m t=some q->aJ (ak (ev LI TT) (au TT) mJ) [(0,.str ⟨s.toArray⟩),(2,.ptr .own (aV .own fu)),(5,.int .i64 ((s.length - t.length:Nat):Int)),(9,.int .i64 n),(11,.ptr .own (aV .own ⟨p,[],g,dZ,tt⟩)),(12,.int .i64 i)]=some (.exit 0,[(0,.str ⟨s.toArray⟩),(2,.ptr .own (aV .own fu)),(5,.int .i64 ((s.length - q.2.length:Nat):Int)),(9,.int .i64 n),(11,.ptr .own (aV .own ⟨p,[],g++q.1,dZ,tt⟩)),(12,.int .i64 (min n 4:Nat)),(59,.bool false)]))/\
  (kz m t=none->∃g' j,aJ (ak (ev LI TT) (au TT) mJ) [(0,.str ⟨s.toArray⟩),(2,.ptr .own (aV .own fu)),(5,.int .i64 ((s.length - t.length:Nat):Int)),(9,.int .i64 n),(11,.ptr .own (aV .own ⟨p,[],g,dZ,tt⟩)),(12,.int .i64 i)]=some (.exit 0,[(0,.str ⟨s.toArray⟩),(2,.ptr .own (aV .own fu)),(5,.int .i64 (-1)),(9,.int .i64 n),(11,.ptr .own (aV .own ⟨p,[],g',dZ,tt⟩)),(12,.int .i64 j),(59,.bool false)]))
 |0,i,g,t,hi,hg,ht,hd=>by
  refine⟨λq hq=>?_,λh=>by simp[kz] at h⟩;simp[kz] at hq;subst hq;have:i=min n 4:=by omega
  rw[<-this];rw[dS];by_cases g1:(i:Int)<n
  ·have g2:¬(i:Int)<4:=by omega
   have dH:i<n:=by omega
   have ke:¬i<4:=by omega
   simp -implicitDefEqProofs [mJ,sW,dZ,fu,g1,g2,dH,ke]
  ·have dH:¬i<n:=by omega
   simp -implicitDefEqProofs [mJ,sW,dZ,fu,g1,dH]
 |m+1,i,g,t,hi,hg,ht,hd=>by
  have g1:i<n:=by omega
  have g2:i<4:=by omega
  have dH:(i:Int)<n:=by omega
  have ke:(i:Int)<4:=by omega
  have hw:=bx i (by omega);have u1:=Ef s (s.length - t.length) (by omega) (by omega);unfold xk xj at u1;rw[hd] at u1;have hlz:(g.length+1)*16<=140737488355328:=by omega
  have jk:(0:Int)<=((s.length - t.length:Nat):Int):=by omega
  obtain⟨e,he⟩:∃e,s.length - t.length=e:=⟨_,rfl⟩;rw[kz];cases hc:ew 10 t with
  |none=>
   refine⟨λq hq=>by simp at hq,λ_=>⟨g++[[]],(i+1:Nat),?_⟩⟩;rw[hc] at u1;rw[he] at u1 jk⊢
   have hstep:ak (ev LI TT) (au TT) mJ [(0,.str ⟨s.toArray⟩),(2,.ptr .own (aV .own fu)),(5,.int .i64 (e:Int)),(9,.int .i64 n),(11,.ptr .own (aV .own ⟨p,[],g,dZ,tt⟩)),(12,.int .i64 i)]=some (.normal,[(0,.str ⟨s.toArray⟩),(2,.ptr .own (aV .own fu)),(5,.int .i64 (-1)),(9,.int .i64 n),(11,.ptr .own (aV .own ⟨p,[],g++[[]],dZ,tt⟩)),(12,.int .i64 ((i+1:Nat):Int))]):=by
    try simp at u1
    simp -implicitDefEqProofs [mJ,sW,dZ,fu,g1,g2,dH,ke,hw,u1,hlz,cD]
   rw[dS,hstep];show aJ _ _=_;rw[dS];by_cases g3:i+1<n
   ·have lB:(i:Int)+1<n:=by omega
    by_cases g4:i+1<4
    ·have rX:(i:Int)+1<4:=by omega
     simp -implicitDefEqProofs [mJ,sW,dZ,fu,g3,lB,g4,rX]
    ·have rX:¬(i:Int)+1<4:=by omega
     simp -implicitDefEqProofs [mJ,sW,dZ,fu,g3,lB,g4,rX]
   ·have lB:¬(i:Int)+1<n:=by omega
    simp -implicitDefEqProofs [mJ,sW,dZ,fu,g3,lB]
  |some c=>
   obtain⟨l,r⟩:=c;have bA:=Ac hc;simp only at bA;rw[hc] at u1;simp only at u1;have e2:(s.length - t.length)+(t.length - r.length)=s.length - r.length:=by omega
   have acv:s.drop (s.length - r.length)=r:=by rw[<-e2,<-DK,hd];exact bA.2.1
   have ih:=On s p tt n hn hs m (i+1) (g++[l]) r (by omega) (by simp;omega) (by omega) acv;obtain⟨f,hf⟩:∃f,s.length - r.length=f:=⟨_,rfl⟩
   have u2:ev LI TT 209 [.str ⟨s.toArray⟩,.int .i64 (e:Int)]=some (.aj [.str ⟨l.toArray⟩,.int .i64 (f:Int)],[.dead,.dead]):=by
    rw[he] at u1;have:(s.length:Int) - r.length=(f:Int):=by omega
    first|exact u1|(simp at u1⊢;rw[u1];simp;omega)|(rw[u1];simp;omega)
   rw[he] at jk⊢;rw[hf] at ih
   have hstep:ak (ev LI TT) (au TT) mJ [(0,.str ⟨s.toArray⟩),(2,.ptr .own (aV .own fu)),(5,.int .i64 (e:Int)),(9,.int .i64 n),(11,.ptr .own (aV .own ⟨p,[],g,dZ,tt⟩)),(12,.int .i64 i)]=some (.normal,[(0,.str ⟨s.toArray⟩),(2,.ptr .own (aV .own fu)),(5,.int .i64 (f:Int)),(9,.int .i64 n),(11,.ptr .own (aV .own ⟨p,[],g++[l],dZ,tt⟩)),(12,.int .i64 ((i+1:Nat):Int))]):=by
    try simp at u2
    simp -implicitDefEqProofs [mJ,sW,dZ,fu,g1,g2,dH,ke,hw,u2,hlz,cD]
   refine⟨λq hq=>?_,λhq=>?_⟩;·obtain⟨q',h1,rfl⟩:=mR.1 hq;rw[dS,hstep];have:=ih.1 q' h1;rw[mS] at this;exact this
   ·have h1:kz m r=none:=by simpa using hq
    obtain⟨g',j,h2⟩:=ih.2 h1;refine⟨g',j,?_⟩;rw[dS,hstep];exact h2
def XL(s:ag)(hb:s.length<=16777216):ev LI TT 134 [.str ⟨s.toArray⟩]=some (.aj [.agg (aV .own ((jP s).1)),.bool ((jP s).2)],[.dead]):=by
 rw[aq (b:=sX) (rs:=[.c 2 7 true 31,.t 3]) (n:=1) rfl rfl];have u1:=Ef s 0 (by omega) (by omega);simp only[xk,xj,IP] at u1;rw[aeT];have eo:xD s=(ew 10 s).bind λc=>(yX (cw 32 c.1)).bind λw=>(kz (min ((bT w.2.2).getD 0) 4) c.2).map λq=>(⟨w.1,dO (fy q.2).1.fields,q.1,(fy q.2).1,(((bT w.2.1).getD 0:Nat):Int)⟩:Ob):=rfl;rw[eo];clear eo;cases hc:ew 10 s with
 |none=>rw[hc] at u1;have u2:=vV [] (by simp);simp at u1 u2;simp -implicitDefEqProofs [sX,u1,u2,fu,dZ]
 |some c=>
 obtain⟨l,b⟩:=c;rw[hc] at u1;have hd:=Ac hc;simp only at hd;obtain⟨d1,d2,d3⟩:=hd;have u2:=vV l (by omega);have hm:=yI 32 l;have d4:¬(((s.length - b.length:Nat):Int)<0):=by omega
 simp only[ja] at u1⊢;by_cases h4:(cw 32 l).length=4;rotate_left
 ·have EY:¬(((cw 32 l).length:Int)=4):=by omega
  have hw4:yX (cw 32 l)=none:=by unfold yX;split;(rename_i e;rw[e] at h4;simp at h4);rfl
  rw[hw4];obtain⟨e,he⟩:∃e,s.length - b.length=e:=⟨_,rfl⟩;rw[he] at u1 d4;try simp at u1 u2
  simp -implicitDefEqProofs [sX,u1,u2,EY,d4,fu,dZ]
 obtain⟨w0,w1,w2,w3,hw⟩:=R2 h4;rw[hw] at u2 hm⊢;have u3:=tT w2 (by have:=hm w2 (by simp);omega);have u4:=tT w3 (by have:=hm w3 (by simp);omega);have hm1:=hm w1 (by simp);simp only[yX,ja];obtain⟨n,hn⟩:∃n,(bT w3).getD 0=n:=⟨_,rfl⟩
 have hnb:n<=1000000:=by
  rw[<-hn];cases hq:bT w3 with
  |none=>simp
  |some x=>have:=(nI.1 hq).1;simp;omega
 rw[hn] at u4⊢;obtain⟨t,ht⟩:∃t,(((bT w2).getD 0:Nat):Int)=t:=⟨_,rfl⟩;rw[ht] at u3⊢;have u5:=On s w1 t n hnb hb (min n 4) 0 [] b (by omega) rfl (by omega) d2;obtain⟨e,he⟩:∃e,s.length - b.length=e:=⟨_,rfl⟩;rw[he] at u1 d4 u5;cases hq:kz (min n 4) b with
 |none=>obtain⟨g',j,u6⟩:=u5.2 hq;simp[dZ,fu] at u1 u2 u3 u4 u6;simp -implicitDefEqProofs [sX,u1,u2,u3,u4,u6,d4,fu,dZ]
 |some q=>
 have u6:=u5.1 q hq;have hv:=TX _ _ _ hq;obtain⟨vs,rest⟩:=q;simp only[cx] at hv u6⊢;have hrl:rest.length<=s.length:=by omega
 have bA:s.drop (s.length - rest.length)=rest:=by
  have e2:(s.length - b.length)+(b.length - rest.length)=s.length - rest.length:=by omega
  rw[<-e2,<-DK,d2];exact hv.2.2.2
 have u7:=XO rest (by omega);have hrw:=Tf rest;have hvw:=ajY rest;have hrf:bQ (fy rest).1=wL aF (fy rest).1.fields+(fy rest).1.body.length:=rfl;have u8:=Ee (fy rest).1.fields (by omega);have hvs:wL wS vs<=4*(16777216+1):=tu (λv eY=>by have:=hv.2.1 v eY;simp only[wS];omega) (by omega);have u9:=Jm ⟨w1,dO (fy rest).1.fields,vs,(fy rest).1,t⟩ (by simp only[bP];omega);generalize dO (fy rest).1.fields=vo at u8 u9⊢;generalize fy rest=rr at u7 u8 u9⊢;obtain⟨⟨rst,rfs,rbd⟩,rok⟩:=rr;simp only at u7 u8 u9⊢;obtain⟨f,hf⟩:∃f,s.length - rest.length=f:=⟨_,rfl⟩;rw[hf] at u6 bA;have d5:¬((f:Int)<0):=by omega
 have d6:(f:Int)<=s.length:=by omega
 have d7:(s.drop f).take (s.length - f)=s.drop f:=zc (by simp);rw[bA] at d7;simp only[fu,dZ,jz] at u6 u9⊢;simp at u1 u2 u3 u4 u6 u7 u8;by_cases gt:ep ⟨w1,vo,vs,⟨rst,rfs,rbd⟩,t⟩=s;·rw[gt] at u9;simp at u9;simp -implicitDefEqProofs [sX,u1,u2,u3,u4,u6,u7,u8,u9,d4,d5,d6,d7,bA,gt,Lib.extract_mk]
 simp at u9;simp -implicitDefEqProofs [sX,u1,u2,u3,u4,u6,u7,u8,u9,d4,d5,d6,d7,bA,gt,eq_false gt,Lib.extract_mk];all_goals (repeat' split)<;>first|rfl|omega|(simp_all;done)|(simp_all;omega)|skip
end M
set_option maxHeartbeats 4000000
namespace M
open Go
variable [Lb]
def F9{α:Type}(T:List α)(n:Nat)(a:α)(h:T[n]?=some a)(g:α->α):T.modify n g=T.set n (g a):=by
 apply iw;intro j;rw[vJ,vK];by_cases e:n=j;·subst e;obtain⟨hi,hh⟩:=aN.1 h;have hg:T[n]=a:=hh;simp[hg,hi]
 ·simp[e]
def Dc{α:Type}(T:List α)(n:Nat)(a:α)(g:α->α):(T.set n a).modify n g=T.set n (g a):=by
 apply iw;intro j;rw[vJ,vK,vK];by_cases e:n=j;·subst e;by_cases h:n<T.length<;>simp[h]
 ·simp[e]
def fC(k:Kp):List X:=[.str ⟨k.obj.path.toArray⟩,.dead,.dead,.int .i64 k.obj.resp.status,.dead,.str ⟨k.obj.resp.body.toArray⟩,.int .i64 k.obj.t,.int .i64 k.at_,.int .i64 k.seq]
def aj0{α:Type}(w:α->Nat)(l:List α)(i:Nat)(v:α):wL w (l.set i v)<=wL w l+w v:=by
 unfold wL;rw[Oc];induction l generalizing i with
 |nil=>simp
 |cons a l ih=>
  cases i with
  |zero=>simp;omega
  |succ i=>have:=ih i;simp at this⊢;omega
def yU{α:Type}(w:α->Nat)(a b:List α):wL w (a++b)=wL w a+wL w b:=by unfold wL;simp;omega
def Um{α:Type}(w:α->Nat)(p:α->Bool)(l:List α):wL w (l.filter p)<=wL w l:=by
 induction l with
 |nil=>simp[wL]
 |cons a l ih=>rw[List.filter_cons];split<;>simp[wL] at ih⊢ <;>omega
def J1(k:Nat->Bool):∀(ws:List Wr) (i:Nat) (cs:List ag),wL wS (foldI (lP k) i ws cs)<=wL wS cs+wL dz ws
 |[],i,cs=>by simp[foldI]
 |w::ws,i,cs=>by
  have h:=J1 k ws (i+1) (lP k i cs w)
  have h2:wL wS (lP k i cs w)<=wL wS cs+dz w:=by
   unfold lP;split;·exact aj0 wS cs _ w.text
   ·omega
  have h3:wL dz (w::ws)=dz w+wL dz ws+1:=by simp[wL];omega
  rw[foldI];omega
def Au(d:bD):bW (gY d)<=bW d:=by have:=J1 (kS [] true) d.pending 0 d.cells;show wL wS (qu (kS [] true) d.cells d.pending)+wL dz []<=wL wS d.cells+wL dz d.pending;unfold qu;have h:wL dz ([]:List Wr)=0:=rfl;omega
def S0(d:bD)(a:Int)(t:ag):bW (lT d a t)<=bW d+t.length+1:=by
 have h:=Au d;have h1:wL dz [⟨a,t⟩]=t.length+1:=by simp[wL,dz];omega
 unfold lT;split;·show wL wS (gY d).cells+wL dz [⟨a,t⟩]<=_;have h2:bW (gY d)=wL wS (gY d).cells+wL dz []:=rfl;have h:wL dz ([]:List Wr)=0:=rfl;omega
 ·show wL wS d.cells+wL dz (d.pending++[⟨a,t⟩])<=wL wS d.cells+wL dz d.pending+t.length+1;rw[yU];omega
structure Wc (s:Sh):Prop where
 d:cS s.aI=true
 b:(s.aG.length:Int)<=5
 n:5<=s.next/\s.next<=19
 q:1<=s.seq/\s.seq<=100000
 bs:bu dW s.aG=true
 os:oN s.seq s.ai=true
def nT{s:Sh}(h:dI s=true):Wc s:=by unfold dI at h;simp only[av,aZ] at h;exact⟨h.1.1.1.1.1,h.1.1.1.1.2,h.1.1.1.2,h.1.1.2,h.1.2,h.2⟩
def TG{s:Sh}(h:dI s=true){k:Kp}(hk:k∈s.ai):dx k.obj=true:=by unfold dI at h;simp only[av] at h;have:=h.2;unfold oN at this;obtain⟨i,hi,rfl⟩:=pL hk;have h2:=ff.1 this (s.ai[i],i) (lY (i:=i) (by simp[hi]));unfold oJ at h2;simp only[av] at h2;exact h2.1.1.1.1
end M
set_option maxHeartbeats 4000000
namespace M
open Go
variable [Lb]
def QK(d:bD)(a:Int):(ek d a).length<=bW d:=by
 have hw:bW d=wL wS d.cells+wL dz d.pending:=rfl;unfold ek;rw[QC];cases h:d.pending.reverse.find? (λw=>decide (w.at_=a)) with
 |none=>
  simp only[Option.elim_none];rw[jX];cases h2:d.cells[a.toNat]? with
  |none=>simp
  |some s=>have:=pn (w:=wS) (lY h2);simp only[wS] at this;simp only[q8];omega
 |some w=>have:=UA h;have:=pn (w:=dz) (NH.1 this);simp only[dz] at this;simp only[Option.elim_some];omega
def Vk(d:bD)(a:Int)(hb:d.pending.length<=9223372036854775807)(x:ag):aJ (ak (ev LI TT) (au TT) Cf) [(1,.int .i64 a),(2,.ptr .own (cV .af d)),(5,.str ⟨(x).toArray⟩),(6,.int .i64 0)]=some (.exit 0,[(1,.int .i64 a),(2,.ptr .own (cV .af d)),(5,.str ⟨(((d.pending).foldl (λout w=>if w.at_=a then w.text else out) x)).toArray⟩),(6,.int .i64 (d.pending).length),(24,.bool false)]):=by
 refine F4 (f:=ak (ev LI TT) (au TT) Cf) (d.pending) (λi (x:ag)=>[(1,.int .i64 a),(2,.ptr .own (cV .af d)),(5,.str ⟨(x).toArray⟩),(6,.int .i64 i)]) (λout w=>if w.at_=a then w.text else out) (λx=>[(1,.int .i64 a),(2,.ptr .own (cV .af d)),(5,.str ⟨(x).toArray⟩),(6,.int .i64 (d.pending).length),(24,.bool false)]) (λ_ _=>True) x trivial (λi b x hi hl _=>?_) (λ_ _ _ _ _=>trivial) (λx _=>?_);·have hw:=bx i (by first|omega|(simp at hl;omega));obtain⟨_,rfl⟩:=aN.1 hi;simp -implicitDefEqProofs [Cf,Mg,hl,hw];split<;>rfl
 ·simp -implicitDefEqProofs [Cf,Mg]
def OW(d:bD)(a:Int)(hb:d.pending.length<=9223372036854775807):ev LI TT 133 [.agg (cV .af d),.int .i64 a]=some (.str ⟨(if cS d=true/\0<=a/\a<=19 then ek d a else []).toArray⟩,[.dead,.dead]):=by
 rw[aq (b:=Gs) (rs:=[.t 4]) (n:=2) rfl rfl];have h:=λx=>Vk d a hb x;have h2:=tS d hb;simp at h h2;simp -implicitDefEqProofs [Gs,h,h2];by_cases hc:cS d=true/\0<=a/\a<=19
 ·obtain⟨g1,g2,g3⟩:=hc;have g4:=(ju g1).2.1;have g5:¬(a<0\/19<a):=by omega
  have g6:a.toNat<d.cells.length:=by omega
  simp[g1,g2,g3,g5,g6,h,ek]
 ·by_cases g1:cS d=true
  ·have g5:(a<0\/19<a):=by false_or_by_contra;exact hc ⟨g1,by omega,by omega⟩
   have g6:¬(0<=a/\a<=19):=by omega
   simp[g1,g5,g6]
  ·simp[g1]
end M
set_option maxHeartbeats 4000000
namespace M
open Go
variable [Lb]
def S9(s:ag):0<=(dn s).1/\(dn s).1<=100000:=by
 cases h:(dn s).2.2;·rw[Ta h];simp
 ·have:=Gl h;omega
def VL(d:bD)(hd:cS d=true)(hwd:bW d<=16777216):
  aJ (ak (ev LI TT) (au TT) s7) [(1,.ptr .own (cV .af d)),(4,.row .own 4 []),(5,.int .i64 0),(6,.int .i64 0)]=
  (match eu (nE d) 0 (List.range 5) ([],0) with
   |.inl g=>some (.exit 0,[(1,.ptr .own (cV .af d)),(4,.row .own 4 (g.1.map cu)),(5,.int .i64 g.2),(6,.int .i64 5),(14,.bool false)])
   |.inr e=>some (.ret,[(2,.row .own 4 (e.1.1.map cu)),(3,.int .i64 e.1.2),(4,.dead)])):=by
 obtain⟨k0,k1,k2⟩:=ju hd
 have:=Ls (xt:=0) (f:=ak (ev LI TT) (au TT) s7) (List.range 5) (λi (g:List Bn×Int)=>[(1,.ptr .own (cV .af d)),(4,.row .own 4 (g.1.map cu)),(5,.int .i64 g.2),(6,.int .i64 i)]) (nE d)
  (λg=>[(1,.ptr .own (cV .af d)),(4,.row .own 4 (g.1.map cu)),(5,.int .i64 g.2),(6,.int .i64 5),(14,.bool false)])
  (λe=>(.ret,[(2,.row .own 4 (e.1.1.map cu)),(3,.int .i64 e.1.2),(4,.dead)]))
  (λi g=>(∀b∈g.1,dW b=true)/\g.1.length<=i/\0<=g.2/\g.2<100000) ([],0) (by simp) (λi b g hi hl hg=>?_) (λi b g g' hi hg nv=>(Lt d hg).1 g' nv) (λg hg=>?_)
 ·refine Eq.trans ?_ (this.trans ?_);·simp
  ·cases eu (nE d) 0 (List.range 5) ([],0) with
   |inl g=>rfl
   |inr e=>rfl
 ·have KA:i<5:=by simpa using hl
  have kP:(i:Int)<5:=by omega
  have hw:=bx i (by omega);have u1:=OW d i (by omega);have hin:cS d=true/\(0:Int)<=i/\(i:Int)<=19:=⟨hd,by omega,by omega⟩;rw[aA hin] at u1;have hgw:=QK d i;have u2:=O2 (ek d i) (by omega);have hrl:=S8 (ek d i);have AW:=S9 (ek d i);have u3:=Xw (dn (ek d i)).2.1 (by omega);have hlz:(g.1.length+1)*48<=140737488355328:=by omega
  unfold nE;generalize dn (ek d i)=rr at u2 u3 hrl AW⊢;obtain⟨n,bd,ok⟩:=rr;simp only at u2 u3 hrl AW⊢;generalize je bd=br at u3⊢;obtain⟨⟨bk,ba,bb,bt⟩,Jc⟩:=br;have uj:max g.2 n=if n<g.2 then g.2 else n:=by split<;>omega
  simp at u1 u2 u3;cases ok;·simp -implicitDefEqProofs [s7,yj,kP,hw,u1,u2,u3,lv]
  cases Jc;·simp -implicitDefEqProofs [s7,yj,kP,hw,u1,u2,u3,lv]
  by_cases gq:n<100000;·simp -implicitDefEqProofs [s7,yj,kP,hw,u1,u2,u3,lv,hlz,cD,gq,BN,uj]
  ·simp -implicitDefEqProofs [s7,yj,kP,hw,u1,u2,u3,lv,hlz,cD,gq,BN]
 ·simp -implicitDefEqProofs [s7,yj]
def XR(d:bD)(hd:cS d=true)(hwd:bW d<=16777216):ev LI TT 131 [.agg (cV .af d)]=some (.aj [.row .own 4 ((gK d).1.map cu),.int .i64 (gK d).2],[.dead]):=by
 rw[aq (b:=CO) (rs:=[.t 2,.t 3]) (n:=1) rfl rfl];have u1:=VL d hd hwd;try simp at u1
 unfold gK;cases hr:eu (nE d) 0 (List.range 5) ([],0) with
 |inl g=>rw[hr] at u1;simp at u1;simp -implicitDefEqProofs [CO,u1,Jd]
 |inr e=>
 rw[hr] at u1;simp at u1;simp -implicitDefEqProofs [CO,u1,u1,Jd];all_goals (repeat' split)<;>first|rfl|omega|(simp_all;done)|(simp_all;omega)|skip
end M
set_option maxHeartbeats 4000000
namespace M
open Go
variable [Lb]
def Sm(d:bD):wL aW (gK d).1<=1000:=by have:=F6 d;have:=tu (w:=aW) (n:=120) (m:=5) (l:=(gK d).1) (λb hb=>WG (this.1 b hb)) this.2.1;omega
end M
set_option maxHeartbeats 4000000
namespace M
open Go
variable [Lb]
def qU:Sh:=⟨⟨List.replicate 20 [],[]⟩,[],[],5,1⟩
def OX:ev LI TT 207 []=some (.agg (cV .own ⟨List.replicate 20 [],[]⟩),[]):=by rw[aq (b:=Gt) (rs:=[.c 0 2 true 50]) (n:=0) rfl rfl];simp -implicitDefEqProofs [Gt];all_goals (repeat' split)<;>first|rfl|omega|(simp_all;done)|(simp_all;omega)|skip
def O5:ev LI TT 130 []=some (.agg (aO .own qU),[]):=by
 rw[aq (b:=GL) (rs:=[.c 0 6 true 54]) (n:=0) rfl rfl];have u1:=OX;try simp at u1
 simp -implicitDefEqProofs [GL,u1,qU];all_goals (repeat' split)<;>first|rfl|omega|(simp_all;done)|(simp_all;omega)|skip
noncomputable def Lx(d:bD):Sh:=if cS d=true then uG d else qU
def RO{α:Type}(q:α->Int)(k:α):∀(l:List α) (g:List α×Bool),(l.foldl (jN q k) g).1.length<=g.1.length+2*l.length
 |[],g=>by simp
 |x::l,g=>by
  rw[pJ];have h:=RO q k l (jN q k g x);have h2:(jN q k g x).1.length<=g.1.length+2:=by unfold jN;(try dsimp only);split<;>simp
  simp only[cO];omega
def Dz{n m:Nat}(h:n<=m)(hm:m<=100000:=by decide):(n+1)*136<=140737488355328:=by omega
def IW{i n:Nat}(h:i<n)(hb:n<=1000):i<9223372036854775807:=by omega
def V9(T:List (List X))(n i:Nat)(k x:Kp)(out:List Kp)(kK:i<T.length)(hb:T.length<=1000)(nq:T[i]=aP .own x)(ho:out.length<=1000)(hq:k.seq<x.seq):
  ak (ev LI TT) (au TT) o8 [(0,.ref 100000 []),(3,.ptr .own (aP .own k)),(5,.row .own 9 (out.map (aP .own))),(6,.bool false),(7,.int .i64 i),(100000,.row .own 9 T)]=some (.normal,[(0,.ref 100000 []),(3,.ptr .own (fC k)),(5,.row .own 9 ((out++[k,x]).map (aP .own))),(6,.bool true),(7,.int .i64 ((i+1:Nat):Int)),(100000,.row .own 9 (T.set i (fC x)))]):=by
 have hz1:=Dz ho;have hz2:=Dz (Nat.succ_le_succ ho);have rZ:(i:Int)<T.length:=DI.2 kK;have hw:=bx i (IW kK hb);have hm:=F9 T i _ (aN.2 ⟨kK,nq⟩);try simp at nq hm
 simp -implicitDefEqProofs [o8,CX,kK,rZ,nq,hm,Dc,hz1,hz2,hq,hw,cD,fC]
def Wa(T:List (List X))(n i:Nat)(k x:Kp)(out:List Kp)(kK:i<T.length)(hb:T.length<=1000)(nq:T[i]=aP .own x)(ho:out.length<=1000)(hq:¬k.seq<x.seq):
  ak (ev LI TT) (au TT) o8 [(0,.ref 100000 []),(3,.ptr .own (aP .own k)),(5,.row .own 9 (out.map (aP .own))),(6,.bool false),(7,.int .i64 i),(100000,.row .own 9 T)]=some (.normal,[(0,.ref 100000 []),(3,.ptr .own (aP .own k)),(5,.row .own 9 ((out++[x]).map (aP .own))),(6,.bool false),(7,.int .i64 ((i+1:Nat):Int)),(100000,.row .own 9 (T.set i (fC x)))]):=by
 have hz1:=Dz ho;have rZ:(i:Int)<T.length:=DI.2 kK;have hw:=bx i (IW kK hb);have hm:=F9 T i _ (aN.2 ⟨kK,nq⟩);try simp at nq hm
 simp -implicitDefEqProofs [o8,CX,kK,rZ,nq,hm,Dc,hz1,hq,hw,cD,fC]
def Wb(T:List (List X))(n i:Nat)(k x:Kp)(out:List Kp)(kK:i<T.length)(hb:T.length<=1000)(nq:T[i]=aP .own x)(ho:out.length<=1000):
  ak (ev LI TT) (au TT) o8 [(0,.ref 100000 []),(3,.ptr .own (fC k)),(5,.row .own 9 (out.map (aP .own))),(6,.bool true),(7,.int .i64 i),(100000,.row .own 9 T)]=some (.normal,[(0,.ref 100000 []),(3,.ptr .own (fC k)),(5,.row .own 9 ((out++[x]).map (aP .own))),(6,.bool true),(7,.int .i64 ((i+1:Nat):Int)),(100000,.row .own 9 (T.set i (fC x)))]):=by
 have hz1:=Dz ho;have rZ:(i:Int)<T.length:=DI.2 kK;have hw:=bx i (IW kK hb);have hm:=F9 T i _ (aN.2 ⟨kK,nq⟩);try simp at nq hm
 simp -implicitDefEqProofs [o8,CX,kK,rZ,nq,hm,Dc,hz1,hw,cD,fC]
def agi(l:List Kp)(i:Nat)(hl:i<l.length)(hb:l.length<=15):((l.take i).map fC++(l.drop i).map (aP .own)).length=l.length/\((l.take i).map fC++(l.drop i).map (aP .own))[i]?=some (aP .own l[i])/\((l.take i).map fC++(l.drop i).map (aP .own)).set i (fC l[i])=(l.take (i+1)).map fC++(l.drop (i+1)).map (aP .own):=by
 have e:l.drop i=l[i]::l.drop (i+1):=rj hl;have AP:((l.take i).map fC).length=i:=by rw[dV,List.length_take];omega
 refine⟨by simp;omega,?_,?_⟩;·rw[jb (by omega),AP,ID,e];rfl
 ·rw[Iz _ _ (by omega),AP,ID,e,bg,aQ,qZ hl,iK,mS];rfl
def qV(k:Kp)(b:Bool):List X:=if b=true then fC k else aP .own k
def agH(ks:List Nat)(k:Kp)(b:Bool):X.nN ks (qV k b)=qV k b:=by cases b<;>simp[qV,fC]
def VN(l:List Kp)(k:Kp)(r9:l.length<=15):
  aJ (ak (ev LI TT) (au TT) o8) [(0,.ref 100000 []),(3,.ptr .own (aP .own k)),(5,.row .own 9 []),(6,.bool false),(7,.int .i64 0),(100000,.row .own 9 (l.map (aP .own)))]=some (.exit 0,[(0,.ref 100000 []),(3,.ptr .own (qV k (l.foldl (jN Kp.seq k) ([],false)).2)),(5,.row .own 9 ((l.foldl (jN Kp.seq k) ([],false)).1.map (aP .own))),(6,.bool (l.foldl (jN Kp.seq k) ([],false)).2),(7,.int .i64 l.length),(12,.bool false),(100000,.row .own 9 (l.map fC))]):=by
 have:=kT (xt:=0) (f:=ak (ev LI TT) (au TT) o8) l (λi (g:List Kp×Bool)=>[(0,.ref 100000 []),(3,.ptr .own (qV k g.2)),(5,.row .own 9 (g.1.map (aP .own))),(6,.bool g.2),(7,.int .i64 i),(100000,.row .own 9 ((l.take i).map fC++(l.drop i).map (aP .own)))]) (λ_ g x=>jN Kp.seq k g x)
  (λg=>[(0,.ref 100000 []),(3,.ptr .own (qV k g.2)),(5,.row .own 9 (g.1.map (aP .own))),(6,.bool g.2),(7,.int .i64 l.length),(12,.bool false),(100000,.row .own 9 (l.map fC))])
  (λi g=>g.1.length<=2*i) ([],false) (by simp) (λi b g hi hl hg=>?_) (λi b g hi hg=>?_) (λg hg=>?_)
 ·rw[J0] at this;refine Eq.trans ?_ this;simp[qV]
 ·obtain⟨_,rfl⟩:=aN.1 hi;obtain⟨r1,r2,r3⟩:=agi l i hl r9;rw[<-r3];generalize (l.take i).map fC++(l.drop i).map (aP .own)=T at r1 r2⊢;obtain⟨q1,q2⟩:=aN.1 r2;obtain⟨out,pt⟩:=g;simp only at hg;unfold jN qV;cases pt
  ·by_cases hq:k.seq<(l[i]).seq;·have:=V9 T 0 i k l[i] out q1 (by omega) q2 (by omega) hq;simp only[hq,fJ,eL,zg,dB,decide_true,Bool.or_true];exact this
   ·have:=Wa T 0 i k l[i] out q1 (by omega) q2 (by omega) hq;simp only[hq,fJ,eL,and_false,NR,Bool.or_false];exact this
  ·have:=Wb T 0 i k l[i] out q1 (by omega) q2 (by omega);simp only[NV,eL,dB,false_and,Bool.true_or];exact this
 ·unfold jN;simp only;split<;>simp<;>omega
 ·simp -implicitDefEqProofs [o8,CX,agH]
def XS(l:List Kp)(k:Kp)(r9:l.length<=15):ev LI TT 136 [.row .own 9 (l.map (aP .own)),.agg (aP .own k)]=some (.row .own 9 ((ko Kp.seq k l).map (aP .own)),[.dead,.dead]):=by
 rw[aq (b:=Hs) (rs:=[.t 4]) (n:=2) rfl rfl];have u1:=VN l k r9;have hi:=adq Kp.seq k l [];simp only[jz] at hi;rw[<-hi];have hlen:=RO Kp.seq k l ([],false);generalize l.foldl (jN Kp.seq k) ([],false)=g at u1 hlen⊢;obtain⟨out,pt⟩:=g;simp only[gS] at hlen;have hz1:(out.length+1)*136<=140737488355328:=by omega
 unfold FW;unfold qV at u1;cases pt;all_goals simp at u1
 all_goals
 simp -implicitDefEqProofs [Hs,u1,hz1,cD];all_goals (repeat' split)<;>first|rfl|omega|(simp_all;done)|(simp_all;omega)|skip
def Oy{α:Type}(p:α->Bool):∀(l:List α) (i:Nat) (g:Bool),foldI (λ_ (g:Bool) x=>g && p x) i l g=(g && bu p l)
 |[],i,g=>by simp[foldI,bu]
 |x::l,i,g=>by rw[foldI,Oy p l];simp[bu,NN]
def Ws{α:Type}(p:α->Bool)(l:List α):bu (λx=> !p x) l= !(l.any p):=by unfold bu;rw[List.all_eq_not_any_not];simp
def iX(all:List Kp)(i:Nat):List (List X):=all.mapIdx λj k=>if j<i/\sB all j k=false then fC k else aP .own k
def H9(all:List Kp)(i:Nat):(iX all i).length=all.length:=by simp[iX]
def TU(all:List Kp)(i j:Nat)(h:i<=j)(hj:j<all.length):(iX all i)[j]?=some (aP .own all[j]):=by unfold iX;rw[DM,cj hj];simp only[cx];rw[aC (by omega)]
def ag2(all:List Kp):iX all 0=all.map (aP .own):=by
 apply iw;intro j;unfold iX;rw[DM,de];cases all[j]? with
 |none=>rfl
 |some k=>simp only[cx];rw[aC (by omega)]
def H8(all:List Kp)(i j:Nat):(iX all i)[j]?=all[j]?.map λk=>if j<i/\sB all j k=false then fC k else aP .own k:=by unfold iX;rw[DM]
def ag1(all:List Kp)(i:Nat)(hi:i<all.length):iX all (i+1)=if sB all i all[i]=true then iX all i else (iX all i).set i (fC all[i]):=by
 apply iw;intro j;rw[H8];by_cases e:j=i
 ·subst e;cases hb:sB all j all[j];·simp only[fJ,eL];rw[List.getElem?_set_self (by rw[H9];exact hi),cj hi];simp only[cx,hb,tC];rw[aA (by omega)]
  ·simp only[dB];rw[H8,cj hi];simp only[cx,hb,NV,and_false,eL]
 ·have e2:j<i+1↔j<i:=⟨λh=>by omega,λh=>by omega⟩;simp only[e2];split;·rw[H8]
  ·rw[List.getElem?_set_ne (by omega),H8]
def V5(d:bD)(bs:List Bn)(sq:Int)(ai:List Kp)(nx:Int)(all:List Kp)(r9:all.length<=15)(hall:∀k∈all,zw k)(i:Nat)(hi:i<all.length)(T:List (List X))(hT:∀j,i<=j->(h:j<all.length)->T[j]?=some (aP .own all[j]))(Kj:T.length=all.length):
  aJ (ak (ev LI TT) (au TT) uW) [(2,.ptr .own (aO .own ⟨⟨[],[]⟩,[],[],0,0⟩)),(5,.row .own 9 T),(12,.ptr .own (aO .own ⟨d,ai,bs,nx,sq⟩)),(13,.int .i64 i),(14,.bool true),(15,.int .i64 ((i+1:Nat):Int))]=
  some (.exit 4,[(2,.ptr .own (aO .own ⟨⟨[],[]⟩,[],[],0,0⟩)),(5,.row .own 9 T),(12,.ptr .own (aO .own ⟨d,ai,bs,nx,sq⟩)),(13,.int .i64 i),(14,.bool (!sB all i all[i])),(15,.int .i64 all.length),(83,.bool false)]):=by
 have:=kT (xt:=4) (f:=ak (ev LI TT) (au TT) uW) (all.drop (i+1)) (λj (g:Bool)=>[(2,.ptr .own (aO .own ⟨⟨[],[]⟩,[],[],0,0⟩)),(5,.row .own 9 T),(12,.ptr .own (aO .own ⟨d,ai,bs,nx,sq⟩)),(13,.int .i64 i),(14,.bool g),(15,.int .i64 ((i+1+j:Nat):Int))]) (λ_ (g:Bool) x=>g && !(decide (x.seq=(all[i]).seq)||k7 x.obj (all[i]).obj))
  (λg=>[(2,.ptr .own (aO .own ⟨⟨[],[]⟩,[],[],0,0⟩)),(5,.row .own 9 T),(12,.ptr .own (aO .own ⟨d,ai,bs,nx,sq⟩)),(13,.int .i64 i),(14,.bool g),(15,.int .i64 all.length),(83,.bool false)])
  (λ_ _=>True) true trivial (λj b g hj hl _=>?_) (λ_ _ _ _ _=>trivial) (λg _=>?_)
 ·rw[Oy,Ws] at this;exact this
 ·rw[pK] at hj;obtain⟨hjl,rfl⟩:=aN.1 hj;obtain⟨n,hn⟩:∃n,i+1+j=n:=⟨_,rfl⟩;have hn2:i+1+(j+1)=n+1:=by omega
  simp only[hn] at hjl⊢;rw[hn2];obtain⟨q1,q2⟩:=aN.1 (hT n (by omega) hjl);obtain⟨q3,q4⟩:=aN.1 (hT i (by omega) hi);have hw:=bx n (by omega);have kP:(n:Int)<T.length:=by omega
  have u1:=Pc (all[n]).obj (all[i]).obj (by have:=BV (hall _ (cN hjl)).o;omega) (by have:=BV (hall _ (cN hi)).o;omega);clear hT hj hl;generalize k7 (all[n]).obj (all[i]).obj=tw at u1⊢;try simp at u1 q2 q4
  by_cases gq:(all[n]).seq=(all[i]).seq;·simp -implicitDefEqProofs [uW,Cp,kP,hw,q1,q2,q3,q4,gq]
  ·cases tw;·simp -implicitDefEqProofs [uW,Cp,kP,hw,q1,q2,q3,q4,gq,u1]
   ·simp -implicitDefEqProofs [uW,Cp,kP,hw,q1,q2,q3,q4,gq,u1]
 ·have e:i+1+(all.drop (i+1)).length=all.length:=by rw[tF];omega
  rw[e];simp -implicitDefEqProofs [uW,Cp,Kj]
end M
set_option maxHeartbeats 4000000
namespace M
open Go
variable [Lb]
def V8(d:bD)(bs:List Bn)(sq:Int)(ai:List Kp)(nx:Int)(all:List Kp)(r9:all.length<=15)(hall:∀k∈all,zw k)(i:Nat)(hi:i<all.length)(ho:ai.length<=1000):
  ak (ev LI TT) (au TT) uX [(2,.ptr .own (aO .own ⟨⟨[],[]⟩,[],[],0,0⟩)),(5,.row .own 9 (iX all i)),(12,.ptr .own (aO .own ⟨d,ai,bs,nx,sq⟩)),(13,.int .i64 i)]=
  some (.normal,[(2,.ptr .own (aO .own ⟨⟨[],[]⟩,[],[],0,0⟩)),(5,.row .own 9 (iX all (i+1))),(12,.ptr .own (aO .own ⟨d,(sD all i (ai,nx) all[i]).1,bs,(sD all i (ai,nx) all[i]).2,sq⟩)),(13,.int .i64 ((i+1:Nat):Int))]):=by
 have hz:=Dz ho;have hw:=bx i (IW hi (by omega));have hk:=hall _ (cN hi);have u2:=O9 (all[i]).at_ hk.a;have u1:=V5 d bs sq ai nx all r9 hall i hi (iX all i) (λj h1 h2=>TU all i j h1 h2) (H9 all i);have hg:=TU all i i (dF _) hi;have Kj:=H9 all i;rw[ag1 all i hi];unfold sD;generalize iX all i=T at u1 hg Kj⊢;obtain⟨q1,q2⟩:=aN.1 hg;have hm:=F9 T i _ hg;have rZ:(i:Int)<T.length:=DI.2 q1;have Q8:(i:Int)<all.length:=DI.2 hi;clear hall hk hg;cases hlb:sB all i all[i]
 ·rw[hlb] at u1;try simp at u1 u2 q2 hm
  simp -implicitDefEqProofs [uX,GG,hi,q1,rZ,Q8,hw,u1,u2,q2,hm,Dc,hz,cD,fC]
 ·rw[hlb] at u1;try simp at u1 u2 q2 hm
  simp -implicitDefEqProofs [uX,GG,hi,q1,rZ,Q8,hw,u1,u2,q2]
def V7(d:bD)(bs:List Bn)(sq:Int)(all:List Kp)(r9:all.length<=15)(hall:∀k∈all,zw k):
  aJ (ak (ev LI TT) (au TT) uX) [(2,.ptr .own (aO .own ⟨⟨[],[]⟩,[],[],0,0⟩)),(5,.row .own 9 (all.map (aP .own))),(12,.ptr .own (aO .own ⟨d,[],bs,5,sq⟩)),(13,.int .i64 0)]=
  some (.exit 2,[(2,.ptr .own (aO .own ⟨⟨[],[]⟩,[],[],0,0⟩)),(5,.row .own 9 (iX all all.length)),(12,.ptr .own (aO .own ⟨d,(qv all).1,bs,(qv all).2,sq⟩)),(13,.int .i64 all.length),(75,.bool false)]):=by
 have:=kT (xt:=2) (f:=ak (ev LI TT) (au TT) uX) all (λi (g:List Kp×Int)=>[(2,.ptr .own (aO .own ⟨⟨[],[]⟩,[],[],0,0⟩)),(5,.row .own 9 (iX all i)),(12,.ptr .own (aO .own ⟨d,g.1,bs,g.2,sq⟩)),(13,.int .i64 i)]) (sD all)
  (λg=>[(2,.ptr .own (aO .own ⟨⟨[],[]⟩,[],[],0,0⟩)),(5,.row .own 9 (iX all all.length)),(12,.ptr .own (aO .own ⟨d,g.1,bs,g.2,sq⟩)),(13,.int .i64 all.length),(75,.bool false)])
  (λi g=>g.1.length<=i/\i<=15) ([],5) (by simp) (λi b g hi hl hg=>?_) (λi b g hi hg=>?_) (λg hg=>?_)
 ·rw[adP,ag2] at this;exact this
 ·obtain⟨_,rfl⟩:=aN.1 hi;obtain⟨ai,nx⟩:=g;exact V8 d bs sq ai nx all r9 hall i hl (by have:=hg.1;simp only at this;omega)
 ·have hl:=(aN.1 hi).1;unfold sD;split;·omega
  ·simp;omega
 ·simp -implicitDefEqProofs [uX,GG,H9]
def V6(d:bD)(bs:List Bn)(m:Int)(hd:cS d=true)(hwd:bW d<=16777216)(hbs:wL aW bs<=1000)(hm:0<=m/\m<100000):
  aJ (ak (ev LI TT) (au TT) qO) [(1,.ptr .own (cV .af d)),(2,.ptr .own (aO .own ⟨⟨[],[]⟩,[],[],0,0⟩)),(3,.ref 22 [(0,0)]),(4,.int .i64 m),(5,.row .own 9 []),(6,.int .i64 5),(20,.aj [.ref 22 [(0,0)],.int .i64 m]),(22,.aj [.row .own 4 (bs.map cu),.int .i64 m])]=
  some (.exit 0,[(1,.ptr .own (cV .af d)),(2,.ptr .own (aO .own ⟨⟨[],[]⟩,[],[],0,0⟩)),(3,.ref 22 [(0,0)]),(4,.int .i64 (xl bs d m).2),(5,.row .own 9 ((kY Kp.seq (xl bs d m).1).map (aP .own))),(6,.int .i64 20),(20,.aj [.ref 22 [(0,0)],.int .i64 m]),(22,.aj [.row .own 4 (bs.map cu),.int .i64 m]),(27,.bool false)]):=by
 obtain⟨k0,k1,k2⟩:=ju hd
 have:=kT (xt:=0) (f:=ak (ev LI TT) (au TT) qO) (List.range 15) (λi (g:List Kp×Int)=>[(1,.ptr .own (cV .af d)),(2,.ptr .own (aO .own ⟨⟨[],[]⟩,[],[],0,0⟩)),(3,.ref 22 [(0,0)]),(4,.int .i64 g.2),(5,.row .own 9 ((kY Kp.seq g.1).map (aP .own))),(6,.int .i64 ((5+i:Nat):Int)),(20,.aj [.ref 22 [(0,0)],.int .i64 m]),(22,.aj [.row .own 4 (bs.map cu),.int .i64 m])]) (xw bs d)
  (λg=>[(1,.ptr .own (cV .af d)),(2,.ptr .own (aO .own ⟨⟨[],[]⟩,[],[],0,0⟩)),(3,.ref 22 [(0,0)]),(4,.int .i64 g.2),(5,.row .own 9 ((kY Kp.seq g.1).map (aP .own))),(6,.int .i64 20),(20,.aj [.ref 22 [(0,0)],.int .i64 m]),(22,.aj [.row .own 4 (bs.map cu),.int .i64 m]),(27,.bool false)])
  (λi g=>i<=15/\vN i g) ([],m) ⟨by omega,⟨by simp,by simp,hm,by simp,by simp,by simp⟩⟩ (λi b g hi hl hg=>?_) (λi b g hi hg=>?_) (λg hg=>?_)
 ·refine Eq.trans ?_ this;simp[kY]
 ·have KA:i<15:=by simpa using hl
  obtain⟨at_,jk⟩:∃a,((5+i:Nat):Int)=a:=⟨_,rfl⟩;have kP:at_<20:=by omega
  have hw:IntKind.i64.wrap (at_+1)=at_+1:=cy (by omega) (by omega);have Rc:((5+(i+1):Nat):Int)=at_+1:=by omega
  have u1:=OW d at_ (by omega);have hin:cS d=true/\(0:Int)<=at_/\at_<=19:=⟨hd,by omega,by omega⟩;rw[aA hin] at u1;have hgw:=QK d at_;have u2:=O2 (ek d at_) (by omega);have hrl:=S8 (ek d at_);have AW:=S9 (ek d at_);have u3:=XL (dn (ek d at_)).2.1 (by omega);have how:=aeV (dn (ek d at_)).2.1;have jm:=hg.2.n;have Fg:(kY Kp.seq g.1).length<=15:=by rw[(HU Kp.seq g.1).length_eq];omega
  unfold xw;rw[jk,Rc];clear jk Rc;generalize dn (ek d at_)=rr at u2 u3 hrl AW how⊢;obtain⟨n,bd,ok⟩:=rr;simp only at u2 u3 hrl AW how⊢;generalize jP bd=br at u3 how⊢;obtain⟨⟨op,on,ov,⟨rs,rf,rb⟩,ot⟩,Jc⟩:=br;simp only at how;have u5:=Ec bs ⟨op,on,ov,⟨rs,rf,rb⟩,ot⟩ (by omega) (by omega);have u6:=XS (kY Kp.seq g.1) ⟨⟨op,on,ov,⟨rs,rf,rb⟩,ot⟩,at_,n⟩ Fg;rw[<-agM] at u6;have uj:max g.2 n=if n<g.2 then g.2 else n:=by split<;>omega
  simp only at u5⊢;generalize gG bs ⟨op,on,ov,⟨rs,rf,rb⟩,ot⟩=hb at u5⊢;obtain⟨g1,g2⟩:=g;simp only at u6 uj⊢;simp at u1 u2 u3 u5 u6;cases ok;·simp -implicitDefEqProofs [qO,uV,kP,hw,u1,u2,u3]
  cases Jc;·simp -implicitDefEqProofs [qO,uV,kP,hw,u1,u2,u3]
  by_cases gq:n<100000;rotate_left
  ·have EV:100000<=n:=by omega
   simp -implicitDefEqProofs [qO,uV,kP,hw,u1,u2,u3,gq,EV]
  have EV:¬100000<=n:=by omega
  cases hb;·simp -implicitDefEqProofs [qO,uV,kP,hw,u1,u2,u3,u5,u6,gq,EV,uj]
  ·simp -implicitDefEqProofs [qO,uV,kP,hw,u1,u2,u3,u5,gq,EV,uj]
 ·have KA:i<15:=by have:=(aN.1 hi).1;simpa using this
  exact⟨by omega,Sv bs d KA b hg.2⟩
 ·simp -implicitDefEqProofs [qO,uV]
def XJ(d:bD)(hwd:bW d<=16777216):ev LI TT 42 [.agg (cV .af d)]=some (.agg (aO .own (Lx d)),[.dead]):=by
 rw[aq (b:=Cq) (rs:=[.c 2 6 true 54]) (n:=1) rfl rfl];have KR:bW d=wL wS d.cells+wL dz d.pending:=rfl;have l1:=bp (w:=wS) d.cells;have l2:=bp (w:=dz) d.pending;unfold Lx;have u1:=tS d (by omega);try simp at u1
 have u2:=Eg d (by omega) (by omega);try simp at u2
 by_cases g:cS d=true;rotate_left;·have u3:=O5;rw[show cS d=false by simpa using g] at u1⊢;simp at u1 u3;simp -implicitDefEqProofs [Cq,u1,u3]
 have B:=F6 d;have u3:=XR d g hwd;have u4:=V6 d (gK d).1 (gK d).2 g hwd (Sm d) B.2.2;have u5:=V7 d (gK d).1 ((kU d).2+1) (iR d) (Sk d) (λk hk=>(F5 hk).1);have O:=(BH d).m;have hw:IntKind.i64.wrap ((kU d).2+1)=(kU d).2+1:=cy (by omega) (by omega);rw[show xl (gK d).1 d (gK d).2=kU d from rfl,show kY Kp.seq (kU d).1=iR d from rfl] at u4;have e:uG d=⟨d,(qv (iR d)).1,(gK d).1,(qv (iR d)).2,(kU d).2+1⟩:=rfl;rw[g] at u1;rw[g,aA rfl,e];clear e B O;generalize qv (iR d)=lk at u5⊢;generalize iR d=all at u4 u5;generalize kU d=od at u4 u5 hw⊢;generalize gK d=mb at u3 u4 u5⊢;obtain⟨ai,nx⟩:=lk;obtain⟨od1,od2⟩:=od;obtain⟨bs,ms⟩:=mb;simp at u1 u2 u3 u4 u5;simp -implicitDefEqProofs [Cq,u1,u2,u3,u4,u5,hw];all_goals (repeat' split)<;>first|rfl|omega|(simp_all;done)|(simp_all;omega)|skip
end M
set_option maxHeartbeats 4000000
namespace M
open Go
variable [Lb]
def aet(d:bD):bw (uG d)<=bW d+25000:=by have h1:=Sm d;have h2:wL bO (iQ (iR d))<=15*(1300+1):=tu (λk hk=>BV (F5 ((xh _).subset hk)).1.o) (iZ (xh _).length_le (Sk d));show bW d+wL bO (iQ (iR d))+wL aW (gK d).1<=_;omega
end M
namespace M
open Go
variable [Lb]
end M
set_option maxHeartbeats 4000000
namespace M
open Go
variable [Lb]
end M
