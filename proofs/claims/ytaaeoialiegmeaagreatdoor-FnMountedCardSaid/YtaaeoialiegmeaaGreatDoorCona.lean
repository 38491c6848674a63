/- What the functions come to in the machine; no conditions. -/
import Derived.Test.YtaaeoialiegmeaaGreatDoorTab
import Derived.Test.YtaaeoialiegmeaaGreatDoorMc
set_option linter.defProp false
set_option linter.unusedSectionVars false
set_option linter.unusedVariables false
set_option linter.unusedSimpArgs false
namespace M
open Go
end M
namespace M
open Go
@[simp] def akK(x:Int)(lo:Int)(hi:Int):ev LI TT 84 [.int .i64 x,.int .i64 lo,.int .i64 hi]=some (.bool ((decide (lo<=x/\x<=hi))),[.dead,.dead,.dead]):=by rw[ay (b:=GX) (rs:=[.t 6]) (n:=3) rfl rfl];simp -implicitDefEqProofs [GX];try (by_cases h1:lo<=x<;>by_cases h2:x<=hi<;>simp[h1,h2])
@[simp] def akF(x:Int)(lo:Int)(hi:Int):ev LI TT 91 [.int .i64 x,.int .i64 lo,.int .i64 hi]=some (.bool ((decide (lo<=x/\x<=hi))),[.dead,.dead,.dead]):=by rw[ay (b:=Ff) (rs:=[.t 6]) (n:=3) rfl rfl];simp -implicitDefEqProofs [Ff];try (by_cases h1:lo<=x<;>by_cases h2:x<=hi<;>simp[h1,h2])
def Wb(s:ag)(hb:s.length<=9223372036854775807):aI (aj (ev LI TT) (aq TT) B7) [(0,.str ⟨s.toArray⟩),(3,.int .i64 0)]=if aX s4 (s)=true then some (.exit 0,[(0,.str ⟨s.toArray⟩),(3,.int .i64 (s).length),(8,.bool false)]) else some (.ret,[(2,.bool false)]):=by
 refine gB (f:=aj (ev LI TT) (aq TT) B7) (s) (λi=>[(0,.str ⟨s.toArray⟩),(3,.int .i64 i)]) s4 _ _ (λi b hi hl=>?_) ?_;·have hw:=aU i (by first|omega|(simp at hl;omega));obtain⟨_,rfl⟩:=aL.1 hi;unfold s4;simp -implicitDefEqProofs [B7,Ma,hl,hw];all_goals (repeat' split)<;>first|rfl|omega|(simp_all;done)|(simp_all;omega)|skip
 ·simp -implicitDefEqProofs [B7,Ma]
def Jf(s:ag)(hb:s.length<=9223372036854775807):ev LI TT 167 [.str ⟨s.toArray⟩]=some (.bool ((en s)),[.dead]):=by
 rw[ay (b:=Gq) (rs:=[.t 2]) (n:=1) rfl rfl];unfold en;have u1:=Wb s hb;try simp at u1
 simp -implicitDefEqProofs [Gq,u1];all_goals (repeat' split)<;>first|rfl|omega|(simp_all;done)|(simp_all;omega)|skip
def VF(s:ag)(hb:s.length<=9223372036854775807):aI (aj (ev LI TT) (aq TT) A1) [(0,.str ⟨s.toArray⟩),(3,.int .i64 0)]=if aX s4 (s)=true then some (.exit 0,[(0,.str ⟨s.toArray⟩),(3,.int .i64 (s).length),(7,.bool false)]) else some (.ret,[(2,.bool false)]):=by
 refine gB (f:=aj (ev LI TT) (aq TT) A1) (s) (λi=>[(0,.str ⟨s.toArray⟩),(3,.int .i64 i)]) s4 _ _ (λi b hi hl=>?_) ?_;·have hw:=aU i (by first|omega|(simp at hl;omega));obtain⟨_,rfl⟩:=aL.1 hi;unfold s4;simp -implicitDefEqProofs [A1,KK,hl,hw];all_goals (repeat' split)<;>first|rfl|omega|(simp_all;done)|(simp_all;omega)|skip
 ·simp -implicitDefEqProofs [A1,KK]
def I7(s:ag)(hb:s.length<=9223372036854775807):ev LI TT 176 [.str ⟨s.toArray⟩]=some (.bool ((en s)),[.dead]):=by
 rw[ay (b:=E6) (rs:=[.t 2]) (n:=1) rfl rfl];unfold en;have u1:=VF s hb;try simp at u1
 simp -implicitDefEqProofs [E6,u1];all_goals (repeat' split)<;>first|rfl|omega|(simp_all;done)|(simp_all;omega)|skip
def VH(s:ag)(lo:UInt8)(hb:s.length<=9223372036854775807):aI (aj (ev LI TT) (aq TT) A5) [(0,.str ⟨s.toArray⟩),(1,.int .u8 (lo.toNat:Int)),(5,.int .i64 0)]=if aX (iR lo.toNat) (s)=true then some (.exit 0,[(0,.str ⟨s.toArray⟩),(1,.int .u8 (lo.toNat:Int)),(5,.int .i64 (s).length),(9,.bool false)]) else some (.ret,[(4,.bool false)]):=by
 refine gB (f:=aj (ev LI TT) (aq TT) A5) (s) (λi=>[(0,.str ⟨s.toArray⟩),(1,.int .u8 (lo.toNat:Int)),(5,.int .i64 i)]) (iR lo.toNat) _ _ (λi b hi hl=>?_) ?_;·have hw:=aU i (by first|omega|(simp at hl;omega));obtain⟨_,rfl⟩:=aL.1 hi;unfold iR;simp -implicitDefEqProofs [A5,KM,hl,hw];all_goals (repeat' split)<;>first|rfl|omega|(simp_all;done)|(simp_all;omega)|skip
 ·simp -implicitDefEqProofs [A5,KM]
def OP(s:ag)(lo:UInt8)(hb:s.length<=9223372036854775807):ev LI TT 188 [.str ⟨s.toArray⟩,.int .u8 (lo.toNat:Int)]=some (.bool ((aX (iR lo.toNat) s)),[.dead,.dead]):=by
 rw[ay (b:=E9) (rs:=[.t 4]) (n:=2) rfl rfl];have u1:=VH s lo hb;try simp at u1
 simp -implicitDefEqProofs [E9,u1];all_goals (repeat' split)<;>first|rfl|omega|(simp_all;done)|(simp_all;omega)|skip
end M
namespace M
open Go
def fK(b:UInt8):Bool:=decide ¬(b.toNat:Int)=32
def Wc(s:ag)(hb:s.length<=9223372036854775807):aI (aj (ev LI TT) (aq TT) B8) [(0,.str ⟨s.toArray⟩),(3,.int .i64 0),(4,.int .i64 s.length)]=some (.exit 0,(λ(i:Nat)=>[(0,.str ⟨s.toArray⟩),(3,.int .i64 i),(4,.int .i64 s.length),(15,.bool false)]) (ez fK (s))):=by
 refine R8 (f:=aj (ev LI TT) (aq TT) B8) (s) (λi=>[(0,.str ⟨s.toArray⟩),(3,.int .i64 i),(4,.int .i64 s.length)]) fK (λ(i:Nat)=>[(0,.str ⟨s.toArray⟩),(3,.int .i64 i),(4,.int .i64 s.length),(15,.bool false)]) (λi b hi hl=>?_) ?_;·have hw:=aU i (by first|omega|(simp at hl;omega));obtain⟨_,rfl⟩:=aL.1 hi;simp -implicitDefEqProofs [B8,Mb,hl,hw,fK];all_goals (repeat' split)<;>first|rfl|omega|(simp_all;done)|(simp_all;omega)|skip
 ·simp -implicitDefEqProofs [B8,Mb]
def Wd(s:ag)(k:Nat)(hk:k<=s.length)(hb:s.length<=9223372036854775807):aI (aj (ev LI TT) (aq TT) B9) [(0,.str ⟨s.toArray⟩),(3,.int .i64 k),(4,.int .i64 ((s.length - 0:Nat):Int))]=some (.exit 2,(λ(i:Nat)=>[(0,.str ⟨s.toArray⟩),(3,.int .i64 k),(4,.int .i64 ((s.length - i:Nat):Int)),(27,.bool false)]) (ez fK ((s.drop k).reverse))):=by
 refine R8 (f:=aj (ev LI TT) (aq TT) B9) ((s.drop k).reverse) (λi=>[(0,.str ⟨s.toArray⟩),(3,.int .i64 k),(4,.int .i64 ((s.length - i:Nat):Int))]) fK (λ(i:Nat)=>[(0,.str ⟨s.toArray⟩),(3,.int .i64 k),(4,.int .i64 ((s.length - i:Nat):Int)),(27,.bool false)]) (λi b hi hl=>?_) ?_
 ·have hw:=aU i (by first|omega|(simp at hl;omega));obtain⟨_,rfl⟩:=aL.1 hi;simp at hl;obtain⟨m,hm⟩:∃m,s.length - i=m+1:=⟨s.length - i - 1,by omega⟩;have e1:s.length - (i+1)=m:=by omega
  have e2:IntKind.i64.wrap (m:Int)=m:=bX (by omega) (by omega);have e3:m<s.length:=by omega
  have e4:((s.drop k).reverse)[i]=s[m]:=by simp;congr 1;omega
  have e5:(k:Int)<(m:Int)+1:=by omega
  rw[e4,hm,e1];simp -implicitDefEqProofs [B9,Mc,hl,hw,fK,e2,e3,e5];try (rw[cm e3];simp[e2])
  all_goals (repeat' split)<;>first|rfl|omega|(simp_all;done)|(simp_all;omega)|skip
 ·simp only[Iy,vP,show s.length - (s.length - k)=k by omega];simp -implicitDefEqProofs [B9,Mc]
end M
namespace M
open Go
def HW(c:bA):∃(x:Int) (c':bA),ev LI TT 186 [.ptr .own (aV c)]=some (.int .i64 x,[.ptr .own (aV c')])/\0<=x/\x<=255:=by
 obtain⟨code,i,h,hi,hl⟩:=c;by_cases hlt:i<code.length
 ·have hw:=aU i (by omega);have H:∃(x h':Int),ev LI TT 186 [.ptr .own [.row .sl 1 (code.map eU),.int .i64 i,.int .i64 h]]=some (.int .i64 x,[.ptr .own [.row .sl 1 (code.map eU),.int .i64 (i+1),.int .i64 h']])/\0<=x/\x<=255:=by rw[ay (b:=yu) (rs:=[.t 2]) (n:=1) rfl rfl];simp -implicitDefEqProofs [yu,hlt,hw,Om];omega
  obtain⟨x,h',e,b⟩:=H;exact⟨x,⟨code,i+1,h',hlt,hl⟩,e,b⟩
 ·have H:∃(x h':Int),ev LI TT 186 [.ptr .own [.row .sl 1 (code.map eU),.int .i64 i,.int .i64 h]]=some (.int .i64 x,[.ptr .own [.row .sl 1 (code.map eU),.int .i64 i,.int .i64 h']])/\0<=x/\x<=255:=by rw[ay (b:=yu) (rs:=[.t 2]) (n:=1) rfl rfl];simp -implicitDefEqProofs [yu,hlt,Om];omega
  obtain⟨x,h',e,b⟩:=H;exact⟨x,⟨code,i,h',hi,hl⟩,e,b⟩
noncomputable def gL(c:bA):Int:=(HW c).choose
noncomputable def dW(c:bA):bA:=(HW c).choose_spec.choose
def zx(c:bA):0<=gL c/\gL c<=255:=(HW c).choose_spec.choose_spec.2
@[simp] def akJ(c:bA):ev LI TT 186 [.ptr .own (aV c)]=some (.int .i64 (gL c),[.ptr .own (aV (dW c))]):=(HW c).choose_spec.choose_spec.1
def T8(a n:Int)(ha:0<=a)(hn:0<n):0<=a.tmod n/\a.tmod n<n:=by rw[Dc ha];exact⟨Int.emod_nonneg _ (by omega),Int.emod_lt_of_pos _ hn⟩
def HV(c:bA)(n:Int)(hn:0<n)(hn':n<=9223372036854775807):∃(x:Int) (c':bA),ev LI TT 110 [.ptr .own (aV c),.int .i64 n]=some (.int .i64 x,[.ptr .own (aV c'),.dead])/\0<=x/\x<n:=by
 rw[ay (b:=vn) (rs:=[.t 4]) (n:=2) rfl rfl];have h0:¬n<=0:=by omega
 have h1:¬n=0:=by omega
 by_cases h:n<=256;·refine⟨(gL c).tmod n,dW c,?_,T8 _ _ (zx c).1 hn⟩;simp -implicitDefEqProofs [vn,h,h0,h1]
 ·have b1:=zx c;have b2:=zx (dW c);have b3:=zx (dW (dW c));have b4:=zx (dW (dW (dW c)));have w1:=bX (n:=gL c*16777216) (by omega) (by omega);have w2:=bX (n:=gL (dW c)*65536) (by omega) (by omega);have w3:=bX (n:=gL (dW (dW c))*256) (by omega) (by omega);have w4:=bX (n:=gL c*16777216+gL (dW c)*65536) (by omega) (by omega);have w5:=bX (n:=gL c*16777216+gL (dW c)*65536+gL (dW (dW c))*256) (by omega) (by omega);have w6:=bX (n:=gL c*16777216+gL (dW c)*65536+gL (dW (dW c))*256+gL (dW (dW (dW c)))) (by omega) (by omega);refine⟨(gL c*16777216+gL (dW c)*65536+gL (dW (dW c))*256+gL (dW (dW (dW c)))).tmod n,dW (dW (dW (dW c))),?_,T8 _ _ (by omega) hn⟩;simp -implicitDefEqProofs [vn,h,h0,h1,w1,w2,w3,w4,w5,w6]
def ajK(c:bA)(n:Int)(hn:n<=0):ev LI TT 110 [.ptr .own (aV c),.int .i64 n]=some (.int .i64 0,[.ptr .own (aV c),.dead]):=by rw[ay (b:=vn) (rs:=[.t 4]) (n:=2) rfl rfl];simp -implicitDefEqProofs [vn,hn]
noncomputable def kf(c:bA)(n:Int):Int:=if h:0<n/\n<=9223372036854775807 then (HV c n h.1 h.2).choose else 0
noncomputable def iY(c:bA)(n:Int):bA:=if h:0<n/\n<=9223372036854775807 then (HV c n h.1 h.2).choose_spec.choose else c
def tH(c:bA)(n:Int)(h1:0<n)(h2:n<=9223372036854775807):0<=kf c n/\kf c n<n:=by unfold kf;rw[kO ⟨h1,h2⟩];exact(HV c n h1 h2).choose_spec.choose_spec.2
def zF(c:bA)(n:Int)(h2:n<=9223372036854775807):ev LI TT 110 [.ptr .own (aV c),.int .i64 n]=some (.int .i64 (kf c n),[.ptr .own (aV (iY c n)),.dead]):=by
 unfold kf iY;by_cases h1:0<n;·rw[kO ⟨h1,h2⟩,kO ⟨h1,h2⟩];exact(HV c n h1 h2).choose_spec.choose_spec.1
 ·rw[qJ (λh=>h1 h.1),qJ (λh=>h1 h.1)];exact ajK c n (by omega)
def Yf(c:bA)(n:Int)(h2:n<=9223372036854775807):ev LI TT 73 [.ptr .own (aV c),.int .i64 n]=some (.bool (decide (kf c n=0)),[.ptr .own (aV (iY c n)),.dead]):=by rw[ay (b:=G5) (rs:=[.t 4]) (n:=2) rfl rfl];simp -implicitDefEqProofs [G5,zF c n h2];all_goals (repeat' split)<;>first|rfl|omega|(simp_all;done)|(simp_all;omega)|skip
def Pa(c:bA)(l:List ag)(h1:0<l.length)(h2:l.length<=9223372036854775807):ev LI TT 151 [.ptr .own (aV c),.row .af 1 (l.map eS)]=some (.str ⟨(l.getD (kf c l.length).toNat []).toArray⟩,[.ptr .own (aV (iY c l.length)),.dead]):=by
 rw[ay (b:=G7) (rs:=[.t 4]) (n:=2) rfl rfl];have b:=tH c l.length (by omega) (by omega);have b2:(kf c l.length).toNat<l.length:=by omega
 simp -implicitDefEqProofs [G7,zF c l.length (by omega),b,b2];all_goals (repeat' split)<;>first|rfl|omega|(simp_all;done)|(simp_all;omega)|skip
def Yg(c:bA)(l:List Int)(h1:0<l.length)(h2:l.length<=9223372036854775807):ev LI TT 124 [.ptr .own (aV c),.row .af 1 (l.map eI)]=some (.int .i64 (l.getD (kf c l.length).toNat 0),[.ptr .own (aV (iY c l.length)),.dead]):=by
 rw[ay (b:=G6) (rs:=[.t 4]) (n:=2) rfl rfl];have b:=tH c l.length (by omega) (by omega);have b2:(kf c l.length).toNat<l.length:=by omega
 simp -implicitDefEqProofs [G6,zF c l.length (by omega),b,b2];all_goals (repeat' split)<;>first|rfl|omega|(simp_all;done)|(simp_all;omega)|skip
def Wm(code:List UInt8)(hl:code.length<=1048576)(h:Int):∃h':Int,aI (aj (ev LI TT) (aq TT) yw) [(0,.row .sl 1 (code.map eU)),(3,.int .i64 h),(4,.int .i64 0),(100000,.row .sl 1 (code.map eU))]=some (.exit 0,[(0,.row .sl 1 (code.map eU)),(3,.int .i64 h'),(4,.int .i64 (min code.length 4000:Nat)),(15,.bool false),(100000,.row .sl 1 (code.map eU))]):=by
 refine Exists.elim (adU (f:=aj (ev LI TT) (aq TT) yw) (min code.length 4000) (λi (h:Int)=>[(0,.row .sl 1 (code.map eU)),(3,.int .i64 h),(4,.int .i64 i),(100000,.row .sl 1 (code.map eU))]) (λ_ _=>True) (λh'=>[(0,.row .sl 1 (code.map eU)),(3,.int .i64 h'),(4,.int .i64 (min code.length 4000:Nat)),(15,.bool false),(100000,.row .sl 1 (code.map eU))]) h trivial (λi g hi _=>?_) (λg _=>?_)) λg h=>⟨g,h.2⟩
 ·have h1:i<code.length:=by omega
  have h2:(i:Int)<4000:=by omega
  have hw:=aU i (by omega);simp -implicitDefEqProofs [yw,G0,h1,h2,hw]
 ·by_cases h1:code.length<=4000
  ·have:min code.length 4000=code.length:=by omega
   rw[this];simp -implicitDefEqProofs [yw,G0]
  ·have:min code.length 4000=4000:=by omega
   rw[this];have h2:4000<code.length:=by omega
   have h3:(4000:Int)<code.length:=by omega
   simp -implicitDefEqProofs [yw,G0,h2,h3]
def ajM(code:List UInt8)(hl:code.length<=1048576):∃c:bA,ev LI TT 54 [.row .sl 1 (code.map eU)]=some (.ptr .own (aV c),[.dead]):=by have hw:=bX (n:=18850+code.length) (by omega) (by omega);obtain⟨h',e⟩:=Wm code hl (18850+code.length);refine⟨⟨code,0,h',oQ _,by omega⟩,?_⟩;rw[ay (b:=G4) (rs:=[.t 2]) (n:=1) rfl rfl];simp -implicitDefEqProofs [G4,hw,e,aV,Bv]
end M
namespace M
open Go
def Ss(b:UInt8):fK b=true↔b≠32:=by
 unfold fK
 have:((b.toNat:Int)=32)↔b=32:=by
  constructor;·intro h;exact td.1 (by have e:(32:UInt8).toNat=32:=rfl;omega)
  ·rintro rfl;rfl
 simp[this]
def Ua(s:ag):Lib.trimLeftB s 32=s.drop (ez fK s):=by
 refine Lib.trimLeftB_drop s 32 _ (HN _ _) (λj b hj hb=>?_) λb hb=>(Ss b).1 (Uh _ _ _ hb);have:=Ui _ _ _ _ hj hb;by_cases h:b=32;·exact h
 ·rw[(Ss b).2 h] at this;cases this
def ajt(s:ag):Lib.trimRightB s 32=s.take (s.length - ez fK s.reverse):=by have h:=Ua s.reverse;unfold Lib.trimLeftB at h;unfold Lib.trimRightB;rw[h,List.drop_reverse,U4]
def aju(s:ag):(s.drop (ez fK s)).take (s.length - ez fK (s.drop (ez fK s)).reverse - ez fK s)=gi s:=by rw[ajv,Ua,ajt,vP];congr 1;omega
def Jg(s:ag)(hb:s.length<=9223372036854775807):ev LI TT 170 [.str ⟨s.toArray⟩]=some (.str ⟨(gi s).toArray⟩,[.dead]):=by
 rw[ay (b:=Gr) (rs:=[.t 2]) (n:=1) rfl rfl];have h1:=HN fK s;have h2:=HN fK (s.drop (ez fK s)).reverse;simp only[Iy,vP] at h2;have h3:=aju s;have u1:=Wc s hb;try simp at u1
 have u2:=Wd s (ez fK s) (HN _ _) hb;try simp at u2
 simp -implicitDefEqProofs [Gr,u1,u2,(by omega:(ez fK s:Int)<=((s.length - ez fK (s.drop (ez fK s)).reverse:Nat):Int)),(by omega:((s.length - ez fK (s.drop (ez fK s)).reverse:Nat):Int)<=s.length),Lib.extract_mk,h3];all_goals (repeat' split)<;>first|rfl|omega|(simp_all;done)|(simp_all;omega)|skip
def ON(s:ag)(hb:s.length<=9223372036854775807):ev LI TT 189 [.str ⟨s.toArray⟩]=some (.str ⟨(gi s).toArray⟩,[.dead]):=by
 rw[ay (b:=E7) (rs:=[.t 2]) (n:=1) rfl rfl];have u1:=Yw s hb;try simp at u1
 simp -implicitDefEqProofs [E7,u1];all_goals (repeat' split)<;>first|rfl|omega|(simp_all;done)|(simp_all;omega)|skip
def We(s:ag)(hb:s.length<=9223372036854775807):aI (aj (ev LI TT) (aq TT) Cb) [(0,.str ⟨s.toArray⟩),(3,.int .i64 0)]=if aX (iR 32) (s)=true then some (.exit 0,[(0,.str ⟨s.toArray⟩),(3,.int .i64 (s).length),(7,.bool false)]) else some (.ret,[(2,.bool false)]):=by
 refine gB (f:=aj (ev LI TT) (aq TT) Cb) (s) (λi=>[(0,.str ⟨s.toArray⟩),(3,.int .i64 i)]) (iR 32) _ _ (λi b hi hl=>?_) ?_;·have hw:=aU i (by first|omega|(simp at hl;omega));obtain⟨_,rfl⟩:=aL.1 hi;unfold iR;simp -implicitDefEqProofs [Cb,Me,hl,hw];all_goals (repeat' split)<;>first|rfl|omega|(simp_all;done)|(simp_all;omega)|skip
 ·simp -implicitDefEqProofs [Cb,Me]
def Jh(s:ag)(hb:s.length<=9223372036854775807):ev LI TT 88 [.str ⟨s.toArray⟩]=some (.bool ((fP s)),[.dead]):=by
 rw[ay (b:=uZ) (rs:=[.t 2]) (n:=1) rfl rfl];unfold fP;have u1:=We s hb;try simp at u1
 have u2:=Jg s hb;try simp at u2
 by_cases g1:aX (iR 32) s=true;rotate_left;·simp -implicitDefEqProofs [uZ,u1,u2,g1]
 by_cases g2:1<=(s.length:Int);rotate_left;·simp -implicitDefEqProofs [uZ,u1,u2,g1,eq_false g2]
 by_cases g3:(s.length:Int)<=60;rotate_left;·simp -implicitDefEqProofs [uZ,u1,u2,g1,eq_true g2,eq_false g3]
 simp -implicitDefEqProofs [uZ,u1,u2,g1,eq_true g2,eq_true g3];all_goals (repeat' split)<;>first|rfl|omega|(simp_all;done)|(simp_all;omega)|skip
def I8(s:ag)(hb:s.length<=9223372036854775807):ev LI TT 114 [.str ⟨s.toArray⟩]=some (.bool ((fP s)),[.dead]):=by
 rw[ay (b:=ux) (rs:=[.t 2]) (n:=1) rfl rfl];unfold fP;have e32:(32:UInt8).toNat=32:=rfl;have u1:=OP s 32 hb;try simp at u1
 have u2:=ON s hb;try simp at u2
 by_cases g1:1<=(s.length:Int);rotate_left;·simp -implicitDefEqProofs [ux,u1,u2,eq_false g1]
 by_cases g2:(s.length:Int)<=60;rotate_left;·simp -implicitDefEqProofs [ux,u1,u2,eq_true g1,eq_false g2]
 by_cases g3:aX (iR 32) s=true;rotate_left;·simp -implicitDefEqProofs [ux,u1,u2,eq_true g1,eq_true g2,g3]
 simp -implicitDefEqProofs [ux,u1,u2,eq_true g1,eq_true g2,g3];all_goals (repeat' split)<;>first|rfl|omega|(simp_all;done)|(simp_all;omega)|skip
def Ws(s:ag)(hb:s.length<=9223372036854775807):aI (aj (ev LI TT) (aq TT) CA) [(0,.str ⟨s.toArray⟩),(3,.int .i64 0)]=if aX (iR 33) (s)=true then some (.exit 0,[(0,.str ⟨s.toArray⟩),(3,.int .i64 (s).length),(7,.bool false)]) else some (.ret,[(2,.bool false)]):=by
 refine gB (f:=aj (ev LI TT) (aq TT) CA) (s) (λi=>[(0,.str ⟨s.toArray⟩),(3,.int .i64 i)]) (iR 33) _ _ (λi b hi hl=>?_) ?_;·have hw:=aU i (by first|omega|(simp at hl;omega));obtain⟨_,rfl⟩:=aL.1 hi;unfold iR;simp -implicitDefEqProofs [CA,MG,hl,hw];all_goals (repeat' split)<;>first|rfl|omega|(simp_all;done)|(simp_all;omega)|skip
 ·simp -implicitDefEqProofs [CA,MG]
def Jj(s:ag)(hb:s.length<=9223372036854775807):ev LI TT 83 [.str ⟨s.toArray⟩]=some (.bool ((iw s)),[.dead]):=by
 rw[ay (b:=vr) (rs:=[.t 2]) (n:=1) rfl rfl];unfold iw;have u1:=Ws s hb;try simp at u1
 by_cases g1:aX (iR 33) s=true;rotate_left;·simp -implicitDefEqProofs [vr,u1,g1]
 by_cases g2:1<=(s.length:Int);rotate_left;·simp -implicitDefEqProofs [vr,u1,g1,eq_false g2]
 by_cases g3:(s.length:Int)<=60;rotate_left;·simp -implicitDefEqProofs [vr,u1,g1,eq_true g2,eq_false g3]
 obtain⟨b,hb0⟩:∃b,s[0]?=some b:=⟨s[0]'(by omega),by simp⟩;simp -implicitDefEqProofs [vr,u1,g1,eq_true g2,eq_true g3,hb0];all_goals (repeat' split)<;>first|rfl|omega|(simp_all;done)|(simp_all;omega)|skip
def OS(s:ag)(hb:s.length<=9223372036854775807):ev LI TT 115 [.str ⟨s.toArray⟩]=some (.bool ((iw s)),[.dead]):=by
 rw[ay (b:=wZ) (rs:=[.t 2]) (n:=1) rfl rfl];unfold iw;have e33:(33:UInt8).toNat=33:=rfl;have u1:=OP s 33 hb;try simp at u1
 by_cases g1:1<=(s.length:Int);rotate_left;·simp -implicitDefEqProofs [wZ,u1,eq_false g1]
 by_cases g2:(s.length:Int)<=60;rotate_left;·simp -implicitDefEqProofs [wZ,u1,eq_true g1,eq_false g2]
 obtain⟨b,hb0⟩:∃b,s[0]?=some b:=⟨s[0]'(by omega),by simp⟩;by_cases h47:(b.toNat:Int)=47;all_goals
 simp -implicitDefEqProofs [wZ,u1,eq_true g1,eq_true g2,hb0,h47];all_goals (repeat' split)<;>first|rfl|omega|(simp_all;done)|(simp_all;omega)|skip
@[simp] def akI(t:Int):ev LI TT 116 [.int .i64 t]=some (.bool ((decide (0<=t/\t<=1000000))),[.dead]):=by rw[ay (b:=Fi) (rs:=[.t 2]) (n:=1) rfl rfl];simp -implicitDefEqProofs [Fi];all_goals (repeat' split)<;>first|rfl|omega|(simp_all;done)|(simp_all;omega)|skip
def Dx(n:Int):ev LI TT 61 [.int .i64 n]=some (.str ⟨(cV n).toArray⟩,[.dead]):=by
 rw[ay (b:=AN) (rs:=[.t 2]) (n:=1) rfl rfl];unfold cV;by_cases hn:0<=n/\n<=1000000;rotate_left
 ·have hf:(decide (0<=n) && decide (n<=1000000))=false:=by simp;omega
  simp -implicitDefEqProofs [AN,hn,hf]
 obtain⟨k,rfl⟩:∃k:Nat,n=k:=⟨n.toNat,by omega⟩;have u1:=tK k (by omega);try simp at u1
 simp -implicitDefEqProofs [AN,u1,hn];all_goals (repeat' split)<;>first|rfl|omega|(simp_all;done)|(simp_all;omega)|skip
end M
namespace M
open Go
def VZ(s:ag)(hb:s.length<=1073741824):aI (aj (ev LI TT) (aq TT) uN) [(0,.str ⟨s.toArray⟩),(3,.row .own 1 (([]).map eU)),(4,.int .i64 0)]=some (.exit 0,[(0,.str ⟨s.toArray⟩),(3,.row .own 1 ((((s).flatMap (λb=>[mX b]))).map eU)),(4,.int .i64 (s).length),(10,.bool false)]):=by
 refine pW (f:=aj (ev LI TT) (aq TT) uN) (s) (λb=>[mX b]) (λi out=>[(0,.str ⟨s.toArray⟩),(3,.row .own 1 ((out).map eU)),(4,.int .i64 i)]) (λout=>[(0,.str ⟨s.toArray⟩),(3,.row .own 1 ((out).map eU)),(4,.int .i64 (s).length),(10,.bool false)]) (λi b out hi hl hout=>?_) (λout hout=>?_)
 ·have hw:=aU i (by first|omega|(simp at hl;omega));obtain⟨_,rfl⟩:=aL.1 hi;have hlo:out.length=i:=by rw[hout];exact zX _ _ _ (by omega)
  have hx:=s[i].toNat_lt;unfold mX;by_cases h1:65<=(s[i]).toNat;rotate_left
  ·have h1':¬(65:Int)<=(s[i]).toNat:=by omega
   simp -implicitDefEqProofs [uN,BS,hl,hw,h1,h1',hlo,bY];omega
  by_cases h2:(s[i]).toNat<=90;rotate_left
  ·have h1':(65:Int)<=(s[i]).toNat:=by omega
   have gO:¬((s[i]).toNat:Int)<=90:=by omega
   have JZ:90<((s[i]).toNat:Int):=by omega
   simp -implicitDefEqProofs [uN,BS,hl,hw,h1,h1',h2,gO,JZ,hlo,bY];omega
  have h1':(65:Int)<=(s[i]).toNat:=by omega
  have gO:((s[i]).toNat:Int)<=90:=by omega
  have h3:=R9 s[i] ⟨h1,h2⟩;have h4:IntKind.u8.wrap ((s[i]).toNat+32)=(s[i]).toNat+32:=Uz (by omega) (by omega);simp -implicitDefEqProofs [uN,BS,hl,hw,h1,h1',h2,gO,hlo,bY,h3,h4];omega
 ·simp -implicitDefEqProofs [uN,BS]
def OY(s:ag)(hb:s.length<=1073741824):ev LI TT 169 [.str ⟨s.toArray⟩]=some (.str ⟨(cD s).toArray⟩,[.dead]):=by
 rw[ay (b:=Gg) (rs:=[.t 2]) (n:=1) rfl rfl];have hl:(cD s).length=s.length:=by simp[cD]
 have e:s.flatMap (λb=>[mX b])=cD s:=zW mX s;have u1:=VZ s hb;try simp at u1
 simp -implicitDefEqProofs [Gg,u1,e,hl,rowAt,(by omega:s.length<=9223372036854775807)];all_goals (repeat' split)<;>first|rfl|omega|(simp_all;done)|(simp_all;omega)|skip
def agi(s:ag)(i:Nat)(h:i<s.length)(x:UInt8)(hx:x=mX s[i]):(cD (s.take i)++s.drop i).set i x=cD (s.take (i+1))++s.drop (i+1):=by
 subst hx;rw[C5 _ _ (by simp[cD];omega),qK h];have:i - (cD (s.take i)).length=0:=by simp[cD];omega
 rw[this,oO h];simp only[C6,cD,iS,bn,lF,lH,fR,j7]
def TA(s:ag)(i:Nat)(h:i<s.length)(hx:mX s[i]=s[i]):cD (s.take i)++s.drop i=cD (s.take (i+1))++s.drop (i+1):=by rw[oO h,qK h];simp only[cD,hx,iS,bn,lF,lH,fR,j7]
def YV(l:ag)(i:Nat)(x:Int)(b:UInt8)(hx:x=(b.toNat:Int)):(l.map eU).modify i (λe=>e.set 0 (X.int .u8 x))=(l.set i b).map eU:=by
 subst hx;apply hO;intro j;rw[vM,cR,cR,vN];by_cases h:i=j
 ·subst h;by_cases h2:i<l.length;·simp[h2]
  ·simp[h2,kQ (Nat.le_of_not_lt h2)]
 ·simp only[h,dQ];cases l[j]?<;>rfl
def Vy(s:ag)(hb:s.length<=1073741824):aI (aj (ev LI TT) (aq TT) ur) [(3,.row .own 1 ((cD (s.take 0)++s.drop 0).map eU)),(6,.str ⟨s.toArray⟩),(8,.ref 3 []),(9,.int .i64 s.length),(10,.int .i64 0)]=some (.exit 0,[(3,.row .own 1 ((cD s).map eU)),(6,.str ⟨s.toArray⟩),(8,.ref 3 []),(9,.int .i64 s.length),(10,.int .i64 (s).length),(11,.bool false)]):=by
 refine R7 (f:=aj (ev LI TT) (aq TT) ur) (s) (λi=>[(3,.row .own 1 ((cD (s.take i)++s.drop i).map eU)),(6,.str ⟨s.toArray⟩),(8,.ref 3 []),(9,.int .i64 s.length),(10,.int .i64 i)]) _ (λi b hi hl=>?_) ?_
 ·have hw:=aU i (by first|omega|(simp at hl;omega));obtain⟨_,rfl⟩:=aL.1 hi;have hk:(cD (s.take i)++s.drop i).length=s.length:=by simp[cD];omega
  have hx:=s[i].toNat_lt;have hg:(cD (s.take i)++s.drop i)[i]?=some s[i]:=by rw[iB (by simp[cD];omega)];simp[cD,nC (Nat.le_of_lt hl)]
  have hg':∀h,(cD (s.take i)++s.drop i)[i]'h=s[i]:=λh=>by rw[cm h] at hg;exact iA hg
  generalize hq:cD (s.take i)++s.drop i=q at hk hg hg'⊢;have ue:i<q.length:=by omega
  by_cases h1:65<=(s[i]).toNat;rotate_left
  ·have h1':¬(65:Int)<=(s[i]).toNat:=by omega
   have e:=TA s i hl (by unfold mX;rw[aC (by omega)]);rw[hq] at e;simp -implicitDefEqProofs [ur,AL,hl,hw,hg,hg',ue,h1',<-e]
  by_cases h2:(s[i]).toNat<=90;rotate_left
  ·have h1':(65:Int)<=(s[i]).toNat:=by omega
   have JZ:90<((s[i]).toNat:Int):=by omega
   have gO:¬((s[i]).toNat:Int)<=90:=by omega
   have e:=TA s i hl (by unfold mX;rw[aC (by omega)]);rw[hq] at e;simp -implicitDefEqProofs [ur,AL,hl,hw,hg,hg',ue,h1',gO,JZ,<-e]
  have h1':(65:Int)<=(s[i]).toNat:=by omega
  have gO:((s[i]).toNat:Int)<=90:=by omega
  have h3:=R9 s[i] ⟨h1,h2⟩;have h4:IntKind.u8.wrap ((s[i]).toNat+32)=(s[i]).toNat+32:=Uz (by omega) (by omega);have e:=agi s i hl (s[i]+32) (by unfold mX;rw[au ⟨h1,h2⟩]);rw[hq] at e;have e2:=YV q i _ (s[i]+32) (show ((s[i]).toNat:Int)+32=_ by rw[h3];rfl);rw[e] at e2;simp -implicitDefEqProofs [ur,AL,hl,hw,hg,hg',ue,h1',gO,h4,e2];all_goals (repeat' split)<;>first|rfl|omega|(simp_all;done)|(simp_all;omega)|skip
 ·simp only[vF,List.drop_length,mD];simp -implicitDefEqProofs [ur,AL]
def XC(s:ag)(hb:s.length<=1073741824):ev LI TT 191 [.str ⟨s.toArray⟩]=some (.str ⟨(cD s).toArray⟩,[.dead]):=by
 rw[ay (b:=EX) (rs:=[.t 2]) (n:=1) rfl rfl];have hl:(cD s).length=s.length:=by simp[cD]
 have e0:cD (s.take 0)++s.drop 0=s:=by simp[cD]
 have u1:=Vy s hb;try simp at u1
 simp -implicitDefEqProofs [EX,u1,hl,rowAt,(by omega:s.length<=9223372036854775807)];all_goals (repeat' split)<;>first|rfl|omega|(simp_all;done)|(simp_all;omega)|skip
@[simp] def akM(x:Int)(y:Int):ev LI TT 227 [.int .i64 x,.int .i64 y]=some (.int .i64 ((if x<y then x else y)),[.dead,.dead]):=by rw[ay (b:=GZ) (rs:=[.t 4]) (n:=2) rfl rfl];simp -implicitDefEqProofs [GZ];all_goals (repeat' split)<;>first|rfl|omega|(simp_all;done)|(simp_all;omega)|skip
@[simp] def akL(x:Int)(y:Int):ev LI TT 135 [.int .i64 x,.int .i64 y]=some (.int .i64 ((if y<x then x else y)),[.dead,.dead]):=by rw[ay (b:=GY) (rs:=[.t 4]) (n:=2) rfl rfl];simp -implicitDefEqProofs [GY];all_goals (repeat' split)<;>first|rfl|omega|(simp_all;done)|(simp_all;omega)|skip
end M
namespace M
open Go
def V2(n:Nat)(out:ag)(hn:out.length+n<=9223372036854775807):aI (aj (ev LI TT) (aq TT) L4) [(0,.int .i64 n),(3,.str ⟨out.toArray⟩)]=some (.exit 0,[(0,.int .i64 0),(3,.str ⟨(pX n out).toArray⟩),(10,.bool false)]):=by
 have hs:∀s,aj (ev LI TT) (aq TT) L4 s=aj (ev LI TT) (aq TT) Gi s:=λ_=>rfl;induction n using Nat.strongRecOn generalizing out with
 |ind n ih=>
  rw[cT,hs];unfold pX;by_cases h:n=0;·subst h;simp -implicitDefEqProofs [Gi]
  ·have hp:0<n:=by omega
   have:=ih (n / 10) (by omega) (UInt8.ofNat (48+n%10)::out) (by rw[cu];omega);have e1:((n:Int)).tmod 10=((n%10:Nat):Int):=by rw[Dc (by omega)];omega
   have e4:((n:Int)).tdiv 10=((n / 10:Nat):Int):=by rw[Vb (by omega)];omega
   have e2:IntKind.i64.wrap (48+((n%10:Nat):Int))=((48+n%10:Nat):Int):=by rw[bX (by omega) (by omega)];omega
   have e3:IntKind.u8.wrap ((48+n%10:Nat):Int)=((48+n%10:Nat):Int):=M8 (by omega) (by omega);have e5:=Ug (48+n%10) (by omega);have e6:IntKind.i64.wrap ((n / 10:Nat):Int)=((n / 10:Nat):Int):=bX (by omega) (by omega);simp only[h,dite_false];rw[<-this];simp -implicitDefEqProofs [Gi,hp,cL,e1,e2,e3,e4,e5,e6,-Int.natCast_emod,-Int.natCast_ediv,-Int.natCast_add,-UInt8.ofNat_add,fq,(by omega:1+out.length<=9223372036854775807)]
def qV(n:Int):ev LI TT 66 [.int .i64 n]=some (.str ⟨(cV n).toArray⟩,[.dead]):=by
 rw[ay (b:=xR) (rs:=[.t 2]) (n:=1) rfl rfl];unfold cV;by_cases hn:0<=n/\n<=1000000;rotate_left
 ·have hf:(decide (0<=n) && decide (n<=1000000))=false:=by simp;omega
  simp -implicitDefEqProofs [xR,hn,hf]
 obtain⟨k,rfl⟩:∃k:Nat,n=k:=⟨n.toNat,by omega⟩;by_cases h:k=0;·subst h;simp -implicitDefEqProofs [xR,DU]
 have h1:=V2 k [] (by simp;omega);rw[Sc k [] h,mD] at h1;simp -implicitDefEqProofs [xR,hn,h,h1];all_goals (repeat' split)<;>first|rfl|omega|(simp_all;done)|(simp_all;omega)|skip
def n9(n:Int):(cV n).length<=7:=by
 unfold cV;split;·exact nJ _ (by omega)
 ·simp
def V0(s:ag)(hb:s.length<=7)(hd:aX ic s=true)(g:Nat)(hinv:g<10^0):aI (aj (ev LI TT) (aq TT) nu) [(0,.str ⟨s.toArray⟩),(4,.int .i64 (g:Nat)),(5,.int .i64 0)]=some (.exit 0,[(0,.str ⟨s.toArray⟩),(4,.int .i64 ((foldI (λ_ g b=>10*g+b.toNat - 48) 0 (s) g):Nat)),(5,.int .i64 (s).length),(16,.bool false)]):=by
 refine gT (f:=aj (ev LI TT) (aq TT) nu) (s) (λi (g:Nat)=>[(0,.str ⟨s.toArray⟩),(4,.int .i64 (g:Nat)),(5,.int .i64 i)]) (λ_ g b=>10*g+b.toNat - 48) (λg=>[(0,.str ⟨s.toArray⟩),(4,.int .i64 (g:Nat)),(5,.int .i64 (s).length),(16,.bool false)]) (λi (g:Nat)=>g<10^i) g hinv (λi b g hi hl hinv=>?_) (λi b g hi hinv=>?_) (λg hinv=>?_)
 ·have hw:=aU i (by first|omega|(simp at hl;omega));obtain⟨_,rfl⟩:=aL.1 hi;have hx:=ff.1 hd s[i] (cy hl);simp only[ic,aY] at hx;have hp:10^i<=10^6:=Va (by omega) (by omega);have h1:¬((s[i]).toNat:Int)<48:=by omega
  have h2:¬57<((s[i]).toNat:Int):=by omega
  have e1:IntKind.i64.wrap (10*(g:Int))=10*g:=bX (by omega) (by omega);have e0:IntKind.i64.wrap ((s[i]).toNat:Int)=(s[i]).toNat:=bX (by omega) (by omega);have e2:IntKind.i64.wrap (10*(g:Int)+(s[i]).toNat)=10*g+(s[i]).toNat:=bX (by omega) (by omega);have e3:IntKind.i64.wrap (10*(g:Int)+(s[i]).toNat - 48)=((10*g+(s[i]).toNat - 48:Nat):Int):=by rw[bX (by omega) (by omega)];omega
  simp -implicitDefEqProofs [nu,uW,hl,hw,h1,h2,e0,e1,e2,e3]
 ·obtain⟨hl,rfl⟩:=aL.1 hi;have hx:=ff.1 hd s[i] (cy hl);simp only[ic,aY] at hx;rw[Ih];omega
 ·simp -implicitDefEqProofs [nu,uW]
def V1(s:ag)(hb:s.length<=7)(hd:¬aX ic s=true):aI (aj (ev LI TT) (aq TT) nu) [(0,.str ⟨s.toArray⟩),(4,.int .i64 0),(5,.int .i64 0)]=some (.ret,[(2,.int .i64 0),(3,.bool false)]):=by
 have key:=K8 (xt:=0) (f:=aj (ev LI TT) (aq TT) nu) s (λi (g:Nat)=>[(0,.str ⟨s.toArray⟩),(4,.int .i64 (g:Int)),(5,.int .i64 i)]) (λb g=>if ic b=true then .inl (10*g+b.toNat - 48) else .inr (.ret,[(2,.int .i64 0),(3,.bool false)])) (λg=>[(0,.str ⟨s.toArray⟩),(4,.int .i64 (g:Int)),(5,.int .i64 s.length),(16,.bool false)]) (λi g=>g<10^i) 0 (by decide) (λi b g hi hl hinv=>?_) (λi b g g' hi hinv hg=>?_) (λg hg=>?_)
 ·have hr:∀(r:ag) (g:Nat),¬aX ic r=true->oq (λ(b:UInt8) (g:Nat)=>if ic b=true then (.inl (10*g+b.toNat - 48):Nat ⊕ (Ex×ah)) else .inr (.ret,[(2,.int .i64 0),(3,.bool false)])) r g=.inr (.ret,[(2,.int .i64 0),(3,.bool false)]):=by
   intro r;induction r with
   |nil=>intro g h;exact absurd rfl h
   |cons b r ih=>
    intro g h;simp only[oq];by_cases hb:ic b=true;·simp only[hb,cY];exact ih _ λh'=>h (by rw[ff] at h'⊢;intro x hx;rcases b9.1 hx with rfl|hx;exact hb;exact h' x hx)
    ·simp[hb]
  rw[hr s 0 hd] at key;simpa [lv] using key
 ·have hw:=aU i (by omega);obtain⟨_,rfl⟩:=aL.1 hi;by_cases h:ic s[i]=true
  ·have hx:=h;simp only[ic,aY] at hx;have hp:10^i<=10^6:=Va (by omega) (by omega);have h1:¬((s[i]).toNat:Int)<48:=by omega
   have h2:¬57<((s[i]).toNat:Int):=by omega
   have e1:IntKind.i64.wrap (10*(g:Int))=10*g:=bX (by omega) (by omega);have e0:IntKind.i64.wrap ((s[i]).toNat:Int)=(s[i]).toNat:=bX (by omega) (by omega);have e2:IntKind.i64.wrap (10*(g:Int)+(s[i]).toNat)=10*g+(s[i]).toNat:=bX (by omega) (by omega);have e3:IntKind.i64.wrap (10*(g:Int)+(s[i]).toNat - 48)=((10*g+(s[i]).toNat - 48:Nat):Int):=by rw[bX (by omega) (by omega)];omega
   simp -implicitDefEqProofs [nu,uW,hl,hw,h,h1,h2,e0,e1,e2,e3]
  ·have hx:=h;simp only[ic,aY] at hx;by_cases h1:((s[i]).toNat:Int)<48;·simp -implicitDefEqProofs [nu,uW,hl,hw,h,h1,lv]
   ·have h2:57<((s[i]).toNat:Int):=by omega
    simp -implicitDefEqProofs [nu,uW,hl,hw,h,h1,h2,lv]
 ·obtain⟨hl,rfl⟩:=aL.1 hi;split at hg
  ·rename_i hx;simp only[ic,aY] at hx;injection hg with hg
   rw[Ih];omega
  ·cases hg
 ·simp -implicitDefEqProofs [nu,uW]
def JO{β γ:Type}(go:γ->β->γ):∀(l:List β) (i:Nat) (g:γ),foldI (λ_ g b=>go g b) i l g=l.foldl go g
 |[],_,_=>rfl
 |b::l,i,g=>by rw[foldI,JO go l,nE]
def vZ(s:ag)(hb:s.length<=9223372036854775807):ev LI TT 162 [.str ⟨s.toArray⟩]=some (.ak [.int .i64 ((((bx s).getD 0:Nat):Int)),.bool ((bx s).isSome)],[.dead]):=by
 rw[ay (b:=sK) (rs:=[.t 2,.t 3]) (n:=1) rfl rfl];by_cases h7:7<s.length
 ·have Aa:7<(s.length:Int):=by omega
  have hn:¬s=[]:=by rintro rfl;simp at h7
  simp -implicitDefEqProofs [sK,Su s h7,Aa,hn]
 have Aa:¬7<(s.length:Int):=by omega
 rw[aeA s (by omega)];by_cases h0:s=[];·subst h0;simp -implicitDefEqProofs [sK]
 by_cases hd:aX ic s=true;rotate_left;·have u1:=V1 s (by omega) hd;simp -implicitDefEqProofs [sK,Aa,h0,hd,u1]
 have u1:=V0 s (by omega) hd 0 (by decide);rw[show foldI (λ_ (g:Nat) (b:UInt8)=>10*g+b.toNat - 48) 0 s 0=lB s from JO _ s 0 0] at u1;simp only[Int.ofNat_zero] at u1;have u2:=qV (lB s);by_cases ht:cV (lB s)=s;rotate_left;·simp -implicitDefEqProofs [sK,Aa,h0,hd,u1,u2,eq_false ht]
 simp -implicitDefEqProofs [sK,Aa,h0,hd,u1,u2,eq_true ht];all_goals (repeat' split)<;>first|rfl|omega|(simp_all;done)|(simp_all;omega)|skip
end M
namespace M
open Go
def jD(w:ag):List ag:=if gi w≠[] then [gi w] else []
def SM(s:ag)(i:Nat)(h:i<(s.map some++[none]).length):(∃hi:i<s.length,(s.map some++[none])[i]=some s[i])\/(i=s.length/\(s.map some++[none])[i]=none):=by
 by_cases hi:i<s.length;·refine .inl ⟨hi,?_⟩;rw[List.getElem_append_left (by simpa using hi)];simp
 ·simp at h;obtain rfl:i=s.length:=by omega
  refine .inr ⟨rfl,?_⟩;rw[List.getElem_append_right (by simp)];simp
def TI(w:ag):(jD w).length<=1:=by unfold jD;split<;>simp
def QH(c:UInt8)(f:ag->List ag)(hf:∀w,(f w).length<=1)(s:ag)(i:Nat)(g:List ag×Nat)(b:Option UInt8)(h:g.2<=i/\g.1.length<=i):(fW c f s i g b).2<=i+1/\(fW c f s i g b).1.length<=i+1:=by
 unfold fW;have:=hf ((s.take i).drop g.2);split
 ·split;·simp;omega
  ·omega
 ·simp;omega
def V9(s:ag)(hb:s.length<=1073741824)(g:List ag×Nat)(hinv:g.2<=0/\g.1.length<=0):aI (aj (ev LI TT) (aq TT) qx) [(0,.str ⟨s.toArray⟩),(3,.row .own 1 ((g).1.map eS)),(4,.int .i64 ((g).2:Nat)),(5,.int .i64 0)]=some (.exit 0,[(0,.str ⟨s.toArray⟩),(3,.row .own 1 (((foldI (fW 44 jD s) 0 (s.map some++[none]) g)).1.map eS)),(4,.int .i64 (((foldI (fW 44 jD s) 0 (s.map some++[none]) g)).2:Nat)),(5,.int .i64 (s.map some++[none]).length),(11,.bool false)]):=by
 refine gT (f:=aj (ev LI TT) (aq TT) qx) (s.map some++[none]) (λi (g:List ag×Nat)=>[(0,.str ⟨s.toArray⟩),(3,.row .own 1 ((g).1.map eS)),(4,.int .i64 ((g).2:Nat)),(5,.int .i64 i)]) (fW 44 jD s) (λg=>[(0,.str ⟨s.toArray⟩),(3,.row .own 1 ((g).1.map eS)),(4,.int .i64 ((g).2:Nat)),(5,.int .i64 (s.map some++[none]).length),(11,.bool false)]) (λi (g:List ag×Nat)=>g.2<=i/\g.1.length<=i) g hinv (λi b g hi hl hinv=>?_) (λi b g hi hinv=>?_) (λg hinv=>?_)
 ·have hw:=aU i (by first|omega|(simp at hl;omega));obtain⟨_,rfl⟩:=aL.1 hi;have hlz:(g.1.length+1)*16<=140737488355328:=by simp at hl;omega
  have z8:∀b:UInt8,((b.toNat:Int)=44)↔b=44:=λb=>⟨λh=>td.1 (by have e:(44:UInt8).toNat=44:=rfl;omega),λh=>by subst h;rfl⟩;rcases SM s i hl with ⟨hi',e⟩|⟨rfl,e⟩
  ·rw[e];have k1:(i:Int)<=s.length:=by omega
   have k2:i<=s.length:=by omega
   have hc:=Jg ((s.drop g.2).take (i - g.2)) (by simp;omega);by_cases hx:s[i]=44;rotate_left;·have hx':=mt (z8 s[i]).1 hx;simp -implicitDefEqProofs [qx,uY,k1,k2,hi',hw,fW,hx,hx']
   have hx':=(z8 s[i]).2 hx;have e3:(s.take i).drop g.2=(s.drop g.2).take (i - g.2):=y7 ..;by_cases ht:gi ((s.drop g.2).take (i - g.2))=[];·simp -implicitDefEqProofs [qx,uY,k1,k2,hi',hw,fW,eq_true hx,hx',hinv,hc,Lib.extract_mk,jD,e3,eq_true ht]
   ·simp -implicitDefEqProofs [qx,uY,k1,k2,hi',hw,fW,eq_true hx,hx',hinv,hc,Lib.extract_mk,jD,e3,eq_false ht,bY,hlz]
  rw[e];have hc:=Jg ((s.drop g.2).take (s.length - g.2)) (by simp;omega);have e3:(s.take s.length).drop g.2=(s.drop g.2).take (s.length - g.2):=y7 ..;by_cases ht:gi ((s.drop g.2).take (s.length - g.2))=[];·simp only[fW,e3,jD,eq_true ht];simp -implicitDefEqProofs [qx,uY,hw,hinv,hc,Lib.extract_mk,eq_true ht]
  simp only[fW,e3,jD,eq_false ht];simp -implicitDefEqProofs [qx,uY,hl,hw,hinv,hc,Lib.extract_mk,eq_false ht,bY,hlz]
 ·exact QH 44 jD TI s i g b hinv
 ·have Kc:¬((s.length:Int)+1<=s.length):=by omega
  simp -implicitDefEqProofs [qx,uY,Kc]
def O4(s:ag)(hb:s.length<=1073741824):ev LI TT 168 [.str ⟨s.toArray⟩]=some (.row .own 1 ((jm s).map eS),[.dead]):=by rw[ay (b:=Gn) (rs:=[.t 2]) (n:=1) rfl rfl];have u1:=V9 s hb ([],0) ⟨by omega,by simp⟩;rw[Qs,show (bp 44 s).flatMap jD=jm s from (Ux s).symm] at u1;simp at u1;simp -implicitDefEqProofs [Gn,u1];all_goals (repeat' split)<;>first|rfl|omega|(simp_all;done)|(simp_all;omega)|skip
def VD(s:ag)(ws:List ag)(hb:∀w∈ws,w.length<=1073741824)(hl0:ws.length<=1073741825):aI (aj (ev LI TT) (aq TT) wV) [(3,.row .own 1 (([]).map eS)),(8,.row .own 1 (ws.map eS)),(9,.int .i64 ws.length),(10,.int .i64 0)]=some (.exit 0,[(3,.row .own 1 ((((ws).flatMap jD)).map eS)),(8,.row .own 1 (ws.map eS)),(9,.int .i64 ws.length),(10,.int .i64 (ws).length),(11,.bool false)]):=by
 refine pW (f:=aj (ev LI TT) (aq TT) wV) (ws) jD (λi out=>[(3,.row .own 1 ((out).map eS)),(8,.row .own 1 (ws.map eS)),(9,.int .i64 ws.length),(10,.int .i64 i)]) (λout=>[(3,.row .own 1 ((out).map eS)),(8,.row .own 1 (ws.map eS)),(9,.int .i64 ws.length),(10,.int .i64 (ws).length),(11,.bool false)]) (λi b out hi hl hout=>?_) (λout hout=>?_)
 ·have hw:=aU i (by first|omega|(simp at hl;omega));obtain⟨_,rfl⟩:=aL.1 hi;have hlo:out.length<=i:=by rw[hout];exact Eg jD TI ws i
  have hlz:(out.length+1)*16<=140737488355328:=by omega
  have hc:=ON ws[i] (by have:=hb _ (cy hl);omega);unfold jD;by_cases ht:gi ws[i]=[];·simp -implicitDefEqProofs [wV,E3,hl,hw,hc,eq_true ht]
  simp -implicitDefEqProofs [wV,E3,hl,hw,hc,eq_false ht,bY,hlz]
 ·simp -implicitDefEqProofs [wV,E3]
def XM(s:ag)(hb:s.length<=1073741824):ev LI TT 190 [.str ⟨s.toArray⟩]=some (.row .own 1 ((jm s).map eS),[.dead]):=by
 rw[ay (b:=E4) (rs:=[.t 2]) (n:=1) rfl rfl];rw[Ux s,show (λw=>if gi w≠[] then [gi w] else [])=jD from rfl];have u1:=tL s 44 (by omega);try simp at u1
 have u2:=VD s (bp 44 s) (λw hw=>by have:=oH 44 s w hw;omega) (by have:=TK 44 s;omega);try simp at u2
 simp -implicitDefEqProofs [E4,u1,u2];all_goals (repeat' split)<;>first|rfl|omega|(simp_all;done)|(simp_all;omega)|skip
def Wv(l:List ag)(hl0:l.length<=1073741824)(hb:∀w∈l,w.length<=1073741824):aI (aj (ev LI TT) (aq TT) CC) [(0,.row .af 1 (l.map eS)),(3,.int .i64 0)]=if aX en (l)=true then some (.exit 0,[(0,.row .af 1 (l.map eS)),(3,.int .i64 (l).length),(7,.bool false)]) else some (.ret,[(2,.bool false)]):=by
 refine gB (f:=aj (ev LI TT) (aq TT) CC) (l) (λi=>[(0,.row .af 1 (l.map eS)),(3,.int .i64 i)]) en _ _ (λi b hi hl=>?_) ?_
 ·have hw:=aU i (by first|omega|(simp at hl;omega));obtain⟨_,rfl⟩:=aL.1 hi;have u1:=Jf l[i] (by have:=hb _ (cy hl);omega);try simp at u1
  simp -implicitDefEqProofs [CC,MH,hl,hw,u1];all_goals (repeat' split)<;>first|rfl|omega|(simp_all;done)|(simp_all;omega)|skip
 ·simp -implicitDefEqProofs [CC,MH]
def Pb(l:List ag)(hl0:l.length<=1073741824)(hb:∀w∈l,w.length<=1073741824):ev LI TT 85 [.row .af 1 (l.map eS)]=some (.bool ((aX en l && decide ((l.length:Int)<=4))),[.dead]):=by
 rw[ay (b:=Hj) (rs:=[.t 2]) (n:=1) rfl rfl];have u1:=Wv l hl0 hb;try simp at u1
 simp -implicitDefEqProofs [Hj,u1];all_goals (repeat' split)<;>first|rfl|omega|(simp_all;done)|(simp_all;omega)|skip
def VL(l:List ag)(hl0:l.length<=1073741824)(hb:∀w∈l,w.length<=1073741824):aI (aj (ev LI TT) (aq TT) A7) [(0,.row .af 1 (l.map eS)),(5,.row .af 1 (l.map eS)),(6,.int .i64 l.length),(7,.int .i64 0)]=if aX en (l)=true then some (.exit 0,[(0,.row .af 1 (l.map eS)),(5,.row .af 1 (l.map eS)),(6,.int .i64 l.length),(7,.int .i64 (l).length),(8,.bool false)]) else some (.ret,[(2,.bool false)]):=by
 refine gB (f:=aj (ev LI TT) (aq TT) A7) (l) (λi=>[(0,.row .af 1 (l.map eS)),(5,.row .af 1 (l.map eS)),(6,.int .i64 l.length),(7,.int .i64 i)]) en _ _ (λi b hi hl=>?_) ?_
 ·have hw:=aU i (by first|omega|(simp at hl;omega));obtain⟨_,rfl⟩:=aL.1 hi;have u1:=I7 l[i] (by have:=hb _ (cy hl);omega);try simp at u1
  simp -implicitDefEqProofs [A7,KN,hl,hw,u1];all_goals (repeat' split)<;>first|rfl|omega|(simp_all;done)|(simp_all;omega)|skip
 ·simp -implicitDefEqProofs [A7,KN]
def XV(l:List ag)(hl0:l.length<=1073741824)(hb:∀w∈l,w.length<=1073741824):ev LI TT 117 [.row .af 1 (l.map eS)]=some (.bool ((aX en l && decide ((l.length:Int)<=4))),[.dead]):=by
 rw[ay (b:=Fp) (rs:=[.t 2]) (n:=1) rfl rfl];have u1:=VL l hl0 hb;try simp at u1
 simp -implicitDefEqProofs [Fp,u1];all_goals (repeat' split)<;>first|rfl|omega|(simp_all;done)|(simp_all;omega)|skip
end M
namespace M
open Go
def iP(g:Nat×Nat)(b:UInt8):Nat×Nat:=((g.1+b.toNat)%65521,(g.2+(g.1+b.toNat)%65521)%65521)
def HC(g:Nat×Nat)(b:UInt8):(iP g b).1<65521/\(iP g b).2<65521:=⟨tc _ (by decide),tc _ (by decide)⟩
def TV(g:Nat×Nat)(b:UInt8)(h:g.1<65521/\g.2<65521):(IntKind.i64.wrap (↑g.1+IntKind.i64.wrap ↑b.toNat)).tmod 65521=↑(iP g b).1/\
  (IntKind.i64.wrap (↑g.2+(IntKind.i64.wrap (↑g.1+IntKind.i64.wrap ↑b.toNat)).tmod 65521)).tmod 65521=↑(iP g b).2:=by
 have hb:=b.toNat_lt;have e1:IntKind.i64.wrap (↑g.1+IntKind.i64.wrap ↑b.toNat)=((g.1+b.toNat:Nat):Int):=by rw[bX (n:=(b.toNat:Int)) (by omega) (by omega),bX (by omega) (by omega)];omega
 have e2:(((g.1+b.toNat:Nat):Int)).tmod 65521=↑(iP g b).1:=by rw[Dc (by omega)];unfold iP;omega
 have h1:=(HC g b).1;have e3:IntKind.i64.wrap (↑g.2+(↑(iP g b).1:Int))=((g.2+(iP g b).1:Nat):Int):=by rw[bX (by omega) (by omega)];omega
 rw[e1,e2,e3];refine⟨rfl,?_⟩;rw[Dc (by omega)];unfold iP;omega
def iO(s:ag):Nat×Nat:=foldI (λ_ g b=>iP g b) 0 s (1,0)
def JP{γ β:Type}{go:Nat->γ->β->γ}{I:γ->Prop}(h:∀i g b,I g->I (go i g b)):∀(l:List β) (i:Nat) (g:γ),I g->I (foldI go i l g)
 |[],_,_,hg=>hg
 |b::l,i,g,hg=>JP h l (i+1) _ (h i g b hg)
def MN(s:ag):(iO s).1<65521/\(iO s).2<65521:=JP (I:=λg=>g.1<65521/\g.2<65521) (λ_ g b _=>HC g b) s 0 _ (by simp)
def mA(s:ag):Nat:=65521*(iO s).2+(iO s).1
def CJ(s:ag):mA s<10^10:=by have:=MN s;unfold mA;omega
def Wa(s:ag)(hb:s.length<=9223372036854775807)(g:Nat×Nat)(hinv:g.1<65521/\g.2<65521):aI (aj (ev LI TT) (aq TT) B6) [(0,.str ⟨s.toArray⟩),(3,.int .i64 (g).1),(4,.int .i64 (g).2),(5,.int .i64 0)]=some (.exit 0,[(0,.str ⟨s.toArray⟩),(3,.int .i64 ((foldI (λ_ g b=>iP g b) 0 (s) g)).1),(4,.int .i64 ((foldI (λ_ g b=>iP g b) 0 (s) g)).2),(5,.int .i64 (s).length),(9,.bool false)]):=by
 refine gT (f:=aj (ev LI TT) (aq TT) B6) (s) (λi (g:Nat×Nat)=>[(0,.str ⟨s.toArray⟩),(3,.int .i64 (g).1),(4,.int .i64 (g).2),(5,.int .i64 i)]) (λ_ g b=>iP g b) (λg=>[(0,.str ⟨s.toArray⟩),(3,.int .i64 (g).1),(4,.int .i64 (g).2),(5,.int .i64 (s).length),(9,.bool false)]) (λi (g:Nat×Nat)=>g.1<65521/\g.2<65521) g hinv (λi b g hi hl hinv=>?_) (λi b g hi hinv=>?_) (λg hinv=>?_);·have hw:=aU i (by first|omega|(simp at hl;omega));obtain⟨_,rfl⟩:=aL.1 hi;skip;simp -implicitDefEqProofs [B6,L9,hl,hw];exact TV g s[i] hinv
 ·exact HC _ _
 ·simp -implicitDefEqProofs [B6,L9]
def Yb(s:ag)(hb:s.length<=9223372036854775807):ev LI TT 197 [.str ⟨s.toArray⟩]=some (.int .i64 (mA s),[.dead]):=by rw[ay (b:=Gp) (rs:=[.t 2]) (n:=1) rfl rfl];have h:=Wa s hb (1,0) (by simp);have h2:=MN s;have e1:IntKind.i64.wrap (65521*((iO s).2:Int))=65521*(iO s).2:=bX (by omega) (by omega);have e2:IntKind.i64.wrap (65521*((iO s).2:Int)+(iO s).1)=65521*(iO s).2+(iO s).1:=bX (by omega) (by omega);rw[show foldI (λ_ g b=>iP g b) 0 s (1,0)=iO s from rfl] at h;simp at h;simp -implicitDefEqProofs [Gp,h,e1,e2,mA];all_goals (repeat' split)<;>first|rfl|omega|(simp_all;done)|(simp_all;omega)|skip
def VE(s:ag)(hb:s.length<=9223372036854775807)(g:Nat×Nat)(hinv:g.1<65521/\g.2<65521):aI (aj (ev LI TT) (aq TT) A0) [(0,.str ⟨s.toArray⟩),(3,.int .i64 (g).1),(4,.int .i64 (g).2),(5,.int .i64 0)]=some (.exit 0,[(0,.str ⟨s.toArray⟩),(3,.int .i64 ((foldI (λ_ g b=>iP g b) 0 (s) g)).1),(4,.int .i64 ((foldI (λ_ g b=>iP g b) 0 (s) g)).2),(5,.int .i64 (s).length),(9,.bool false)]):=by
 refine gT (f:=aj (ev LI TT) (aq TT) A0) (s) (λi (g:Nat×Nat)=>[(0,.str ⟨s.toArray⟩),(3,.int .i64 (g).1),(4,.int .i64 (g).2),(5,.int .i64 i)]) (λ_ g b=>iP g b) (λg=>[(0,.str ⟨s.toArray⟩),(3,.int .i64 (g).1),(4,.int .i64 (g).2),(5,.int .i64 (s).length),(9,.bool false)]) (λi (g:Nat×Nat)=>g.1<65521/\g.2<65521) g hinv (λi b g hi hl hinv=>?_) (λi b g hi hinv=>?_) (λg hinv=>?_);·have hw:=aU i (by first|omega|(simp at hl;omega));obtain⟨_,rfl⟩:=aL.1 hi;skip;simp -implicitDefEqProofs [A0,KJ,hl,hw];exact TV g s[i] hinv
 ·exact HC _ _
 ·simp -implicitDefEqProofs [A0,KJ]
def XO(s:ag)(hb:s.length<=9223372036854775807):ev LI TT 252 [.str ⟨s.toArray⟩]=some (.int .i64 (mA s),[.dead]):=by rw[ay (b:=E5) (rs:=[.t 2]) (n:=1) rfl rfl];have h:=VE s hb (1,0) (by simp);have h2:=MN s;have e1:IntKind.i64.wrap (65521*((iO s).2:Int))=65521*(iO s).2:=bX (by omega) (by omega);have e2:IntKind.i64.wrap (65521*((iO s).2:Int)+(iO s).1)=65521*(iO s).2+(iO s).1:=bX (by omega) (by omega);rw[show foldI (λ_ g b=>iP g b) 0 s (1,0)=iO s from rfl] at h;simp at h;simp -implicitDefEqProofs [E5,h,e1,e2,mA];all_goals (repeat' split)<;>first|rfl|omega|(simp_all;done)|(simp_all;omega)|skip
def Vr(n:Nat)(out:ag)(hn:out.length+n<=9223372036854775807):aI (aj (ev LI TT) (aq TT) Mn) [(0,.int .i64 n),(3,.str ⟨out.toArray⟩)]=some (.exit 0,[(0,.int .i64 0),(3,.str ⟨(pX n out).toArray⟩),(7,.bool false)]):=by
 have hs:∀s,aj (ev LI TT) (aq TT) Mn s=aj (ev LI TT) (aq TT) GD s:=λ_=>rfl;induction n using Nat.strongRecOn generalizing out with
 |ind n ih=>
  rw[cT,hs];unfold pX;by_cases h:n=0;·subst h;simp -implicitDefEqProofs [GD]
  ·have hp:0<n:=by omega
   have:=ih (n / 10) (by omega) (UInt8.ofNat (48+n%10)::out) (by rw[cu];omega);have e1:((n:Int)).tmod 10=((n%10:Nat):Int):=by rw[Dc (by omega)];omega
   have e4:((n:Int)).tdiv 10=((n / 10:Nat):Int):=by rw[Vb (by omega)];omega
   have e2:IntKind.i64.wrap (48+((n%10:Nat):Int))=((48+n%10:Nat):Int):=by rw[bX (by omega) (by omega)];omega
   have e3:IntKind.u8.wrap ((48+n%10:Nat):Int)=((48+n%10:Nat):Int):=M8 (by omega) (by omega);have e5:=Ug (48+n%10) (by omega);have e6:IntKind.i64.wrap ((n / 10:Nat):Int)=((n / 10:Nat):Int):=bX (by omega) (by omega);simp only[h,dite_false];rw[<-this];simp -implicitDefEqProofs [GD,hp,cL,e1,e2,e3,e4,e5,e6,-Int.natCast_emod,-Int.natCast_ediv,-Int.natCast_add,-UInt8.ofNat_add,fq,(by omega:1+out.length<=9223372036854775807)]
def Ji(n:Nat)(hk:n<=9223372036854775800):ev LI TT 196 [.int .i64 (n:Int)]=some (.str ⟨(aS n).toArray⟩,[.dead]):=by
 rw[ay (b:=Cj) (rs:=[.t 2]) (n:=1) rfl rfl];by_cases h:n=0;·subst h;simp -implicitDefEqProofs [Cj,DU]
 have h1:=Vr n [] (by simp;omega);rw[Sc n [] h,mD] at h1;simp -implicitDefEqProofs [Cj,h,h1];all_goals (repeat' split)<;>first|rfl|omega|(simp_all;done)|(simp_all;omega)|skip
def FX(n:Nat)(b:ag):ag:=aS (mA (aS n++32::(aS b.length++10::b)))++32::(aS n++32::(aS b.length++10::b))
def di(n:Int)(b:ag):ag:=if 1<=n/\n<=100000/\b.length<=2000 then FX n.toNat b else []
def zE(n:Int)(b:ag)(hb:b.length<=9223372036854775807):ev LI TT 123 [.int .i64 n,.str ⟨b.toArray⟩]=some (.str ⟨(di n b).toArray⟩,[.dead,.dead]):=by
 rw[ay (b:=xT) (rs:=[.t 4]) (n:=2) rfl rfl];by_cases h1:¬(1<=n/\n<=100000)
 ·have h1':¬(1<=n/\n<=100000/\b.length<=2000):=by omega
  simp -implicitDefEqProofs [xT,h1,di,h1']
 by_cases h2:2000<b.length
 ·have h1':¬(1<=n/\n<=100000/\b.length<=2000):=by omega
  have gO:(2000:Int)<b.length:=by omega
  simp -implicitDefEqProofs [xT,h1,di,h1',h2,gO]
 obtain⟨m,rfl⟩:∃m:Nat,n=m:=⟨n.toNat,by omega⟩;have l1:=o9 5 m (by omega);have l2:=o9 5 b.length (by omega);have l3:=o9 17 (mA (aS m++32::(aS b.length++10::b))) (NC (CJ _) (by decide));have k1:=Ji m (by omega);have k2:=Ji b.length (by omega);have k4:=Ji (mA (aS m++32::(aS b.length++10::b))) (by have:=CJ (aS m++32::(aS b.length++10::b));omega);have k3:=Yb (aS m++32::(aS b.length++10::b)) (by simp;omega);have gO:¬(2000<(b.length:Int)):=by omega
 have h3:1<=m/\m<=100000:=by omega
 have h4:b.length<=2000:=by omega
 simp -implicitDefEqProofs [xT,gO,h3,h4,k1,k2,k3,k4,fq,di,FX];repeat rw[au (by omega)]
def XF(n:Int)(b:ag)(hb:b.length<=9223372036854775807):ev LI TT 215 [.int .i64 n,.str ⟨b.toArray⟩]=some (.str ⟨(di n b).toArray⟩,[.dead,.dead]):=by
 rw[ay (b:=wQ) (rs:=[.t 4]) (n:=2) rfl rfl];by_cases h1:¬(1<=n/\n<=100000)
 ·have h1':¬(1<=n/\n<=100000/\b.length<=2000):=by omega
  simp -implicitDefEqProofs [wQ,h1,di,h1']
 by_cases h2:2000<b.length
 ·have h1':¬(1<=n/\n<=100000/\b.length<=2000):=by omega
  have gO:(2000:Int)<b.length:=by omega
  simp -implicitDefEqProofs [wQ,h1,di,h1',h2,gO]
 obtain⟨m,rfl⟩:∃m:Nat,n=m:=⟨n.toNat,by omega⟩;have l1:=o9 5 m (by omega);have l2:=o9 5 b.length (by omega);have l3:=o9 17 (mA (aS m++32::(aS b.length++10::b))) (NC (CJ _) (by decide));have k1:=tK m (by omega);have k2:=tK b.length (by omega);have k4:=tK (mA (aS m++32::(aS b.length++10::b))) (by have:=CJ (aS m++32::(aS b.length++10::b));omega);have k3:=XO (aS m++32::(aS b.length++10::b)) (by simp;omega);have gO:¬(2000<(b.length:Int)):=by omega
 have h3:1<=m/\m<=100000:=by omega
 have h4:b.length<=2000:=by omega
 simp -implicitDefEqProofs [wQ,gO,h3,h4,k1,k2,k3,k4,fq,di,FX];repeat rw[au (by omega)]
end M
namespace M
open Go
def Wn(fs:List aJ)(n:ag)(hb:fs.length<=9223372036854775807):aI (aj (ev LI TT) (aq TT) Cv) [(0,.row .af 2 (fs.map aR)),(1,.str ⟨n.toArray⟩),(5,.int .i64 0)]=(dH (λf=>decide (f.name=n)) 0 (fs)).elim (some (.exit 0,[(0,.row .af 2 (fs.map aR)),(1,.str ⟨n.toArray⟩),(5,.int .i64 (fs).length),(9,.bool false)])) λx=>some (.ret,(λ(i:Nat) b=>[(4,.int .i64 i)]) x.1 x.2):=by
 refine Bk (f:=aj (ev LI TT) (aq TT) Cv) (fs) (λi=>[(0,.row .af 2 (fs.map aR)),(1,.str ⟨n.toArray⟩),(5,.int .i64 i)]) (λf=>decide (f.name=n)) (λ(i:Nat) b=>[(4,.int .i64 i)]) _ (λi b hi hl=>?_) ?_;·have hw:=aU i (by first|omega|(simp at hl;omega));obtain⟨_,rfl⟩:=aL.1 hi;simp -implicitDefEqProofs [Cv,MD,hl,hw]
 ·simp -implicitDefEqProofs [Cv,MD]
def wg(fs:List aJ)(n:ag)(hb:fs.length<=9223372036854775807):ev LI TT 161 [.row .af 2 (fs.map aR),.str ⟨n.toArray⟩]=some (.int .i64 (fU (fh fs n)),[.dead,.dead]):=by
 rw[ay (b:=Cw) (rs:=[.t 4]) (n:=2) rfl rfl];have h:=Wn fs n hb;rw[show dH (λf=>decide (f.name=n)) 0 fs=fh fs n from rfl] at h;simp at h;cases g:fh fs n with
 |none=>rw[g] at h;simp at h;simp -implicitDefEqProofs [Cw,h,fU]
 |some x=>
 rw[g] at h;simp at h;simp -implicitDefEqProofs [Cw,h,fU];all_goals (repeat' split)<;>first|rfl|omega|(simp_all;done)|(simp_all;omega)|skip
def DA(fs:List aJ)(n:ag)(hb:fs.length<=9223372036854775807):ev LI TT 160 [.row .af 2 (fs.map aR),.str ⟨n.toArray⟩]=some (.ak [.str ⟨((dX fs n).getD []).toArray⟩,.bool (dX fs n).isSome],[.dead,.dead]):=by
 rw[ay (b:=BQ) (rs:=[.t 4,.t 5]) (n:=2) rfl rfl];have h:=wg fs n hb;unfold dX;cases g:fh fs n with
 |none=>rw[g] at h;simp[fU] at h;simp -implicitDefEqProofs [BQ,h]
 |some x=>
 obtain⟨i,b⟩:=x;rw[g] at h;obtain⟨h1,h2,h3⟩:=wD g;simp at h2;simp[fU] at h;have hi:i<fs.length:=(aL.1 h2).1;obtain⟨_,rfl⟩:=aL.1 h2;simp -implicitDefEqProofs [BQ,h,hi];all_goals (repeat' split)<;>first|rfl|omega|(simp_all;done)|(simp_all;omega)|skip
def XQ(f:aJ)(n:ag):ev LI TT 172 [.agg (aR f),.ptr .af [.str ⟨n.toArray⟩]]=some (.bool (decide (f.name=n)),[.dead,.dead]):=by rw[ay (b:=Fc) (rs:=[.t 3]) (n:=2) rfl rfl];simp -implicitDefEqProofs [Fc];all_goals (repeat' split)<;>first|rfl|omega|(simp_all;done)|(simp_all;omega)|skip
def Wx(fs:List aJ)(n:ag)(hb:fs.length<=9223372036854775807):aI (aj (ev LI TT) (aq TT) CU) [(0,.row .af 2 (fs.map aR)),(1,.fn 172 [.ptr .af [.str ⟨n.toArray⟩]]),(7,.int .i64 fs.length),(8,.int .i64 0)]=(dH (λf=>decide (f.name=n)) 0 (fs)).elim (some (.exit 0,[(0,.row .af 2 (fs.map aR)),(1,.fn 172 [.ptr .af [.str ⟨n.toArray⟩]]),(7,.int .i64 fs.length),(8,.int .i64 (fs).length),(9,.bool false)])) λx=>some (.ret,(λ(i:Nat) b=>[(4,.int .i64 i)]) x.1 x.2):=by
 refine Bk (f:=aj (ev LI TT) (aq TT) CU) (fs) (λi=>[(0,.row .af 2 (fs.map aR)),(1,.fn 172 [.ptr .af [.str ⟨n.toArray⟩]]),(7,.int .i64 fs.length),(8,.int .i64 i)]) (λf=>decide (f.name=n)) (λ(i:Nat) b=>[(4,.int .i64 i)]) _ (λi b hi hl=>?_) ?_;·have hw:=aU i (by first|omega|(simp at hl;omega));obtain⟨_,rfl⟩:=aL.1 hi;have ho:aq TT 172=true:=rfl;have hf:=XQ fs[i] n;simp at hf;simp -implicitDefEqProofs [CU,Na,hl,hw,ho,w9,hf]
 ·simp -implicitDefEqProofs [CU,Na]
def Yo(fs:List aJ)(n:ag)(hb:fs.length<=9223372036854775807):ev LI TT 171 [.row .af 2 (fs.map aR),.fn 172 [.ptr .af [.str ⟨n.toArray⟩]]]=some (.int .i64 (fU (fh fs n)),[.dead,.dead]):=by
 rw[ay (b:=CV) (rs:=[.t 4]) (n:=2) rfl rfl];have h:=Wx fs n hb;rw[show dH (λf=>decide (f.name=n)) 0 fs=fh fs n from rfl] at h;simp at h;cases g:fh fs n with
 |none=>rw[g] at h;simp at h;simp -implicitDefEqProofs [CV,h,fU]
 |some x=>
 rw[g] at h;simp at h;simp -implicitDefEqProofs [CV,h,fU];all_goals (repeat' split)<;>first|rfl|omega|(simp_all;done)|(simp_all;omega)|skip
def OR(fs:List aJ)(n:ag)(hb:fs.length<=9223372036854775807):ev LI TT 89 [.row .af 2 (fs.map aR),.str ⟨n.toArray⟩]=some (.int .i64 (fU (fh fs n)),[.dead,.dead]):=by rw[ay (b:=Fe) (rs:=[.t 4]) (n:=2) rfl rfl];have h:=Yo fs n hb;simp -implicitDefEqProofs [Fe,h,jZ,gV];all_goals (repeat' split)<;>first|rfl|omega|(simp_all;done)|(simp_all;omega)|skip
def OC(fs:List aJ)(n:ag)(hb:fs.length<=9223372036854775807):ev LI TT 19 [.row .af 2 (fs.map aR),.str ⟨n.toArray⟩]=some (.ak [.str ⟨((dX fs n).getD []).toArray⟩,.bool (dX fs n).isSome],[.dead,.dead]):=by
 rw[ay (b:=AJ) (rs:=[.t 4,.t 5]) (n:=2) rfl rfl];have h:=OR fs n hb;unfold dX;cases g:fh fs n with
 |none=>rw[g] at h;simp[fU] at h;simp -implicitDefEqProofs [AJ,h]
 |some x=>
 obtain⟨i,b⟩:=x;rw[g] at h;obtain⟨h1,h2,h3⟩:=wD g;simp at h2;simp[fU] at h;have hi:i<fs.length:=(aL.1 h2).1;obtain⟨_,rfl⟩:=aL.1 h2;simp -implicitDefEqProofs [AJ,h,hi];all_goals (repeat' split)<;>first|rfl|omega|(simp_all;done)|(simp_all;omega)|skip
end M
namespace M
open Go
def Bw:(⟨#[99,111,110,116,101,110,116,45,108,101,110,103,116,104]⟩:ByteArray)=⟨dJ.toArray⟩:=rfl
def VV(fs:List aJ)(hb:wL aO fs<=1073741824):aI (aj (ev LI TT) (aq TT) qt) [(0,.row .af 2 (fs.map aR)),(3,.int .i64 0)]=if aX (js fs) (fs.zipIdx)=true then some (.exit 0,[(0,.row .af 2 (fs.map aR)),(3,.int .i64 (fs.zipIdx).length),(7,.bool false)]) else some (.ret,[(2,.bool false)]):=by
 refine gB (f:=aj (ev LI TT) (aq TT) qt) (fs.zipIdx) (λi=>[(0,.row .af 2 (fs.map aR)),(3,.int .i64 i)]) (js fs) _ _ (λi b hi hl=>?_) ?_
 ·have hw:=aU i (by have:=bE (w:=aO) fs;simp at hl;omega);obtain⟨_,rfl⟩:=aL.1 hi;simp only[IB] at hl;have hz:fs.zipIdx[i]'(by simpa using hl)=(fs[i],i):=by simp
  have hm:=HQ (cy hl);have hfl:=bE (w:=aO) fs;rw[hz];have u1:=Jf fs[i].name (by omega);try simp at u1
  have u2:=Jh fs[i].value (by omega);try simp at u2
  have u3:=wg fs fs[i].name (by omega);try simp at u3
  by_cases g1:en fs[i].name=true;rotate_left;·simp -implicitDefEqProofs [qt,uM,hl,hw,u1,u2,u3,js,g1]
  by_cases g2:fP fs[i].value=true;rotate_left;·simp -implicitDefEqProofs [qt,uM,hl,hw,u1,u2,u3,js,g1,g2]
  by_cases g3:fU (fh fs fs[i].name)=i;rotate_left;·simp -implicitDefEqProofs [qt,uM,hl,hw,u1,u2,u3,js,g1,g2,eq_false g3]
  by_cases hcl:fs[i].name=dJ;·simp -implicitDefEqProofs [qt,uM,hl,hw,u1,u2,u3,g1,g2,eq_true g3,js,Bw,eq_true hcl]
  simp -implicitDefEqProofs [qt,uM,hl,hw,u1,u2,u3,js,g1,g2,eq_true g3,Bw,eq_false hcl];all_goals (repeat' split)<;>first|rfl|omega|(simp_all;done)|(simp_all;omega)|skip
 ·simp -implicitDefEqProofs [qt,uM]
def OX(fs:List aJ)(hb:wL aO fs<=1073741824):ev LI TT 158 [.row .af 2 (fs.map aR)]=some (.bool ((jO fs)),[.dead]):=by
 rw[ay (b:=Gb) (rs:=[.t 2]) (n:=1) rfl rfl];unfold jO;have hfl:=bE (w:=aO) fs;have u1:=VV fs hb;try simp at u1
 simp -implicitDefEqProofs [Gb,u1];all_goals (repeat' split)<;>first|rfl|omega|(simp_all;done)|(simp_all;omega)|skip
def Vw(fs:List aJ)(hb:wL aO fs<=1073741824):aI (aj (ev LI TT) (aq TT) pP) [(0,.row .af 2 (fs.map aR)),(5,.row .af 2 (fs.map aR)),(6,.int .i64 fs.length),(7,.int .i64 0)]=if aX (js fs) (fs.zipIdx)=true then some (.exit 0,[(0,.row .af 2 (fs.map aR)),(5,.row .af 2 (fs.map aR)),(6,.int .i64 fs.length),(7,.int .i64 (fs.zipIdx).length),(8,.bool false)]) else some (.ret,[(2,.bool false)]):=by
 refine gB (f:=aj (ev LI TT) (aq TT) pP) (fs.zipIdx) (λi=>[(0,.row .af 2 (fs.map aR)),(5,.row .af 2 (fs.map aR)),(6,.int .i64 fs.length),(7,.int .i64 i)]) (js fs) _ _ (λi b hi hl=>?_) ?_
 ·have hw:=aU i (by have:=bE (w:=aO) fs;simp at hl;omega);obtain⟨_,rfl⟩:=aL.1 hi;simp only[IB] at hl;have hz:fs.zipIdx[i]'(by simpa using hl)=(fs[i],i):=by simp
  have hm:=HQ (cy hl);have hfl:=bE (w:=aO) fs;rw[hz];have u1:=I7 fs[i].name (by omega);try simp at u1
  have u2:=I8 fs[i].value (by omega);try simp at u2
  have u3:=OR fs fs[i].name (by omega);try simp at u3
  by_cases g1:en fs[i].name=true;rotate_left;·simp -implicitDefEqProofs [pP,uq,hl,hw,u1,u2,u3,js,g1]
  by_cases g2:fP fs[i].value=true;rotate_left;·simp -implicitDefEqProofs [pP,uq,hl,hw,u1,u2,u3,js,g1,g2]
  by_cases hcl:fs[i].name=dJ;·simp -implicitDefEqProofs [pP,uq,hl,hw,u1,u2,u3,g1,g2,js,Bw,eq_true hcl]
  by_cases g3:fU (fh fs fs[i].name)=i;rotate_left;·simp -implicitDefEqProofs [pP,uq,hl,hw,u1,u2,u3,g1,g2,js,Bw,eq_false hcl,eq_false g3]
  simp -implicitDefEqProofs [pP,uq,hl,hw,u1,u2,u3,js,g1,g2,Bw,eq_false hcl,eq_true g3];all_goals (repeat' split)<;>first|rfl|omega|(simp_all;done)|(simp_all;omega)|skip
 ·simp -implicitDefEqProofs [pP,uq]
def Xy(fs:List aJ)(hb:wL aO fs<=1073741824):ev LI TT 94 [.row .af 2 (fs.map aR)]=some (.bool ((jO fs)),[.dead]):=by
 rw[ay (b:=EU) (rs:=[.t 2]) (n:=1) rfl rfl];unfold jO;have hfl:=bE (w:=aO) fs;have u1:=Vw fs hb;try simp at u1
 simp -implicitDefEqProofs [EU,u1];all_goals (repeat' split)<;>first|rfl|omega|(simp_all;done)|(simp_all;omega)|skip
def Y5(fs:List aJ)(i:Nat)(h:i<fs.length)(v:ag):(fs.map aR).modify i (λe=>e.set 1 (X.str ⟨v.toArray⟩))=(fs.set i ⟨fs[i].name,v⟩).map aR:=by
 apply hO;intro j;rw[vM,cR,cR,vN];by_cases hij:i=j;·subst hij;simp[h]
 ·simp only[hij,dQ];cases fs[j]?<;>rfl
def Qm(fs:List aJ):fO (fs.map aR)=true:=by induction fs<;>simp_all[fO,scalar]
def O0(fs:List aJ)(n:ag)(v:ag)(hb:fs.length<=1073741824):ev LI TT 71 [.row .af 2 (fs.map aR),.str ⟨n.toArray⟩,.str ⟨v.toArray⟩]=some (.row .own 2 ((r9 fs n v).map aR),[.dead,.dead,.dead]):=by
 rw[ay (b:=B2) (rs:=[.t 6]) (n:=3) rfl rfl];unfold r9;have hk:fs.length*32<=140737488355328:=by omega
 have hk2:(fs.length+1)*32<=140737488355328:=by omega
 have hsc:=Qm fs;have u1:=wg fs n (by omega);try simp at u1
 cases g:fh fs n with
 |none=>rw[g] at u1;simp[fU] at u1;simp -implicitDefEqProofs [B2,u1,rowAt,hk,hk2,hsc,bY]
 |some x=>
 obtain⟨i,f⟩:=x;obtain⟨hi,rfl,_⟩:=IV g;rw[g] at u1;simp[fU] at u1;simp -implicitDefEqProofs [B2,u1,hk,hk2,hsc,hi,rowAt,Y5 fs i hi v,-List.map_set];all_goals (repeat' split)<;>first|rfl|omega|(simp_all;done)|(simp_all;omega)|skip
def Jd(r:bP)(hb:bZ r<=1073741824):ev LI TT 65 [.agg (jM .af r)]=some (.bool ((fm r)),[.dead]):=by
 rw[ay (b:=uX) (rs:=[.t 2]) (n:=1) rfl rfl];have hw:bZ r=wL aO r.fields+r.body.length:=rfl;unfold fm;have u1:=OX r.fields (by omega);try simp at u1
 by_cases g1:100<=r.status;rotate_left;·simp -implicitDefEqProofs [uX,u1,eq_false g1]
 by_cases g2:r.status<=599;rotate_left;·simp -implicitDefEqProofs [uX,u1,eq_true g1,eq_false g2]
 by_cases g3:jO r.fields=true;rotate_left;·simp -implicitDefEqProofs [uX,u1,eq_true g1,eq_true g2,g3]
 simp -implicitDefEqProofs [uX,u1,eq_true g1,eq_true g2,g3];all_goals (repeat' split)<;>first|rfl|omega|(simp_all;done)|(simp_all;omega)|skip
def OH(r:bP)(hb:bZ r<=1073741824):ev LI TT 22 [.agg (jM .af r)]=some (.bool ((fm r)),[.dead]):=by
 rw[ay (b:=uu) (rs:=[.t 2]) (n:=1) rfl rfl];have hw:bZ r=wL aO r.fields+r.body.length:=rfl;unfold fm;have u1:=Xy r.fields (by omega);try simp at u1
 by_cases g1:100<=r.status;rotate_left;·simp -implicitDefEqProofs [uu,u1,eq_false g1]
 by_cases g2:r.status<=599;rotate_left;·simp -implicitDefEqProofs [uu,u1,eq_true g1,eq_false g2]
 by_cases g3:(r.body.length:Int)<=120;rotate_left;·simp -implicitDefEqProofs [uu,u1,eq_true g1,eq_true g2,eq_false g3]
 simp -implicitDefEqProofs [uu,u1,eq_true g1,eq_true g2,eq_true g3];all_goals (repeat' split)<;>first|rfl|omega|(simp_all;done)|(simp_all;omega)|skip
def Yk(fs:List aJ)(hb:fs.length<=1073741824):ev LI TT 159 [.row .af 2 (fs.map aR)]=some (.row .own 2 (fs.map aR),[.dead]):=by rw[ay (b:=Hi) (rs:=[.t 2]) (n:=1) rfl rfl];simp -implicitDefEqProofs [Hi,Qm fs,rowAt,(by omega:fs.length*32<=140737488355328)];all_goals (repeat' split)<;>first|rfl|omega|(simp_all;done)|(simp_all;omega)|skip
def Pc(r:bP)(hb:r.fields.length<=1073741824):ev LI TT 68 [.agg (jM .af r)]=some (.agg (jM .own r),[.dead]):=by
 rw[ay (b:=Hl) (rs:=[.c 2 3 true 29]) (n:=1) rfl rfl];have u1:=Yk r.fields hb;try simp at u1
 simp -implicitDefEqProofs [Hl,u1];all_goals (repeat' split)<;>first|rfl|omega|(simp_all;done)|(simp_all;omega)|skip
end M
namespace M
open Go
def HS(s:ag):(jm s).length<=s.length+1:=by unfold jm;have h1:=Vk (λw:ag=>decide (w≠[])) ((bp 44 s).map gi);have h2:=TK 44 s;simp only[cZ] at h1;omega
def CR(s:ag):∀w∈jm s,w.length<=s.length:=by intro w hw;unfold jm at hw;obtain⟨x,hx,rfl⟩:=bg.1 (List.mem_filter.1 hw).1;have h1:=oH 44 s x hx;have h2:=Ub x;omega
def Wg(ws:List ag)(hl0:ws.length<=1073741825)(hb:∀w∈ws,w.length<=1073741824):aI (aj (ev LI TT) (aq TT) Ce) [(5,.row .own 1 ((jB cD ws 0).map eS)),(6,.int .i64 0)]=some (.exit 0,[(5,.row .own 1 ((jB cD ws (ws).length).map eS)),(6,.int .i64 (ws).length),(17,.bool false)]):=by
 refine R7 (f:=aj (ev LI TT) (aq TT) Ce) (ws) (λi=>[(5,.row .own 1 ((jB cD ws i).map eS)),(6,.int .i64 i)]) _ (λi b hi hl=>?_) ?_
 ·have hw:=aU i (by first|omega|(simp at hl;omega));obtain⟨_,rfl⟩:=aL.1 hi;have h1:=ad1 cD ws i hl;have h2:=ad2 cD ws i hl;have u1:=OY ws[i] (hb _ (cy hl));try simp at u1
  simp -implicitDefEqProofs [Ce,Mg,hl,hw,u1,h1,h2,rowAt,-List.map_set]
 ·simp -implicitDefEqProofs [Ce,Mg,rowAt]
def DB(fs:List aJ)(hb:wL aO fs<=1073741824):ev LI TT 87 [.row .af 2 (fs.map aR)]=some (.row .own 1 ((dn fs).map eS),[.dead]):=by
 rw[ay (b:=Gt) (rs:=[.t 2]) (n:=1) rfl rfl];have hfl:=bE (w:=aO) fs;have hg:=tY fs je;have u1:=DA fs je (by omega);try simp at u1
 have u2:=O4 ((dX fs je).getD []) (by omega);try simp at u2
 have u3:=Wg (jm ((dX fs je).getD [])) (by have:=HS ((dX fs je).getD []);omega) (λw hw=>by have:=CR _ w hw;omega);try simp at u3
 rw[ad3,adZ,show (jm ((dX fs je).getD [])).map cD=dn fs from rfl] at u3;simp -implicitDefEqProofs [Gt,u1,u2,u3];all_goals (repeat' split)<;>first|rfl|omega|(simp_all;done)|(simp_all;omega)|skip
def VG(ws:List ag)(hl0:ws.length<=1073741825)(hb:∀w∈ws,w.length<=1073741824):aI (aj (ev LI TT) (aq TT) A4) [(5,.row .own 1 (([]).map eS)),(14,.row .own 1 (ws.map eS)),(15,.int .i64 ws.length),(16,.int .i64 0)]=some (.exit 0,[(5,.row .own 1 ((((ws).flatMap (λw=>[cD w]))).map eS)),(14,.row .own 1 (ws.map eS)),(15,.int .i64 ws.length),(16,.int .i64 (ws).length),(17,.bool false)]):=by
 refine pW (f:=aj (ev LI TT) (aq TT) A4) (ws) (λw=>[cD w]) (λi out=>[(5,.row .own 1 ((out).map eS)),(14,.row .own 1 (ws.map eS)),(15,.int .i64 ws.length),(16,.int .i64 i)]) (λout=>[(5,.row .own 1 ((out).map eS)),(14,.row .own 1 (ws.map eS)),(15,.int .i64 ws.length),(16,.int .i64 (ws).length),(17,.bool false)]) (λi b out hi hl hout=>?_) (λout hout=>?_)
 ·have hw:=aU i (by first|omega|(simp at hl;omega));obtain⟨_,rfl⟩:=aL.1 hi;have hlo:out.length=i:=by rw[hout];exact zX _ _ _ (by omega)
  have hlz:(i+1)*16<=140737488355328:=by omega
  have u1:=XC ws[i] (hb _ (cy hl));try simp at u1
  simp -implicitDefEqProofs [A4,KL,hl,hw,u1,hlo,hlz,bY]
 ·simp -implicitDefEqProofs [A4,KL]
def OO(fs:List aJ)(hb:wL aO fs<=1073741824):ev LI TT 118 [.row .af 2 (fs.map aR)]=some (.row .own 1 ((dn fs).map eS),[.dead]):=by
 rw[ay (b:=E8) (rs:=[.t 2]) (n:=1) rfl rfl];have hfl:=bE (w:=aO) fs;have hg:=tY fs je;have u1:=OC fs je (by omega);try simp at u1
 have u2:=XM ((dX fs je).getD []) (by omega);try simp at u2
 have u3:=VG (jm ((dX fs je).getD [])) (by have:=HS ((dX fs je).getD []);omega) (λw hw=>by have:=CR _ w hw;omega);try simp at u3
 rw[zW,show (jm ((dX fs je).getD [])).map cD=dn fs from rfl] at u3;simp -implicitDefEqProofs [E8,u1,u2,u3];all_goals (repeat' split)<;>first|rfl|omega|(simp_all;done)|(simp_all;omega)|skip
def HO(fs:List aJ):(dn fs).length<=wL aO fs+1:=by have h1:=HS ((dX fs je).getD []);have h2:=tY fs je;simp[dn];omega
end M
namespace M
open Go
def Ww(ps:List (ag×ag))(hb:ps.length<=9223372036854775807):aI (aj (ev LI TT) (aq TT) CT) [(0,.row .af 1 (ps.map λx=>eS x.1)),(1,.row .af 1 (ps.map λx=>eS x.2)),(12,.int .i64 ps.length),(13,.int .i64 0)]=if aX wz (ps)=true then some (.exit 0,[(0,.row .af 1 (ps.map λx=>eS x.1)),(1,.row .af 1 (ps.map λx=>eS x.2)),(12,.int .i64 ps.length),(13,.int .i64 ps.length),(14,.bool false)]) else some (.ret,[(4,.bool false)]):=by
 refine gB (f:=aj (ev LI TT) (aq TT) CT) (ps) (λi=>[(0,.row .af 1 (ps.map λx=>eS x.1)),(1,.row .af 1 (ps.map λx=>eS x.2)),(12,.int .i64 ps.length),(13,.int .i64 i)]) wz _ _ (λi b hi hl=>?_) ?_;·have hw:=aU i (by first|omega|(simp at hl;omega));obtain⟨_,rfl⟩:=aL.1 hi;simp -implicitDefEqProofs [CT,M9,hl,hw,wz];first|done|(split<;>simp_all)
 ·simp -implicitDefEqProofs [CT,M9]
def Jl(a b:List ag)(hb:a.length<=9223372036854775807):ev LI TT 103 [.row .af 1 (a.map eS),.row .af 1 (b.map eS)]=some (.bool (decide (a=b)),[.dead,.dead]):=by
 rw[ay (b:=HZ) (rs:=[.t 4]) (n:=2) rfl rfl];simp -implicitDefEqProofs [HZ];by_cases h:a.length=b.length;·obtain⟨ps,rfl,rfl⟩:=Vm h;have h1:=Ww ps (by simpa using hb);have h2:=Oj ps;simp at h1;cases h3:aX wz ps<;>rw[h3] at h1 h2<;>simp[h1,Im,<-h2]
 ·have:¬a=b:=λe=>h (by rw[e]);simp[this];omega
def Vn:∀{a b:List ag},(∀x∈a.zip b,¬(decide (x.1≠x.2))=true)->a.length=b.length->a=b
 |[],[],_,_=>rfl
 |x::a,y::b,h,hl=>by have h1:=h (x,y) (by simp);simp at h1;have h2:a=b:=Vn (λz hz=>h z (by simp only[List.zip_cons_cons];exact bO _ hz)) (by simpa using hl);rw[h1,h2]
def ake{a b:List ag}{x:ag×ag}(hx:x∈a.zip b)(h:x.1≠x.2):a≠b:=by
 rintro rfl
 have:∀{l:List ag} {x:ag×ag},x∈l.zip l->x.1=x.2:=by
  intro l;induction l with
  |nil=>intro x h;simp at h
  |cons y l ih=>
   intro x h;simp only[List.zip_cons_cons,b9] at h;rcases h with rfl|h;·rfl
   ·exact ih h
 exact h (this hx)
def Wu(a b:List ag)(hb:a.length<=9223372036854775807)(kn:b.length<=9223372036854775807):aI (aj (ev LI TT) (aq TT) yE) [(0,.row .af 1 (a.map eS)),(1,.row .af 1 (b.map eS)),(5,.int .i64 0)]=(dH (λx=>decide (x.1≠x.2)) 0 (a.zip b)).elim (some (.exit 0,[(0,.row .af 1 (a.map eS)),(1,.row .af 1 (b.map eS)),(5,.int .i64 (a.zip b).length),(15,.bool false)])) λx=>some (.ret,(λ(i:Nat) b=>[(4,.bool false)]) x.1 x.2):=by
 refine Bk (f:=aj (ev LI TT) (aq TT) yE) (a.zip b) (λi=>[(0,.row .af 1 (a.map eS)),(1,.row .af 1 (b.map eS)),(5,.int .i64 i)]) (λx=>decide (x.1≠x.2)) (λ(i:Nat) b=>[(4,.bool false)]) _ (λi b hi hl=>?_) ?_
 ·have hw:=aU i (by first|omega|(simp at hl;omega));obtain⟨_,rfl⟩:=aL.1 hi;have ha:i<a.length:=by simp at hl;omega
  have hb':i<b.length:=by simp at hl;omega
  simp -implicitDefEqProofs [yE,Hh,hl,hw,ha,hb']
 ·have hz:(a.zip b).length=min a.length b.length:=by simp
  rw[hz];by_cases hh:a.length<=b.length;·rw[nC hh];simp -implicitDefEqProofs [yE,Hh]
  have h1:b.length<=a.length:=by omega
  have h2:(b.length:Int)<a.length:=by omega
  have h3:b.length<a.length:=by omega
  rw[Nat.min_eq_right h1];simp -implicitDefEqProofs [yE,Hh,h2,h3]
def Jk(a b:List ag)(hb:a.length<=9223372036854775807)(kn:b.length<=9223372036854775807):ev LI TT 86 [.row .af 1 (a.map eS),.row .af 1 (b.map eS)]=some (.bool (decide (a=b)),[.dead,.dead]):=by
 rw[ay (b:=yF) (rs:=[.t 4]) (n:=2) rfl rfl];have h:=Wu a b hb kn;cases g:dH (λx:ag×ag=>decide (x.1≠x.2)) 0 (a.zip b) with
 |some x=>obtain⟨i,x⟩:=x;obtain⟨_,h1,h2⟩:=wD g;have h3:¬a=b:=ake (mB h1) (by simpa using h2);rw[g] at h;simp only[Option.elim] at h;simp -implicitDefEqProofs [yF,h,h3]
 |none=>
 have h1:=Qi.1 g;rw[g] at h;simp only[Option.elim] at h;try simp at h
 by_cases hl:a.length=b.length
 ·have h2:=Vn h1 hl;subst h2;try simp at h
  simp -implicitDefEqProofs [yF,h]
 have h3:¬a=b:=λe=>hl (by rw[e]);have h4:¬(a.length:Int)=b.length:=by omega
 simp -implicitDefEqProofs [yF,h,h3,h4];all_goals (repeat' split)<;>first|rfl|omega|(simp_all;done)|(simp_all;omega)|skip
end M
namespace M
open Go
def V3(o:Ob)(hb:wL wS o.values<=1073741824):aI (aj (ev LI TT) (aq TT) BZ) [(1,.ptr .own (bw .af o)),(3,.int .i64 0)]=if aX fP (o.values)=true then some (.exit 0,[(1,.ptr .own (bw .af o)),(3,.int .i64 (o.values).length),(49,.bool false)]) else some (.ret,[(2,.bool false)]):=by
 refine gB (f:=aj (ev LI TT) (aq TT) BZ) (o.values) (λi=>[(1,.ptr .own (bw .af o)),(3,.int .i64 i)]) fP _ _ (λi b hi hl=>?_) ?_
 ·have hw:=aU i (by have:=bE (w:=wS) o.values;omega);obtain⟨_,rfl⟩:=aL.1 hi;have hm:=yQ (cy hl);have u1:=Jh o.values[i] (by omega);try simp at u1
  simp -implicitDefEqProofs [BZ,L5,hl,hw,u1];all_goals (repeat' split)<;>first|rfl|omega|(simp_all;done)|(simp_all;omega)|skip
 ·simp -implicitDefEqProofs [BZ,L5]
def zC(o:Ob)(hb:b8 o<=1073741824):ev LI TT 18 [.agg (bw .af o)]=some (.bool ((dx o)),[.dead]):=by
 rw[ay (b:=mj) (rs:=[.t 2]) (n:=1) rfl rfl];have hw:b8 o=o.path.length+wL wS o.names+wL wS o.values+bZ o.resp:=rfl;have dI:bZ o.resp=wL aO o.resp.fields+o.resp.body.length:=rfl;have hn:=bE (w:=wS) o.names;have hv:=bE (w:=wS) o.values;have hvl:=HO o.resp.fields;unfold dx ng;have u1:=Jd o.resp (by omega);try simp at u1
 have u2:=Jj o.path (by omega);try simp at u2
 have u3:=Pb o.names (by omega) (λw hw=>by have:=yQ hw;omega);try simp at u3
 have u4:=DB o.resp.fields (by omega);try simp at u4
 have u5:=Jk o.names (dn o.resp.fields) (by omega) (by omega);try simp at u5
 have u6:=V3 o (by omega);try simp at u6
 by_cases g1:fm o.resp=true;rotate_left;·simp -implicitDefEqProofs [mj,u1,u2,u3,u4,u5,u6,g1]
 by_cases g2:iw o.path=true;rotate_left;·simp -implicitDefEqProofs [mj,u1,u2,u3,u4,u5,u6,g1,g2]
 by_cases g3:0<=o.t;rotate_left;·simp -implicitDefEqProofs [mj,u1,u2,u3,u4,u5,u6,g1,g2,eq_false g3]
 by_cases g4:o.t<=1000000;rotate_left;·simp -implicitDefEqProofs [mj,u1,u2,u3,u4,u5,u6,g1,g2,eq_true g3,eq_false g4]
 by_cases g5:aX en o.names=true;rotate_left;·simp -implicitDefEqProofs [mj,u1,u2,u3,u4,u5,u6,g1,g2,eq_true g3,eq_true g4,g5]
 by_cases g6:(o.names.length:Int)<=4;rotate_left;·simp -implicitDefEqProofs [mj,u1,u2,u3,u4,u5,u6,g1,g2,eq_true g3,eq_true g4,g5,eq_false g6]
 by_cases g7:o.names=dn o.resp.fields;rotate_left;·simp -implicitDefEqProofs [mj,u1,u2,u3,u4,u5,u6,g1,g2,eq_true g3,eq_true g4,g5,eq_true g6,eq_false g7]
 by_cases g8:o.values.length=o.names.length;rotate_left
 ·have jQ:¬(o.values.length:Int)=o.names.length:=by omega
  simp -implicitDefEqProofs [mj,u1,u2,u3,u4,u5,u6,g1,g2,eq_true g3,eq_true g4,g5,eq_true g6,eq_true g7,eq_false g8,eq_false jQ]
 have jQ:(o.values.length:Int)=o.names.length:=by omega
 simp -implicitDefEqProofs [mj,u1,u2,u3,u4,u5,u6,g1,g2,eq_true g3,eq_true g4,g5,eq_true g6,eq_true g7,eq_true g8,eq_true jQ];all_goals (repeat' split)<;>first|rfl|omega|(simp_all;done)|(simp_all;omega)|skip
def Vz(o:Ob)(hb:wL wS o.values<=1073741824):aI (aj (ev LI TT) (aq TT) AO) [(1,.ptr .own (bw .af o)),(5,.ax 1 [] 0 2),(6,.row .af 1 (o.values.map eS)),(7,.int .i64 o.values.length),(8,.int .i64 0)]=if aX fP (o.values)=true then some (.exit 0,[(1,.ptr .own (bw .af o)),(5,.ax 1 [] 0 2),(6,.row .af 1 (o.values.map eS)),(7,.int .i64 o.values.length),(8,.int .i64 (o.values).length),(9,.bool false)]) else some (.ret,[(2,.bool false)]):=by
 refine gB (f:=aj (ev LI TT) (aq TT) AO) (o.values) (λi=>[(1,.ptr .own (bw .af o)),(5,.ax 1 [] 0 2),(6,.row .af 1 (o.values.map eS)),(7,.int .i64 o.values.length),(8,.int .i64 i)]) fP _ _ (λi b hi hl=>?_) ?_
 ·have hw:=aU i (by have:=bE (w:=wS) o.values;omega);obtain⟨_,rfl⟩:=aL.1 hi;have hm:=yQ (cy hl);have u1:=I8 o.values[i] (by omega);try simp at u1
  simp -implicitDefEqProofs [AO,KE,hl,hw,u1];all_goals (repeat' split)<;>first|rfl|omega|(simp_all;done)|(simp_all;omega)|skip
 ·simp -implicitDefEqProofs [AO,KE]
def I6(o:Ob)(hb:b8 o<=1073741824):ev LI TT 38 [.agg (bw .af o)]=some (.bool ((dx o)),[.dead]):=by
 rw[ay (b:=lW) (rs:=[.t 2]) (n:=1) rfl rfl];have hw:b8 o=o.path.length+wL wS o.names+wL wS o.values+bZ o.resp:=rfl;have dI:bZ o.resp=wL aO o.resp.fields+o.resp.body.length:=rfl;have hn:=bE (w:=wS) o.names;have hv:=bE (w:=wS) o.values;have hvl:=HO o.resp.fields;unfold dx ng;have u1:=OH o.resp (by omega);try simp at u1
 have u2:=OS o.path (by omega);try simp at u2
 have u3:=XV o.names (by omega) (λw hw=>by have:=yQ hw;omega);try simp at u3
 have u4:=OO o.resp.fields (by omega);try simp at u4
 have u5:=Jl o.names (dn o.resp.fields) (by omega);try simp at u5
 have u6:=Vz o (by omega);try simp at u6
 by_cases g1:aX fP o.values=true;rotate_left;·simp -implicitDefEqProofs [lW,u1,u2,u3,u4,u5,u6,g1]
 by_cases g2:iw o.path=true;rotate_left;·simp -implicitDefEqProofs [lW,u1,u2,u3,u4,u5,u6,g1,g2]
 by_cases g3:0<=o.t;rotate_left;·simp -implicitDefEqProofs [lW,u1,u2,u3,u4,u5,u6,g1,g2,eq_false g3]
 by_cases g4:o.t<=1000000;rotate_left;·simp -implicitDefEqProofs [lW,u1,u2,u3,u4,u5,u6,g1,g2,eq_true g3,eq_false g4]
 by_cases g8:o.values.length=o.names.length;rotate_left
 ·have jQ:¬(o.values.length:Int)=o.names.length:=by omega
  simp -implicitDefEqProofs [lW,u1,u2,u3,u4,u5,u6,g1,g2,eq_true g3,eq_true g4,eq_false g8,eq_false jQ]
 have jQ:(o.values.length:Int)=o.names.length:=by omega
 by_cases h5:aX en o.names=true;rotate_left;·simp -implicitDefEqProofs [lW,u1,u2,u3,u4,u5,u6,g1,g2,eq_true g3,eq_true g4,eq_true g8,eq_true jQ,h5]
 by_cases h6:(o.names.length:Int)<=4;rotate_left;·simp -implicitDefEqProofs [lW,u1,u2,u3,u4,u5,u6,g1,g2,eq_true g3,eq_true g4,eq_true g8,eq_true jQ,h5,eq_false h6]
 by_cases h7:fm o.resp=true;rotate_left;·simp -implicitDefEqProofs [lW,u1,u2,u3,u4,u5,u6,g1,g2,eq_true g3,eq_true g4,eq_true g8,eq_true jQ,h5,eq_true h6,h7]
 simp -implicitDefEqProofs [lW,u1,u2,u3,u4,u5,u6,g1,g2,eq_true g3,eq_true g4,eq_true g8,eq_true jQ,h5,eq_true h6,h7];all_goals (repeat' split)<;>first|rfl|omega|(simp_all;done)|(simp_all;omega)|skip
def Dz(b:Bn)(hb:aT b<=1073741824):ev LI TT 101 [.agg (ck b)]=some (.bool ((dF b)),[.dead]):=by
 rw[ay (b:=qg) (rs:=[.t 2]) (n:=1) rfl rfl];have hw:aT b=b.a.length+b.b.length:=rfl;unfold dF;have u1:=Jj b.a (by omega);try simp at u1
 have u2:=Jf b.a (by omega);try simp at u2
 have u3:=Jh b.b (by omega);try simp at u3
 by_cases g1:0<=b.t;rotate_left;·simp -implicitDefEqProofs [qg,u1,u2,u3,eq_false g1]
 by_cases g2:b.t<=1000000;rotate_left;·simp -implicitDefEqProofs [qg,u1,u2,u3,eq_true g1,eq_false g2]
 by_cases h1:b.kind=1;·by_cases h2:iw b.a=true<;>simp -implicitDefEqProofs [qg,u1,u2,u3,eq_true g1,eq_true g2,h1,h2]
 by_cases h2:b.kind=2;·by_cases h3:iw b.a=true<;>simp -implicitDefEqProofs [qg,u1,u2,u3,eq_true g1,eq_true g2,h2,h3]
 by_cases h3:b.kind=3;·by_cases h4:en b.a=true<;>simp -implicitDefEqProofs [qg,u1,u2,u3,eq_true g1,eq_true g2,h3,h4]
 simp -implicitDefEqProofs [qg,u1,u2,u3,eq_true g1,eq_true g2,h1,h2,h3];all_goals (repeat' split)<;>first|rfl|omega|(simp_all;done)|(simp_all;omega)|skip
def I4(b:Bn)(hb:aT b<=1073741824):ev LI TT 105 [.agg (ck b)]=some (.bool ((dF b)),[.dead]):=by
 rw[ay (b:=pO) (rs:=[.t 2]) (n:=1) rfl rfl];have hw:aT b=b.a.length+b.b.length:=rfl;unfold dF;have u1:=OS b.a (by omega);try simp at u1
 have u2:=I7 b.a (by omega);try simp at u2
 have u3:=I8 b.b (by omega);try simp at u3
 by_cases g1:0<=b.t;rotate_left;·simp -implicitDefEqProofs [pO,u1,u2,u3,eq_false g1]
 by_cases g2:b.t<=1000000;rotate_left;·simp -implicitDefEqProofs [pO,u1,u2,u3,eq_true g1,eq_false g2]
 by_cases h1:b.kind=1;·by_cases h2:iw b.a=true<;>simp -implicitDefEqProofs [pO,u1,u2,u3,eq_true g1,eq_true g2,h1,h2]
 by_cases h2:b.kind=2;·by_cases h3:iw b.a=true<;>simp -implicitDefEqProofs [pO,u1,u2,u3,eq_true g1,eq_true g2,h2,h3]
 by_cases h3:b.kind=3;·by_cases h4:en b.a=true<;>simp -implicitDefEqProofs [pO,u1,u2,u3,eq_true g1,eq_true g2,h3,h4]
 simp -implicitDefEqProofs [pO,u1,u2,u3,eq_true g1,eq_true g2,h1,h2,h3];all_goals (repeat' split)<;>first|rfl|omega|(simp_all;done)|(simp_all;omega)|skip
@[simp] def akG(t:Int):ev LI TT 183 [.int .i64 t]=some (.bool ((decide (0<=t/\t<=19))),[.dead]):=by rw[ay (b:=Fg) (rs:=[.t 2]) (n:=1) rfl rfl];simp -implicitDefEqProofs [Fg];all_goals (repeat' split)<;>first|rfl|omega|(simp_all;done)|(simp_all;omega)|skip
@[simp] def akH(t:Int):ev LI TT 106 [.int .i64 t]=some (.bool ((decide (5<=t/\t<=19))),[.dead]):=by rw[ay (b:=Fh) (rs:=[.t 2]) (n:=1) rfl rfl];simp -implicitDefEqProofs [Fh];all_goals (repeat' split)<;>first|rfl|omega|(simp_all;done)|(simp_all;omega)|skip
def VT(d:aQ)(hb:d.pending.length<=9223372036854775807):aI (aj (ev LI TT) (aq TT) BO) [(1,.ptr .own (bU .af d)),(3,.int .i64 0)]=if aX ni (d.pending)=true then some (.exit 0,[(1,.ptr .own (bU .af d)),(3,.int .i64 (d.pending).length),(8,.bool false)]) else some (.ret,[(2,.bool false)]):=by
 refine gB (f:=aj (ev LI TT) (aq TT) BO) (d.pending) (λi=>[(1,.ptr .own (bU .af d)),(3,.int .i64 i)]) ni _ _ (λi b hi hl=>?_) ?_;·have hw:=aU i (by first|omega|(simp at hl;omega));obtain⟨_,rfl⟩:=aL.1 hi;simp -implicitDefEqProofs [BO,L1,hl,hw,ni];all_goals (repeat' split)<;>first|rfl|omega|(simp_all;done)|(simp_all;omega)|skip
 ·simp -implicitDefEqProofs [BO,L1]
def tJ(d:aQ)(hb:d.pending.length<=9223372036854775807):ev LI TT 100 [.agg (bU .af d)]=some (.bool ((bJ d)),[.dead]):=by
 rw[ay (b:=F8) (rs:=[.t 2]) (n:=1) rfl rfl];unfold bJ;have u1:=VT d hb;try simp at u1
 simp -implicitDefEqProofs [F8,u1];all_goals (repeat' split)<;>first|rfl|omega|(simp_all;done)|(simp_all;omega)|skip
def Vt(d:aQ)(hb:d.pending.length<=9223372036854775807):aI (aj (ev LI TT) (aq TT) AF) [(1,.ptr .own (bU .af d)),(5,.ax 1 [] 0 1),(6,.row .af 2 (d.pending.map eW)),(7,.int .i64 d.pending.length),(8,.int .i64 0)]=if aX ni (d.pending)=true then some (.exit 0,[(1,.ptr .own (bU .af d)),(5,.ax 1 [] 0 1),(6,.row .af 2 (d.pending.map eW)),(7,.int .i64 d.pending.length),(8,.int .i64 (d.pending).length),(9,.bool false)]) else some (.ret,[(2,.bool false)]):=by
 refine gB (f:=aj (ev LI TT) (aq TT) AF) (d.pending) (λi=>[(1,.ptr .own (bU .af d)),(5,.ax 1 [] 0 1),(6,.row .af 2 (d.pending.map eW)),(7,.int .i64 d.pending.length),(8,.int .i64 i)]) ni _ _ (λi b hi hl=>?_) ?_;·have hw:=aU i (by first|omega|(simp at hl;omega));obtain⟨_,rfl⟩:=aL.1 hi;simp -implicitDefEqProofs [AF,KA,hl,hw,ni];all_goals (repeat' split)<;>first|rfl|omega|(simp_all;done)|(simp_all;omega)|skip
 ·simp -implicitDefEqProofs [AF,KA]
def I5(d:aQ)(hb:d.pending.length<=9223372036854775807):ev LI TT 107 [.agg (bU .af d)]=some (.bool ((bJ d)),[.dead]):=by
 rw[ay (b:=ER) (rs:=[.t 2]) (n:=1) rfl rfl];unfold bJ;have u1:=Vt d hb;try simp at u1
 simp -implicitDefEqProofs [ER,u1];all_goals (repeat' split)<;>first|rfl|omega|(simp_all;done)|(simp_all;omega)|skip
end M
namespace M
open Go
def Wt(s:ag)(hb:s.length<=1073741824)(g:List ag×Nat)(hinv:g.2<=0/\g.1.length<=0):aI (aj (ev LI TT) (aq TT) vt) [(0,.str ⟨s.toArray⟩),(3,.row .own 1 ((g).1.map eS)),(4,.int .i64 ((g).2:Nat)),(5,.int .i64 0)]=some (.exit 0,[(0,.str ⟨s.toArray⟩),(3,.row .own 1 (((foldI (fW 32 (λw=>[w]) s) 0 (s.map some++[none]) g)).1.map eS)),(4,.int .i64 (((foldI (fW 32 (λw=>[w]) s) 0 (s.map some++[none]) g)).2:Nat)),(5,.int .i64 (s.map some++[none]).length),(10,.bool false)]):=by
 refine gT (f:=aj (ev LI TT) (aq TT) vt) (s.map some++[none]) (λi (g:List ag×Nat)=>[(0,.str ⟨s.toArray⟩),(3,.row .own 1 ((g).1.map eS)),(4,.int .i64 ((g).2:Nat)),(5,.int .i64 i)]) (fW 32 (λw=>[w]) s) (λg=>[(0,.str ⟨s.toArray⟩),(3,.row .own 1 ((g).1.map eS)),(4,.int .i64 ((g).2:Nat)),(5,.int .i64 (s.map some++[none]).length),(10,.bool false)]) (λi (g:List ag×Nat)=>g.2<=i/\g.1.length<=i) g hinv (λi b g hi hl hinv=>?_) (λi b g hi hinv=>?_) (λg hinv=>?_)
 ·have hw:=aU i (by first|omega|(simp at hl;omega));obtain⟨_,rfl⟩:=aL.1 hi;have hlz:(g.1.length+1)*16<=140737488355328:=by simp at hl;omega
  have z8:∀b:UInt8,((b.toNat:Int)=32)↔b=32:=λb=>⟨λh=>td.1 (by have e:(32:UInt8).toNat=32:=rfl;omega),λh=>by subst h;rfl⟩;rcases SM s i hl with ⟨hi',e⟩|⟨rfl,e⟩
  ·rw[e];have k1:(i:Int)<=s.length:=by omega
   have k2:i<=s.length:=by omega
   have k3:¬i=s.length:=by omega
   have k4:¬(i:Int)=s.length:=by omega
   by_cases hx:s[i]=32;rotate_left;·have hx':=mt (z8 s[i]).1 hx;simp -implicitDefEqProofs [vt,CB,k1,k2,k3,k4,hi',hw,fW,hx,hx']
   have hx':=(z8 s[i]).2 hx;have e3:(s.take i).drop g.2=(s.drop g.2).take (i - g.2):=y7 ..;simp -implicitDefEqProofs [vt,CB,k1,k2,k3,k4,hi',hw,fW,eq_true hx,hx',hinv,Lib.extract_mk,e3,bY,hlz]
  rw[e];have e3:(s.take s.length).drop g.2=(s.drop g.2).take (s.length - g.2):=y7 ..;simp only[fW,e3];simp -implicitDefEqProofs [vt,CB,hl,hw,hinv,Lib.extract_mk,bY,hlz]
 ·exact QH 32 (λw=>[w]) (λ_=>eC 1) s i g b hinv
 ·have Kc:¬((s.length:Int)+1<=s.length):=by omega
  simp -implicitDefEqProofs [vt,CB,Kc]
def wh(s:ag)(hb:s.length<=1073741824):ev LI TT 210 [.str ⟨s.toArray⟩]=some (.row .own 1 ((bp 32 s).map eS),[.dead]):=by rw[ay (b:=Hg) (rs:=[.t 2]) (n:=1) rfl rfl];have u1:=Wt s hb ([],0) ⟨by omega,by simp⟩;rw[Qs,List.flatMap_singleton' (bp 32 s)] at u1;simp at u1;simp -implicitDefEqProofs [Hg,u1];all_goals (repeat' split)<;>first|rfl|omega|(simp_all;done)|(simp_all;omega)|skip
def PD(c:UInt8):∀(s:ag) (k:Nat),(dH (λb=>decide ((b.toNat:Int)=c.toNat)) k s).map (λx=>(x.1 - k))=(cE c s).map λp=>p.1.length
 |[],k=>rfl
 |b::s,k=>by
  have hb:((b.toNat:Int)=c.toNat)↔b=c:=⟨λh=>td.1 (by omega),λh=>by subst h;rfl⟩;unfold dH cE;by_cases h:b=c;·simp[hb,h]
  ·have ih:=PD c s (k+1);simp only[hb,h,NI,fA,dQ];cases hf:dH (λb=>decide ((b.toNat:Int)=c.toNat)) (k+1) s with
   |none=>
    rw[hf] at ih;cases hc:cE c s with
    |none=>rfl
    |some p=>rw[hc] at ih;simp at ih
   |some x=>
    rw[hf] at ih;cases hc:cE c s with
    |none=>rw[hc] at ih;simp at ih
    |some p=>rw[hc] at ih;have hx:=(wD (i:=x.1) (b:=x.2) hf).1;simp at ih⊢;omega
def DO{c:UInt8}:∀{s:ag} {p:ag×ag},cE c s=some p->s=p.1++c::p.2
 |[],p,h=>by cases h
 |b::s,p,h=>by
  unfold cE at h;split at h;·rename_i hb;cases h;simp[hb]
  ·cases hc:cE c s with
   |none=>rw[hc] at h;cases h
   |some q=>rw[hc] at h;cases h;simp[<-DO hc]
def Wh(s:ag)(k:Nat)(hk:k<=s.length)(hb:s.length<=1073741824):aI (aj (ev LI TT) (aq TT) Cg) [(0,.str ⟨s.toArray⟩),(1,.int .i64 (k:Nat)),(6,.int .i64 ((k+0:Nat):Int))]=(dH (λb=>decide ((b.toNat:Int)=(10:UInt8).toNat)) 0 (s.drop k)).elim (some (.exit 0,[(0,.str ⟨s.toArray⟩),(1,.int .i64 (k:Nat)),(6,.int .i64 ((k+(s.drop k).length:Nat):Int)),(11,.bool false)])) λx=>some (.ret,(λ(i:Nat) b=>[(4,.str ⟨((s.drop k).take i).toArray⟩),(5,.int .i64 ((k+i+1:Nat):Int))]) x.1 x.2):=by
 refine Bk (f:=aj (ev LI TT) (aq TT) Cg) (s.drop k) (λi=>[(0,.str ⟨s.toArray⟩),(1,.int .i64 (k:Nat)),(6,.int .i64 ((k+i:Nat):Int))]) (λb=>decide ((b.toNat:Int)=(10:UInt8).toNat)) (λ(i:Nat) b=>[(4,.str ⟨((s.drop k).take i).toArray⟩),(5,.int .i64 ((k+i+1:Nat):Int))]) _ (λi b hi hl=>?_) ?_
 ·have hw:=aU i (by simp at hl;omega);obtain⟨_,rfl⟩:=aL.1 hi;simp at hl;have h1:k+i<s.length:=by omega
  have h2:=aU (k+i) (by omega);have h3:((k+i:Nat):Int)<s.length:=by omega
  have h4:(10:UInt8).toNat=10:=rfl;have h5:(k:Int)<=((k+i:Nat):Int):=by omega
  have h6:((k+i:Nat):Int)<=s.length:=by omega
  simp at h2 h3 h5 h6;have h7:((k:Int)+(i:Int)).toNat=k+i:=by omega
  have h8:(0:Int)<=(k:Int)+(i:Int):=by omega
  have h9:(s.take (k+i)).drop k=(s.drop k).take i:=by rw[y7];congr 1;omega
  simp -implicitDefEqProofs [Cg,Mh,hl,hw,h1,h2,h3,h4,h5,h6,h7,h8,h9,Lib.extract_mk];all_goals (repeat' split)<;>first|rfl|omega|(simp_all;done)|(simp_all;omega)|skip
 ·have hz:k+(s.length - k)=s.length:=by omega
  have fE:(k:Int)+((s.length - k:Nat):Int)=s.length:=by omega
  simp -implicitDefEqProofs [Cg,Mh,hz,fE]
def xh(s:ag)(k:Nat):Int:=match cE 10 (s.drop k) with
 |some p=>((s.length - p.2.length:Nat):Int)
 |none=>-1
def xj(s:ag)(k:Nat):ag:=match cE 10 (s.drop k) with
 |some p=>p.1
 |none=>[]
def DE(s:ag)(k:Nat)(hk:k<=s.length)(hb:s.length<=1073741824):ev LI TT 209 [.str ⟨s.toArray⟩,.int .i64 (k:Int)]=some (.ak [.str ⟨(xj s k).toArray⟩,.int .i64 (xh s k)],[.dead,.dead]):=by
 rw[ay (b:=Ch) (rs:=[.t 4,.t 5]) (n:=2) rfl rfl];have hc:=PD 10 (s.drop k) 0;unfold xj xh;have u1:=Wh s k hk hb;try simp at u1
 cases g:dH (λb:UInt8=>decide ((b.toNat:Int)=10)) 0 (s.drop k) with
 |none=>
  have h4:(10:UInt8).toNat=10:=rfl;rw[h4] at hc;simp only[Int.cast_ofNat_Int] at hc;rw[g] at u1 hc;cases hq:cE 10 (s.drop k) with
  |some p=>rw[hq] at hc;simp at hc
  |none=>simp at u1;simp -implicitDefEqProofs [Ch,u1]
 |some x=>
 have h4:(10:UInt8).toNat=10:=rfl;rw[h4] at hc;simp only[Int.cast_ofNat_Int] at hc;rw[g] at u1 hc;cases hq:cE 10 (s.drop k) with
 |none=>rw[hq] at hc;simp at hc
 |some p=>
 rw[hq] at hc;have he:=DO hq;have hx:x.1=p.1.length:=by simpa using hc
 have ht:(s.drop k).take x.1=p.1:=by rw[hx,he];simp
 have hl:=dr List.length he;simp at hl;have hn:((s.length - p.2.length:Nat):Int)=((k+x.1+1:Nat):Int):=by omega
 simp only[Option.elim,ht] at u1;try simp at u1
 simp -implicitDefEqProofs [Ch,u1,hn];all_goals (repeat' split)<;>first|rfl|omega|(simp_all;done)|(simp_all;omega)|skip
def tS{s:ag}{p:ag×ag}(h:cE 10 s=some p):p.2.length<s.length/\s.drop (s.length - p.2.length)=p.2/\p.1.length<s.length:=by
 have he:=DO h;have hl:=dr List.length he;simp at hl;refine⟨by omega,?_,by omega⟩;have:s.length - p.2.length=(p.1++[10]).length:=by simp;omega
 rw[this,he];have e:p.1++10::p.2=(p.1++[10])++p.2:=by simp
 rw[e,vL]
end M
set_option maxHeartbeats 4000000
namespace M
open Go
def nA:ag:=[112,97,116,104]
def nw:ag:=[98,101,108,111,119]
def ny:ag:=[102,105,101,108,100]
def kJ(k:Int):ag:=if k=1 then nA else if k=2 then nw else ny
def pU(w:ag):Int:=if w=nA then 1 else if w=nw then 2 else if w=ny then 3 else 0
def dZ(b:Bn):ag:=if dF b=true then [98,97,110]++32::(kJ b.kind++32::(cV b.t++32::(b.a++if b.kind=3 then 10::b.b else []))) else []
def Ox{b:Bn}(h:dF b=true):b.kind=1\/b.kind=2\/b.kind=3:=by
 unfold dF at h;by_cases h1:b.kind=1;·exact Or.inl h1
 by_cases h2:b.kind=2;·exact Or.inr (Or.inl h2)
 by_cases h3:b.kind=3;·exact Or.inr (Or.inr h3)
 simp[h1,h2,h3] at h
def Uv(k:Int):(kJ k).length<=5:=by unfold kJ;(repeat' split)<;>simp[nA,nw,ny]
def Dy(k:Int)(hk:k=1\/k=2\/k=3):ev LI TT 253 [.int .i64 k]=some (.str ⟨(kJ k).toArray⟩,[.dead]):=by
 rw[ay (b:=Fa) (rs:=[.t 2]) (n:=1) rfl rfl];rcases hk with rfl|rfl|rfl;all_goals
 simp -implicitDefEqProofs [Fa,kJ,nA,nw,ny,cQ,cK,cL,bX];all_goals (repeat' split)<;>first|rfl|omega|(simp_all;done)|(simp_all;omega)|skip
def I9(b:Bn)(hb:aT b<=1073741824):ev LI TT 126 [.agg (ck b)]=some (.str ⟨(dZ b).toArray⟩,[.dead]):=by
 rw[ay (b:=BL) (rs:=[.t 2]) (n:=1) rfl rfl];obtain⟨kd,a0,b0,t0⟩:=b;have hw:aT ⟨kd,a0,b0,t0⟩=a0.length+b0.length:=rfl;have l1:=n9 t0;unfold dZ;have u1:=Dz ⟨kd,a0,b0,t0⟩ hb;try simp at u1
 have u2:=qV t0;try simp at u2
 by_cases g:dF ⟨kd,a0,b0,t0⟩=true;rotate_left;·simp -implicitDefEqProofs [BL,u1,u2,g]
 rw[g] at u1;rcases Ox g with h|h|h;all_goals simp only at h
 all_goals subst h
 all_goals
 simp -implicitDefEqProofs [BL,u1,u2,g,kJ,nA,nw,ny,cQ,cK,cL,bX,fq,LU];all_goals (try simp only[*,not_false_eq_true,dQ,mD])
 all_goals (repeat rw[au (by omega)])
 all_goals (try simp)
 all_goals first|done|omega|(refine⟨by omega,by omega,?_⟩;rw[show (⟨#[10]⟩:ByteArray)=⟨([10]:ag).toArray⟩ from rfl,fq,fq];simp;done)|skip
def Xv(b:Bn)(hb:aT b<=1073741824):ev LI TT 219 [.agg (ck b)]=some (.str ⟨(dZ b).toArray⟩,[.dead]):=by
 rw[ay (b:=AE) (rs:=[.t 2]) (n:=1) rfl rfl];obtain⟨kd,a0,b0,t0⟩:=b;have hw:aT ⟨kd,a0,b0,t0⟩=a0.length+b0.length:=rfl;have l1:=n9 t0;have l2:=Uv kd;unfold dZ;have u1:=I4 ⟨kd,a0,b0,t0⟩ hb;try simp at u1
 have u2:=Dx t0;try simp at u2
 by_cases g:dF ⟨kd,a0,b0,t0⟩=true;rotate_left;·simp -implicitDefEqProofs [AE,u1,u2,g]
 rw[g] at u1;have u3:=Dy kd (Ox g);try simp at u3
 by_cases h:kd=3;all_goals (try subst h)
 all_goals
 simp -implicitDefEqProofs [AE,u1,u2,u3,g,fq];all_goals (try simp only[*,not_false_eq_true,dQ,mD])
 all_goals (repeat rw[au (by omega)])
 all_goals (try simp)
 all_goals first|done|omega|(refine⟨by omega,by omega,?_⟩;rw[show (⟨#[10]⟩:ByteArray)=⟨([10]:ag).toArray⟩ from rfl,fq,fq];simp;done)|skip
end M
set_option maxHeartbeats 4000000
namespace M
open Go
def fk:List ag:=[nA,nw,ny]
def rW(w:ag)(i:Nat)(g:Int)(b:ag):Int:=if b=w then ((1+i:Nat):Int) else g
def RQ(w:ag):foldI (rW w) 0 fk 0=pU w:=by
 unfold pU rW;simp only[fk,foldI];by_cases h1:w=nA;·subst h1;rfl
 by_cases h2:w=nw;·subst h2;rfl
 by_cases h3:w=ny;·subst h3;rfl
 simp[h1,h2,h3,vH h1,vH h2,vH h3,eq_comm (b:=w)]
def VP(s w0 w1 w2 w3 v:ag)(g:Int)(hinv:True):aI (aj (ev LI TT) (aq TT) BK) [(0,.str ⟨s.toArray⟩),(2,.ptr .own [.int .i64 0,.str ⟨#[]⟩,.str ⟨#[]⟩,.int .i64 0]),(6,.ptr .own [.int .i64 g,.str ⟨#[]⟩,.str ⟨v.toArray⟩,.int .i64 0]),(7,.row .own 1 ([w0,w1,w2,w3].map eS)),(8,.row .own 1 (([]::fk).map eS)),(9,.int .i64 ((1+0:Nat):Int))]=some (.exit 0,[(0,.str ⟨s.toArray⟩),(2,.ptr .own [.int .i64 0,.str ⟨#[]⟩,.str ⟨#[]⟩,.int .i64 0]),(6,.ptr .own [.int .i64 (foldI (rW w1) 0 (fk) g),.str ⟨#[]⟩,.str ⟨v.toArray⟩,.int .i64 0]),(7,.row .own 1 ([w0,w1,w2,w3].map eS)),(8,.row .own 1 (([]::fk).map eS)),(9,.int .i64 4),(33,.bool false)]):=by
 refine gT (f:=aj (ev LI TT) (aq TT) BK) (fk) (λi (g:Int)=>[(0,.str ⟨s.toArray⟩),(2,.ptr .own [.int .i64 0,.str ⟨#[]⟩,.str ⟨#[]⟩,.int .i64 0]),(6,.ptr .own [.int .i64 g,.str ⟨#[]⟩,.str ⟨v.toArray⟩,.int .i64 0]),(7,.row .own 1 ([w0,w1,w2,w3].map eS)),(8,.row .own 1 (([]::fk).map eS)),(9,.int .i64 ((1+i:Nat):Int))]) (rW w1) (λg=>[(0,.str ⟨s.toArray⟩),(2,.ptr .own [.int .i64 0,.str ⟨#[]⟩,.str ⟨#[]⟩,.int .i64 0]),(6,.ptr .own [.int .i64 g,.str ⟨#[]⟩,.str ⟨v.toArray⟩,.int .i64 0]),(7,.row .own 1 ([w0,w1,w2,w3].map eS)),(8,.row .own 1 (([]::fk).map eS)),(9,.int .i64 4),(33,.bool false)]) (λi (g:Int)=>True) g hinv (λi b g hi hl hinv=>?_) (λi b g hi hinv=>?_) (λg hinv=>?_)
 ·have hw:=aU i (by simp[fk] at hl;omega);obtain⟨_,rfl⟩:=aL.1 hi;have h3:i=0\/i=1\/i=2:=by simp[fk] at hl;omega
  by_cases hq:fk[i]=w1;all_goals rcases h3 with rfl|rfl|rfl
  all_goals simp only[fk,Iv,NX] at hq
  all_goals
  simp -implicitDefEqProofs [BK,LS,hl,hw,rW,hq,fk,bX]
 ·trivial
 ·simp -implicitDefEqProofs [BK,LS,fk]
def Vs(s w0 w1 w2 w3 v:ag)(is:Bool)(n:Int)(g:Int)(hinv:True):aI (aj (ev LI TT) (aq TT) AD) [(0,.str ⟨s.toArray⟩),(2,.ptr .own [.int .i64 0,.str ⟨#[]⟩,.str ⟨#[]⟩,.int .i64 0]),(7,.row .own 1 ([w0,w1,w2,w3].map eS)),(9,.bool is),(10,.ptr .own [.int .i64 g,.str ⟨w3.toArray⟩,.str ⟨v.toArray⟩,.int .i64 n]),(11,.int .i64 ((1+0:Nat):Int))]=some (.exit 0,[(0,.str ⟨s.toArray⟩),(2,.ptr .own [.int .i64 0,.str ⟨#[]⟩,.str ⟨#[]⟩,.int .i64 0]),(7,.row .own 1 ([w0,w1,w2,w3].map eS)),(9,.bool is),(10,.ptr .own [.int .i64 (foldI (rW w1) 0 (fk) g),.str ⟨w3.toArray⟩,.str ⟨v.toArray⟩,.int .i64 n]),(11,.int .i64 4),(38,.bool false)]):=by
 refine gT (f:=aj (ev LI TT) (aq TT) AD) (fk) (λi (g:Int)=>[(0,.str ⟨s.toArray⟩),(2,.ptr .own [.int .i64 0,.str ⟨#[]⟩,.str ⟨#[]⟩,.int .i64 0]),(7,.row .own 1 ([w0,w1,w2,w3].map eS)),(9,.bool is),(10,.ptr .own [.int .i64 g,.str ⟨w3.toArray⟩,.str ⟨v.toArray⟩,.int .i64 n]),(11,.int .i64 ((1+i:Nat):Int))]) (rW w1) (λg=>[(0,.str ⟨s.toArray⟩),(2,.ptr .own [.int .i64 0,.str ⟨#[]⟩,.str ⟨#[]⟩,.int .i64 0]),(7,.row .own 1 ([w0,w1,w2,w3].map eS)),(9,.bool is),(10,.ptr .own [.int .i64 g,.str ⟨w3.toArray⟩,.str ⟨v.toArray⟩,.int .i64 n]),(11,.int .i64 4),(38,.bool false)]) (λi (g:Int)=>True) g hinv (λi b g hi hl hinv=>?_) (λi b g hi hinv=>?_) (λg hinv=>?_)
 ·have hw:=aU i (by simp[fk] at hl;omega);obtain⟨_,rfl⟩:=aL.1 hi;have h3:i=0\/i=1\/i=2:=by simp[fk] at hl;omega
  have b1:=Dy 1 (by omega);have b2:=Dy 2 (by omega);have b3:=Dy 3 (by omega);simp only[kJ,cY,show ¬((2:Int)=1) by omega,show ¬((3:Int)=1) by omega,show ¬((3:Int)=2) by omega,dQ] at b1 b2 b3;try simp at b1
  try simp at b2
  try simp at b3
  by_cases hq:fk[i]=w1;all_goals rcases h3 with rfl|rfl|rfl
  all_goals simp only[fk,Iv,NX] at hq
  all_goals
  simp -implicitDefEqProofs [AD,Kz,hl,hw,rW,hq,fk,bX,b1,b2,b3]
 ·trivial
 ·simp -implicitDefEqProofs [AD,Kz,fk]
def zB:Bn:=⟨0,[],[],0⟩
def iW(s:ag):ag×ag:=match cE 10 s with
 |some p=>p
 |none=>(s,[])
def tG(s v:ag)(ws:List ag):Bn×Bool:=match ws with
 |[_,w,t,a]=>if dZ ⟨pU w,a,v,((bx t).getD 0:Nat)⟩=s then (⟨pU w,a,v,((bx t).getD 0:Nat)⟩,true) else (zB,false)
 |_=>(zB,false)
def gv(s:ag):Bn×Bool:=tG s (iW s).2 (bp 32 (iW s).1)
def Oy{s v:ag}{ws:List ag}(h:ws.length≠4):tG s v ws=(zB,false):=by
 unfold tG;split;·simp at h
 ·rfl
def Fz{ws:List ag}(h:ws.length=4):∃a b c d,ws=[a,b,c,d]:=by
 match ws,h with
 |[a,b,c,d],_=>exact⟨a,b,c,d,rfl⟩
def Ow(s:ag):(iW s).1.length<=s.length/\(iW s).2.length<=s.length:=by
 unfold iW;cases h:cE 10 s with
 |none=>simp
 |some p=>have:=dr List.length (DO h);simp at this⊢;omega
def PC:∀(p r:ag),(∀b∈p,b≠10)->cE 10 (p++r)=(cE 10 r).map λq=>(p++q.1,q.2)
 |[],r,_=>by simp
 |b::p,r,h=>by rw[fR,cE,aC (h b (bq ..)),PC p r λx hx=>h x (bO _ hx)];cases cE 10 r<;>simp
def Xc(p r:ag)(h:∀b∈p,b≠10):(iW (p++r)).1=p++(iW r).1:=by unfold iW;rw[PC p r h];cases cE 10 r<;>simp
def MK(w r:ag)(h:∀b∈w,b≠32):bp 32 (w++32::r)=w::bp 32 r:=by rw[CD 32 w _ h];simp[bp]
def Uw(k:Int):∀b∈kJ k,b≠32/\b≠10:=by unfold kJ;(repeat' split)<;>simp[nA,nw,ny]
def Xm{s w0 w1 w2 w3 v a:ag}{k:Int}(h:dZ ⟨k,a,v,0⟩=s)(hs:bp 32 (iW s).1=[w0,w1,w2,w3]):bx w2≠none\/s=[]:=by
 unfold dZ at h;split at h
 ·left;have e:cV 0=[48]:=by simp[cV,DU]
  rw[e] at h;simp only at h;have e2:s=([98,97,110,32]++(kJ k++[32,48,32]))++(a++if k=3 then 10::v else []):=by rw[<-h];simp
  rw[e2,Xc _ _ (by intro b hb;simp at hb;rcases hb with rfl|rfl|rfl|rfl|hb|rfl|rfl|rfl<;>first|decide|exact(Uw k b hb).2)] at hs;have e3:[98,97,110,32]++(kJ k++[32,48,32])++(iW (a++if k=3 then 10::v else [])).1=[98,97,110]++32::(kJ k++32::([48]++32::(iW (a++if k=3 then 10::v else [])).1)):=by simp
  rw[e3,MK _ _ (by decide),MK _ _ (λb hb=>(Uw k b hb).1),MK _ _ (by decide)] at hs;simp only[vK] at hs;obtain⟨_,_,rfl,_⟩:=hs;simp[bx,lB,DU]
 ·right;exact h.symm
def XY(s:ag)(hb:s.length<=1048576):ev LI TT 208 [.str ⟨s.toArray⟩]=some (.ak [.agg (ck ((gv s).1)),.bool ((gv s).2)],[.dead]):=by
 rw[ay (b:=qh) (rs:=[.c 2 4 true 83,.t 3]) (n:=1) rfl rfl];have u1:=DE s 0 (by omega) (by omega);have bl:=Ow s;simp only[xj,xh,Iq] at u1;unfold gv
 have hX:∃l v e,iW s=(l,v)/\((e=-1/\v=[]/\l=s/\ev LI TT 209 [.str ⟨s.toArray⟩,.int .i64 0]=some (.ak [.str ⟨#[]⟩,.int .i64 (-1)],[.dead,.dead]))\/(∃m:Nat,e=(m:Int)/\m<=s.length/\s.length - m=v.length/\s.drop m=v/\ev LI TT 209 [.str ⟨s.toArray⟩,.int .i64 0]=some (.ak [.str ⟨l.toArray⟩,.int .i64 m],[.dead,.dead]))):=by
  unfold iW;cases hc:cE 10 s with
  |none=>rw[hc] at u1;exact⟨s,[],-1,rfl,Or.inl ⟨rfl,rfl,rfl,by simpa using u1⟩⟩
  |some p=>obtain⟨l,v⟩:=p;rw[hc] at u1;obtain⟨d1,d2,d3⟩:=tS hc;exact⟨l,v,_,rfl,Or.inr ⟨s.length - v.length,rfl,by omega,by simp only at d1;omega,d2,by simpa using u1⟩⟩
 clear u1;obtain⟨l,v,e,he,hX⟩:=hX;rw[he] at bl⊢;simp only at bl⊢;have u2:=wh l (by omega);have hm:=oH 32 l;by_cases h4:(bp 32 l).length=4;rotate_left
 ·rw[Oy h4];have rD:¬(((bp 32 l).length:Int)=4):=by omega
  try simp at u2
  rcases hX with ⟨rfl,rfl,rfl,u1⟩|⟨m,rfl,k1,k2,k3,u1⟩;·simp -implicitDefEqProofs [qh,u1,u2,rD,zB]
  ·have k4:¬((m:Int)<0):=by omega
   have k5:(m:Int)<=s.length:=by omega
   simp -implicitDefEqProofs [qh,u1,u2,rD,zB,k1,k2,k3,k4,k5,Lib.extract_mk]
 obtain⟨w0,w1,w2,w3,hw⟩:=Fz h4;rw[hw] at u2 hm⊢;have u3:=vZ w2 (by have:=hm w2 (by simp);omega);have u4:=I9 ⟨pU w1,w3,v,((bx w2).getD 0:Nat)⟩ (by have:=hm w3 (by simp);simp only[aT];omega);have u5:=VP s w0 w1 w2 w3 v 0 trivial;rw[RQ] at u5;obtain⟨n,hn⟩:∃n,(bx w2).getD 0=n:=⟨_,rfl⟩;unfold tG;simp only[hn] at u3 u4⊢;simp[fk,nA,nw,ny] at u2 u3 u4 u5;by_cases g:dZ ⟨pU w1,w3,v,(n:Int)⟩=s;all_goals rcases hX with ⟨rfl,rfl,rfl,u1⟩|⟨m,rfl,k1,k2,k3,u1⟩
 ·simp -implicitDefEqProofs [qh,u1,u2,u3,u4,u5,eq_true g,zB]
 ·have k4:¬((m:Int)<0):=by omega
  have k5:(m:Int)<=s.length:=by omega
  simp -implicitDefEqProofs [qh,u1,u2,u3,u4,u5,eq_true g,zB,k1,k2,k3,k4,k5,Lib.extract_mk]
 ·simp -implicitDefEqProofs [qh,u1,u2,u3,u4,u5,eq_false g,zB]
 have k4:¬((m:Int)<0):=by omega
 have k5:(m:Int)<=s.length:=by omega
 simp -implicitDefEqProofs [qh,u1,u2,u3,u4,u5,eq_false g,zB,k1,k2,k3,k4,k5,Lib.extract_mk];all_goals (repeat' split)<;>first|rfl|omega|(simp_all;done)|(simp_all;omega)|skip
def Xu(s:ag)(hb:s.length<=1048576):ev LI TT 243 [.str ⟨s.toArray⟩]=some (.ak [.agg (ck ((gv s).1)),.bool ((gv s).2)],[.dead]):=by
 rw[ay (b:=uo) (rs:=[.c 2 4 true 83,.t 3]) (n:=1) rfl rfl];have u1:=wj s [10] (by omega);have ec:=DR 10 s;have bl:=Ow s;unfold gv
 have hX:∃l v k,iW s=(l,v)/\ev LI TT 271 [.str ⟨s.toArray⟩,.str ⟨#[10]⟩]=some (.ak [.str ⟨l.toArray⟩,.str ⟨v.toArray⟩,.bool k],[.dead,.dead]):=by
  unfold iW;cases hc:cE 10 s with
  |none=>rw[hc] at ec;simp only at ec;rw[ec] at u1;exact⟨s,[],_,rfl,u1⟩
  |some p=>rw[hc] at ec;simp only at ec;rw[ec] at u1;exact⟨p.1,p.2,_,rfl,u1⟩
 clear u1 ec;obtain⟨l,v,k,he,u1⟩:=hX;have hz:=λw0 w1 w2 w3 v a k=>Xm (s:=s) (w0:=w0) (w1:=w1) (w2:=w2) (w3:=w3) (v:=v) (a:=a) (k:=k);rw[he] at bl hz⊢;simp only at bl hz⊢;have u2:=tL l 32 (by omega);have hm:=oH 32 l;by_cases h4:(bp 32 l).length=4;rotate_left
 ·rw[Oy h4];have rD:¬(((bp 32 l).length:Int)=4):=by omega
  try simp at u2
  simp -implicitDefEqProofs [uo,u1,u2,rD,zB]
 obtain⟨w0,w1,w2,w3,hw⟩:=Fz h4;rw[hw] at u2 hm hz⊢;have u3:=zy w2 (by have:=hm w2 (by simp);omega);have u4:=Xv ⟨pU w1,w3,v,((bx w2).getD 0:Nat)⟩ (by have:=hm w3 (by simp);simp only[aT];omega);have u5:=Vs s w0 w1 w2 w3 v (bx w2).isSome ((bx w2).getD 0:Nat) 0 trivial;rw[RQ] at u5;unfold tG;cases hn:bx w2 with
 |none=>
  rw[hn] at u3 u4 u5
  have g:¬dZ ⟨pU w1,w3,v,0⟩=s:=by
   intro g;rcases hz _ _ _ _ _ _ _ g rfl with h|h;·exact h hn
   ·subst h;rw[show iW []=([],[]) from rfl] at he;obtain⟨rfl,rfl⟩:=C9 he;simp[bp] at h4
  simp[fk,nA,nw,ny] at u2 u3 u4 u5 g;simp -implicitDefEqProofs [uo,u1,u2,u3,u4,u5,hn,eq_false g,zB]
 |some n=>
 rw[hn] at u3 u4 u5;simp[fk,nA,nw,ny] at u2 u3 u4 u5;by_cases g:dZ ⟨pU w1,w3,v,(n:Int)⟩=s;·simp -implicitDefEqProofs [uo,u1,u2,u3,u4,u5,hn,eq_true g,zB]
 simp -implicitDefEqProofs [uo,u1,u2,u3,u4,u5,hn,eq_false g,zB];all_goals (repeat' split)<;>first|rfl|omega|(simp_all;done)|(simp_all;omega)|skip
end M
set_option maxHeartbeats 4000000
namespace M
open Go
def afC(l:List ag)(k:Nat)(n:Nat)(h:∀s∈l,s.length<=n):(l.getD k []).length<=n:=by
 rw[iT];cases hk:l[k]? with
 |none=>simp
 |some s=>exact h s (mB hk)
def fQ(c:bA)(l:List ag)(n:Nat)(h1:0<l.length)(h2:l.length<=1000)(h:∀s∈l,s.length<=n):∃(c':bA) (s:ag),s.length<=n/\ev LI TT 151 [.ptr .own (aV c),.row .af 1 (l.map eS)]=some (.str ⟨s.toArray⟩,[.ptr .own (aV c'),.dead]):=
 ⟨_,_,afC _ _ n h,Pa c l h1 (by omega)⟩
def kK(c:bA)(m:Int)(h1:0<m)(h2:m<=9223372036854775807):∃(c':bA) (n:Int),0<=n/\n<m/\ev LI TT 110 [.ptr .own (aV c),.int .i64 m]=some (.int .i64 n,[.ptr .own (aV c'),.dead]):=
 ⟨_,_,(tH c m h1 h2).1,(tH c m h1 h2).2,zF c m h2⟩
def HX(c:bA)(m:Int)(h2:m<=9223372036854775807):∃(c':bA) (b:Bool),ev LI TT 73 [.ptr .own (aV c),.int .i64 m]=some (.bool b,[.ptr .own (aV c'),.dead]):=
 ⟨_,_,Yf c m h2⟩
def HY(c:bA)(l:List Int)(h1:0<l.length)(h2:l.length<=1000):∃(c':bA) (s:Int),s∈l/\ev LI TT 124 [.ptr .own (aV c),.row .af 1 (l.map eI)]=some (.int .i64 s,[.ptr .own (aV c'),.dead]):=by refine⟨_,_,?_,Yg c l h1 (by omega)⟩;have b:=tH c l.length (by omega) (by omega);rw[iT,cm (by omega)];exact cy _
def UC(c:bA)(t:Int):∃(c':bA) (b:Bn),aT b<=100/\ev LI TT 127 [.ptr .own (aV c),.int .i64 t]=some (.agg (ck b),[.ptr .own (aV c'),.dead]):=by
 obtain⟨c1,k,h1,h2,u1⟩:=kK c 3 (by omega) (by omega);by_cases g0:k=0;·subst g0;obtain⟨c2,s,hs,u2⟩:=fQ c1 [[47],[47,97],[47,97,47,98],[47,98]] 4 (by simp) (by simp) (by simp);refine⟨c2,⟨1,s,[],t⟩,(by simp[aT];omega),?_⟩;simp at u2;rw[ay (b:=sO) (rs:=_) (n:=2) rfl rfl];simp -implicitDefEqProofs [sO,u1,u2,cQ,cK,cL]
 by_cases g1:k=1;·subst g1;obtain⟨c2,s,hs,u2⟩:=fQ c1 [[47],[47,97],[47,98,47,99]] 4 (by simp) (by simp) (by simp);refine⟨c2,⟨2,s,[],t⟩,(by simp[aT];omega),?_⟩;simp at u2;rw[ay (b:=sO) (rs:=_) (n:=2) rfl rfl];simp -implicitDefEqProofs [sO,u1,u2,cQ,cK,cL]
 ·obtain⟨c2,s,hs,u2⟩:=fQ c1 [[101,116,97,103],[120,45,97]] 4 (by simp) (by simp) (by simp);obtain⟨c3,s3,hs3,u3⟩:=fQ c2 [[97],[98],[49]] 4 (by simp) (by simp) (by simp);refine⟨c3,⟨3,s,s3,t⟩,(by simp[aT];omega),?_⟩;simp at u2 u3;rw[ay (b:=sO) (rs:=_) (n:=2) rfl rfl];simp -implicitDefEqProofs [sO,u1,u2,u3,g0,g1,cQ,cK,cL]
def Xj(b:Bn):(dZ b).length<=aT b+30:=by
 unfold dZ;have l1:=n9 b.t;have l2:=Uv b.kind;simp only[aT];split;·split<;>simp<;>omega
 ·simp
end M
set_option maxHeartbeats 4000000
namespace M
open Go
def CM:List ag:=[[32],[44],[97],[90],[55],[45],[61],[120],[58],[1],[64],[91]]
def agO(k:Nat)(h:k<12):∃b,CM.getD k []=[b]:=by
 have:k=0\/k=1\/k=2\/k=3\/k=4\/k=5\/k=6\/k=7\/k=8\/k=9\/k=10\/k=11:=by omega
 rcases this with rfl|rfl|rfl|rfl|rfl|rfl|rfl|rfl|rfl|rfl|rfl|rfl<;>exact⟨_,rfl⟩
def ajL(c:bA):∃(c':bA) (t:ag),t.length<=100/\ev LI TT 228 [.ptr .own (aV c)]=some (.str ⟨t.toArray⟩,[.ptr .own (aV c')]):=by
 obtain⟨⟨⟨c',i⟩,out⟩,⟨hs,hi⟩,e⟩:=adW (f:=aj (ev LI TT) (aq TT) GV)
  (λ(g:(bA×Nat)×ag)=>[(0,.ax 100000 [] 0 0),(3,.row .own 1 (g.2.map eU)),(4,.int .i64 g.1.2),(100000,.ptr .own (aV g.1.1))])
  (λg=>200 - g.1.2) (λg=>g.2.length=g.1.2/\g.1.2<=20)
  (λg=>[(0,.ax 100000 [] 0 0),(3,.row .own 1 (g.2.map eU)),(4,.int .i64 g.1.2),(9,.bool false),(100000,.ptr .own (aV g.1.1))])
  (λg hg=>by
   obtain⟨⟨c,i⟩,out⟩:=g;obtain⟨h1,h2⟩:=hg;simp only at h1 h2;have b:=tH c 14 (by omega) (by omega);have e1:=zF c 14 (by omega);obtain⟨v,hv⟩:∃v,kf c 14=v:=⟨_,rfl⟩;rw[hv] at e1 b;have e2:=Pa (iY c 14) CM (by decide) (by decide);have b2:=tH (iY c 14) 12 (by omega) (by omega);obtain⟨x,hx⟩:=agO (kf (iY c 14) 12).toNat (by omega);have e3:(kf (iY c 14) CM.length)=kf (iY c 14) 12:=rfl;have e4:(iY (iY c 14) CM.length)=iY (iY c 14) 12:=rfl;rw[e3,e4,hx] at e2;simp[CM] at e2;by_cases h:(i:Int)<v;·right;have hw:=aU i (by omega);refine⟨((iY (iY c 14) 12,i+1),out++[x]),⟨by simp[h1],by simp only;omega⟩,by simp only;omega,?_⟩;simp -implicitDefEqProofs [GV,MC,e1,e2,h,hw,bY,h1,(by omega:i+1<=140737488355328)]
   ·left;refine⟨((iY c 14,i),out),⟨h1,h2⟩,?_⟩;simp -implicitDefEqProofs [GV,MC,e1,h])
  ((c,0),[]) ⟨rfl,by simp⟩
 refine⟨c',out,by simp only at hs hi;omega,?_⟩;rw[ay (b:=GW) (rs:=[.t 2]) (n:=1) rfl rfl];have hu:qE (out.map eU)=some out:=M1 out;simp only at hs hi;simp at e;simp -implicitDefEqProofs [GW,e,hu,(by omega:out.length<=9223372036854775807)]
end M
set_option maxHeartbeats 4000000
namespace M
open Go
def xk{xt:Nat}{γ:Type}{f:ah->cv}(st:γ->ah)(μ:γ->Nat)(Inv:γ->Prop)(E:γ->ah)
  (h:∀g,Inv g->(∃g',Inv g'/\f (st g)=some (.exit xt,E g'))\/∃g',Inv g'/\μ g'<μ g/\f (st g)=some (.normal,st g'))(g:γ)(hg:Inv g):∃g',Inv g'/\aI f (st g)=some (.exit xt,E g'):=by
 suffices H:∀n g,μ g=n->Inv g->∃g',Inv g'/\aI f (st g)=some (.exit xt,E g') from H _ g rfl hg
 intro n;induction n using Nat.strongRecOn with
 |ind n ih=>
  intro g hn hI;rcases h g hI with ⟨g',h1,h2⟩|⟨g',h1,h2,h3⟩;·exact⟨g',h1,by rw[cT,h2];rfl⟩
  ·obtain⟨g2,h4,h5⟩:=ih _ (by omega) g' rfl h1;exact⟨g2,h4,by rw[cT,h3];exact h5⟩
def Ut{l:List aJ}{m:Nat}(h:∀f∈l,aO f<=100)(hl:l.length<=m):wL aO l<=m*101:=by
 have:wL aO l<=l.length*101:=by
  clear hl;induction l with
  |nil=>simp[wL]
  |cons a l ih=>have h1:=ih λf hf=>h f (bO _ hf);have h2:=h a bq;simp only[wL,cu,bn,oN] at h1⊢;omega
 have:l.length*101<=m*101:=nD _ hl;omega
def ajN(c:bA):∃(c':bA) (f:aJ),aO f<=100/\ev LI TT 224 [.ptr .own (aV c)]=some (.agg (aR f),[.ptr .own (aV c')]):=by
 obtain⟨c1,k,h1,h2,u1⟩:=kK c 9 (by omega) (by omega);by_cases g0:k=0;·subst g0;obtain⟨c2,s,hs,u2⟩:=fQ c1 [[109,97,120,45,97,103,101,61,53],[109,97,120,45,97,103,101,61,50,48],[110,111,45,115,116,111,114,101],[110,111,45,99,97,99,104,101],[112,114,105,118,97,116,101],[109,97,120,45,97,103,101,61,57,44,32,109,117,115,116,45,114,101,118,97,108,105,100,97,116,101],[109,97,120,45,97,103,101,61,120],[77,65,88,45,65,71,69,61,51]] 30 (by simp) (by simp) (by simp);refine⟨c2,⟨[99,97,99,104,101,45,99,111,110,116,114,111,108],s⟩,(by simp[aO];omega),?_⟩;simp at u2;rw[ay (b:=iM) (rs:=_) (n:=1) rfl rfl];simp -implicitDefEqProofs [iM,u1,u2,cQ,cK,cL]
 by_cases g1:k=1;·subst g1;obtain⟨c2,s,hs,u2⟩:=fQ c1 [[97],[98]] 30 (by simp) (by simp) (by simp);refine⟨c2,⟨[101,116,97,103],s⟩,(by simp[aO];omega),?_⟩;simp at u2;rw[ay (b:=iM) (rs:=_) (n:=1) rfl rfl];simp -implicitDefEqProofs [iM,u1,u2,cQ,cK,cL]
 by_cases g2:k=2;·subst g2;obtain⟨c2,s,hs,u2⟩:=fQ c1 [[108,97,110,103],[108,97,110,103,44,32,107,105,110,100],[42]] 30 (by simp) (by simp) (by simp);refine⟨c2,⟨[118,97,114,121],s⟩,(by simp[aO];omega),?_⟩;simp at u2;rw[ay (b:=iM) (rs:=_) (n:=1) rfl rfl];simp -implicitDefEqProofs [iM,u1,u2,cQ,cK,cL]
 by_cases g3:k=3;·subst g3;obtain⟨c2,s,hs,u2⟩:=fQ c1 [[100,101],[101,110]] 30 (by simp) (by simp) (by simp);refine⟨c2,⟨[108,97,110,103],s⟩,(by simp[aO];omega),?_⟩;simp at u2;rw[ay (b:=iM) (rs:=_) (n:=1) rfl rfl];simp -implicitDefEqProofs [iM,u1,u2,cQ,cK,cL]
 by_cases g4:k=4;·subst g4;obtain⟨c2,s,hs,u2⟩:=fQ c1 [[120],[121]] 30 (by simp) (by simp) (by simp);refine⟨c2,⟨[107,105,110,100],s⟩,(by simp[aO];omega),?_⟩;simp at u2;rw[ay (b:=iM) (rs:=_) (n:=1) rfl rfl];simp -implicitDefEqProofs [iM,u1,u2,cQ,cK,cL]
 by_cases g5:k=5;·subst g5;obtain⟨c2,s,hs,u2⟩:=fQ c1 [[48],[51],[57,48],[120]] 30 (by simp) (by simp) (by simp);refine⟨c2,⟨[97,103,101],s⟩,(by simp[aO];omega),?_⟩;simp at u2;rw[ay (b:=iM) (rs:=_) (n:=1) rfl rfl];simp -implicitDefEqProofs [iM,u1,u2,cQ,cK,cL]
 by_cases g6:k=6;·subst g6;obtain⟨c2,s,hs,u2⟩:=fQ c1 [[97],[98]] 30 (by simp) (by simp) (by simp);refine⟨c2,⟨[105,102,45,110,111,110,101,45,109,97,116,99,104],s⟩,(by simp[aO];omega),?_⟩;simp at u2;rw[ay (b:=iM) (rs:=_) (n:=1) rfl rfl];simp -implicitDefEqProofs [iM,u1,u2,cQ,cK,cL]
 ·obtain⟨c2,s,hs,u2⟩:=fQ c1 [[120,45,97],[120,45,98],[100,97,116,101]] 30 (by simp) (by simp) (by simp);obtain⟨c3,v,hv,u3⟩:=fQ c2 [[49],[116,119,111,32,119,111,114,100,115],[113]] 30 (by simp) (by simp) (by simp);refine⟨c3,⟨s,v⟩,(by simp[aO];omega),?_⟩;simp at u2 u3;rw[ay (b:=iM) (rs:=_) (n:=1) rfl rfl];simp -implicitDefEqProofs [iM,u1,u2,u3,g0,g1,g2,g3,g4,g5,g6,cQ,cK,cL]
def ajO(c:bA):∃(c':bA) (fs:List aJ),fs.length<=5/\(∀f∈fs,aO f<=100)/\ev LI TT 223 [.ptr .own (aV c)]=some (.row .own 2 (fs.map aR),[.ptr .own (aV c')]):=by
 obtain⟨⟨⟨c',i⟩,out⟩,⟨h1,h2,h3⟩,e⟩:=xk (xt:=0) (f:=aj (ev LI TT) (aq TT) Cx)
  (λ(g:(bA×Nat)×List aJ)=>[(0,.ax 100000 [] 0 0),(3,.row .own 2 (g.2.map aR)),(4,.int .i64 g.1.2),(100000,.ptr .own (aV g.1.1))])
  (λg=>20 - g.1.2) (λg=>g.2.length<=g.1.2/\g.1.2<=5/\∀f∈g.2,aO f<=100)
  (λg=>[(0,.ax 100000 [] 0 0),(3,.row .own 2 (g.2.map aR)),(4,.int .i64 g.1.2),(10,.bool false),(100000,.ptr .own (aV g.1.1))])
  (λg hg=>by
   obtain⟨⟨c,i⟩,out⟩:=g;obtain⟨h1,h2,h3⟩:=hg;simp only at h1 h2 h3;obtain⟨c1,v,hv0,hv,e1⟩:=kK c 5 (by omega) (by omega);by_cases h:(i:Int)<v
   ·right;have hw:=aU i (by omega);obtain⟨c2,f,hf,e2⟩:=ajN c1;have e3:=wg out f.name (by omega);try simp at e2
    try simp at e3
    have h8:(out.length+1)*32<=140737488355328:=by omega
    by_cases ha:fU (fh out f.name)<0
    ·refine⟨((c2,i+1),out++[f]),⟨by simp;omega,by simp only;omega,λx hx=>?_⟩,by simp only;omega,?_⟩
     ·rcases dO.1 hx with hx|hx;·exact h3 x hx
      ·simp at hx;rw[hx];exact hf
     ·simp -implicitDefEqProofs [Cx,G8,e1,e2,e3,h,hw,ha,bY,h8]
    ·refine⟨((c2,i+1),out),⟨by simp only;omega,by simp only;omega,h3⟩,by simp only;omega,?_⟩;simp -implicitDefEqProofs [Cx,G8,e1,e2,e3,h,hw,ha,bY,h8]
   ·left;refine⟨((c1,i),out),⟨h1,h2,h3⟩,?_⟩;simp -implicitDefEqProofs [Cx,G8,e1,h])
  ((c,0),[]) ⟨by simp,by simp,by simp⟩
 refine⟨c',out,by simp only at h1 h2;omega,h3,?_⟩;rw[ay (b:=G9) (rs:=_) (n:=1) rfl rfl];simp at e;simp -implicitDefEqProofs [G9,e]
def UD(c:bA):∃(c':bA) (t:ag),t.length<=100/\ev LI TT 165 [.ptr .own (aV c)]=some (.str ⟨t.toArray⟩,[.ptr .own (aV c')]):=by
 obtain⟨c1,b,u1⟩:=HX c 2 (by omega);cases b
 ·obtain⟨c2,t,ht,u2⟩:=ajL c1;refine⟨c2,t,ht,?_⟩;try simp at u2
  rw[ay (b:=yx) (rs:=_) (n:=1) rfl rfl];simp -implicitDefEqProofs [yx,u1,u2]
 ·obtain⟨c2,t,ht,u2⟩:=fQ c1 [[],[104,101,108,108,111],[13,10,13,10],[97,0,98],[111,110,101,32,116,119,111]] 100 (by simp) (by simp) (by simp);refine⟨c2,t,ht,?_⟩;simp at u2;rw[ay (b:=yx) (rs:=_) (n:=1) rfl rfl];simp -implicitDefEqProofs [yx,u1,u2,cQ,cK,cL]
def ajQ(c:bA):∃(c':bA) (r:bP),bZ r<=2000/\bI r.status/\ev LI TT 198 [.ptr .own (aV c)]=some (.agg (jM .own r),[.ptr .own (aV c')]):=by
 obtain⟨c1,st,hst,u1⟩:=HY c [200,200,200,200,404,500,304] (by simp) (by simp);obtain⟨c2,fs,h1,h2,u2⟩:=ajO c1;obtain⟨c3,t,ht,u3⟩:=UD c2;obtain⟨c4,b,u4⟩:=HX c3 2 (by omega);have hw:=Ut h2 h1;have hs:bI st:=by unfold bI;simp at hst;omega
 try simp at u1
 try simp at u2
 try simp at u3
 cases b;·refine⟨c4,⟨st,fs,t⟩,by simp only[bZ];omega,hs,?_⟩;rw[ay (b:=yz) (rs:=_) (n:=1) rfl rfl];simp -implicitDefEqProofs [yz,u1,u2,u3,u4,cQ,cK,cL]
 ·obtain⟨c5,v,hv,u5⟩:=fQ c4 [[109,97,120,45,97,103,101,61,53],[109,97,120,45,97,103,101,61,50,48],[109,97,120,45,97,103,101,61,57]] 30 (by simp) (by simp) (by simp);have u6:=O0 fs [99,97,99,104,101,45,99,111,110,116,114,111,108] v (by omega);have hp:=S3 fs [99,97,99,104,101,45,99,111,110,116,114,111,108] v;refine⟨c5,⟨st,r9 fs [99,97,99,104,101,45,99,111,110,116,114,111,108] v,t⟩,?_,hs,?_⟩;·simp only[bZ];simp at hp;omega
  ·simp at u5;try simp at u6
   rw[ay (b:=yz) (rs:=_) (n:=1) rfl rfl];simp -implicitDefEqProofs [yz,ME,MF,u1,u2,u3,u4,u5,u6,cQ,cK,cL]
end M
set_option maxHeartbeats 8000000
namespace M
open Go
def ajP(c:bA):∃(c':bA) (q:Rq),lC q<=2000/\bI q.method/\ev LI TT 75 [.ptr .own (aV c)]=some (.agg (nM .own q),[.ptr .own (aV c')]):=by
 obtain⟨c1,m,hm,u1⟩:=HY c [1,1,1,1,2,3,4] (by simp) (by simp);obtain⟨c2,p,hp,u2⟩:=fQ c1 [[47],[47,97],[47,97,47,98],[47,98]] 10 (by simp) (by simp) (by simp);have Q4:bI m:=by unfold bI;simp at hm;omega
 obtain⟨⟨⟨c3,i⟩,out⟩,⟨h1,h2,h3⟩,e⟩:=xk (xt:=0) (f:=aj (ev LI TT) (aq TT) sV)
  (λ(g:(bA×Nat)×List aJ)=>[(0,.ax 100000 [] 0 0),(2,.ptr .own [.int .i64 0,.str ⟨#[]⟩,.row .own 2 [],.str ⟨#[]⟩]),(3,.ptr .own (nM .own ⟨m,p,g.2,[]⟩)),(4,.int .i64 g.1.2),(100000,.ptr .own (aV g.1.1))])
  (λg=>20 - g.1.2) (λg=>g.2.length<=g.1.2/\g.1.2<=4/\∀f∈g.2,aO f<=100)
  (λg=>[(0,.ax 100000 [] 0 0),(2,.ptr .own [.int .i64 0,.str ⟨#[]⟩,.row .own 2 [],.str ⟨#[]⟩]),(3,.ptr .own (nM .own ⟨m,p,g.2,[]⟩)),(4,.int .i64 g.1.2),(17,.bool false),(100000,.ptr .own (aV g.1.1))])
  (λg hg=>by
   obtain⟨⟨c,i⟩,out⟩:=g;obtain⟨h1,h2,h3⟩:=hg;simp only at h1 h2 h3;obtain⟨c1,v,hv0,hv,e1⟩:=kK c 4 (by omega) (by omega);by_cases h:(i:Int)<v
   ·right;have hw:=aU i (by omega);obtain⟨c2,f,hf,e2⟩:=fQ c1 [[108,97,110,103],[107,105,110,100],[99,97,99,104,101,45,99,111,110,116,114,111,108],[105,102,45,110,111,110,101,45,109,97,116,99,104],[120,45,97]] 20 (by simp) (by simp) (by simp);have e3:=wg out f (by omega);simp at e2;try simp at e3
    have h8:(out.length+1)*32<=140737488355328:=by omega
    by_cases ha:fU (fh out f)<0
    ·obtain⟨c3,w,dI,e4⟩:=fQ c2 [[100,101],[101,110]] 20 (by simp) (by simp) (by simp);simp at e4;by_cases g1:f=[107,105,110,100]
     ·obtain⟨c4,w2,Au,e5⟩:=fQ c3 [[120],[121]] 20 (by simp) (by simp) (by simp);simp at e5;subst g1;refine⟨((c4,i+1),out++[⟨[107,105,110,100],w2⟩]),⟨by simp;omega,by simp only;omega,λx hx=>?_⟩,by simp only;omega,?_⟩
      ·rcases dO.1 hx with hx|hx;·exact h3 x hx
       ·simp at hx;rw[hx];simp[aO];omega
      ·simp -implicitDefEqProofs [sV,vp,e1,e2,e3,e4,e5,h,hw,ha,bY,h8,cQ,cK,cL]
     by_cases g2:f=[99,97,99,104,101,45,99,111,110,116,114,111,108]
     ·obtain⟨c4,w2,Au,e5⟩:=fQ c3 [[110,111,45,99,97,99,104,101],[110,111,45,115,116,111,114,101],[109,97,120,45,97,103,101,61,51]] 20 (by simp) (by simp) (by simp);simp at e5;subst g2;refine⟨((c4,i+1),out++[⟨[99,97,99,104,101,45,99,111,110,116,114,111,108],w2⟩]),⟨by simp;omega,by simp only;omega,λx hx=>?_⟩,by simp only;omega,?_⟩
      ·rcases dO.1 hx with hx|hx;·exact h3 x hx
       ·simp at hx;rw[hx];simp[aO];omega
      ·simp -implicitDefEqProofs [sV,vp,e1,e2,e3,e4,e5,h,hw,ha,bY,h8,cQ,cK,cL]
     by_cases g3:f=[105,102,45,110,111,110,101,45,109,97,116,99,104]
     ·obtain⟨c4,w2,Au,e5⟩:=fQ c3 [[97],[98]] 20 (by simp) (by simp) (by simp);simp at e5;subst g3;refine⟨((c4,i+1),out++[⟨[105,102,45,110,111,110,101,45,109,97,116,99,104],w2⟩]),⟨by simp;omega,by simp only;omega,λx hx=>?_⟩,by simp only;omega,?_⟩
      ·rcases dO.1 hx with hx|hx;·exact h3 x hx
       ·simp at hx;rw[hx];simp[aO];omega
      ·simp -implicitDefEqProofs [sV,vp,e1,e2,e3,e4,e5,h,hw,ha,bY,h8,cQ,cK,cL]
     ·refine⟨((c3,i+1),out++[⟨f,w⟩]),⟨by simp;omega,by simp only;omega,λx hx=>?_⟩,by simp only;omega,?_⟩
      ·rcases dO.1 hx with hx|hx;·exact h3 x hx
       ·simp at hx;rw[hx];simp[aO];omega
      ·simp -implicitDefEqProofs [sV,vp,e1,e2,e3,e4,h,hw,ha,bY,h8,cQ,cK,cL,g1,g2,g3]
    ·refine⟨((c2,i+1),out),⟨by simp only;omega,by simp only;omega,h3⟩,by simp only;omega,?_⟩;simp -implicitDefEqProofs [sV,vp,e1,e2,e3,h,hw,ha,bY,h8,cQ,cK,cL]
   ·left;refine⟨((c1,i),out),⟨h1,h2,h3⟩,?_⟩;simp -implicitDefEqProofs [sV,vp,e1,h])
  ((c2,0),[]) ⟨by simp,by simp,by simp⟩
 simp only at h1 h2 h3;have hwf:=Ut (m:=4) h3 (by omega);try simp at u1
 try simp at u2
 try simp at e
 by_cases g3:m=3
 ·obtain⟨c4,t,ht,u4⟩:=UD c3;refine⟨c4,⟨m,p,out,t⟩,by simp only[lC];omega,Q4,?_⟩;try simp at u4
  rw[ay (b:=yy) (rs:=_) (n:=1) rfl rfl];simp -implicitDefEqProofs [yy,u1,u2,e,u4,eq_true g3,cQ,cK,cL]
 ·refine⟨c3,⟨m,p,out,[]⟩,by simp only[lC];simp;omega,Q4,?_⟩;rw[ay (b:=yy) (rs:=_) (n:=1) rfl rfl];simp -implicitDefEqProofs [yy,u1,u2,e,g3,cQ,cK,cL]
def ri(fs:List aJ)(n:ag):List aJ:=(foldI (λi (g:List aJ) b=>if ((i:Nat):Int)=fU (fh fs n) then g else g++[b]) 0 fs [])
def Jz(a:Int):∀(fs:List aJ) (i:Nat) (g:List aJ),wL aO (foldI (λi (g:List aJ) b=>if ((i:Nat):Int)=a then g else g++[b]) i fs g)<=wL aO g+wL aO fs/\(foldI (λi (g:List aJ) b=>if ((i:Nat):Int)=a then g else g++[b]) i fs g).length<=g.length+fs.length
 |[],i,g=>by simp[foldI,wL]
 |f::fs,i,g=>by
  simp only[foldI];have h:=Jz a fs (i+1) (if ((i:Nat):Int)=a then g else g++[f]);split at h
  ·rename_i hh;rw[au hh];refine⟨jo h.1 ?_,jo h.2 ?_⟩;·simp only[wL,cu,bn,oN];omega
   ·simp only[cu];omega
  ·rename_i hh;rw[aC hh];refine⟨jo h.1 ?_,jo h.2 ?_⟩;·simp only[wL,cu,bn,oN,e9,iS,yU,iC,lF,Ie];omega
   ·simp only[cu,e9,iC];omega
def PL(fs:List aJ)(n:ag):wL aO (ri fs n)<=wL aO fs:=by have:=(Jz (fU (fh fs n)) fs 0 []).1;unfold ri;simp[wL] at this⊢;exact this
def YR(fs:List aJ)(n:ag):(ri fs n).length<=fs.length:=by have:=(Jz (fU (fh fs n)) fs 0 []).2;unfold ri;simpa using this
def VU(fs:List aJ)(a:Int)(hb:fs.length<=1000000)(g:List aJ)(hinv:g.length<=0):aI (aj (ev LI TT) (aq TT) xP) [(0,.row .af 2 (fs.map aR)),(5,.int .i64 a),(6,.row .own 2 (g.map aR)),(7,.int .i64 0)]=some (.exit 0,[(0,.row .af 2 (fs.map aR)),(5,.int .i64 a),(6,.row .own 2 ((foldI (λi g b=>if ((i:Nat):Int)=a then g else g++[b]) 0 (fs) g).map aR)),(7,.int .i64 (fs).length),(15,.bool false)]):=by
 refine gT (f:=aj (ev LI TT) (aq TT) xP) (fs) (λi (g:List aJ)=>[(0,.row .af 2 (fs.map aR)),(5,.int .i64 a),(6,.row .own 2 (g.map aR)),(7,.int .i64 i)]) (λi g b=>if ((i:Nat):Int)=a then g else g++[b]) (λg=>[(0,.row .af 2 (fs.map aR)),(5,.int .i64 a),(6,.row .own 2 (g.map aR)),(7,.int .i64 (fs).length),(15,.bool false)]) (λi (g:List aJ)=>g.length<=i) g hinv (λi b g hi hl hinv=>?_) (λi b g hi hinv=>?_) (λg hinv=>?_)
 ·have hw:=aU i (by first|omega|(simp at hl;omega));obtain⟨_,rfl⟩:=aL.1 hi;have h8:(g.length+1)*32<=140737488355328:=by omega
  by_cases ha:((i:Nat):Int)=a;·subst ha;simp -implicitDefEqProofs [xP,F9,hl,hw]
  simp -implicitDefEqProofs [xP,F9,hl,hw,ha,bY,h8];all_goals (repeat' split)<;>first|rfl|omega|(simp_all;done)|(simp_all;omega)|skip
 ·split<;>(try simp)<;>omega
 ·simp -implicitDefEqProofs [xP,F9]
def OW(fs:List aJ)(n:ag)(hb:fs.length<=1000000):ev LI TT 199 [.row .af 2 (fs.map aR),.str ⟨n.toArray⟩]=some (.row .own 2 ((ri fs n).map aR),[.dead,.dead]):=by
 rw[ay (b:=Ga) (rs:=[.t 4]) (n:=2) rfl rfl];unfold ri;have u1:=wg fs n (by omega);try simp at u1
 have u2:=VU fs (fU (fh fs n)) hb [] (by simp);try simp at u2
 simp -implicitDefEqProofs [Ga,u1,u2];all_goals (repeat' split)<;>first|rfl|omega|(simp_all;done)|(simp_all;omega)|skip
end M
set_option maxHeartbeats 8000000
namespace M
open Go
end M
namespace M
open Go
def V5(s:Sh)(hb:bN s<=1073741824):aI (aj (ev LI TT) (aq TT) B4) [(1,.ptr .own (aH .af s)),(3,.int .i64 0)]=if aX dF (s.aD)=true then some (.exit 0,[(1,.ptr .own (aH .af s)),(3,.int .i64 (s.aD).length),(33,.bool false)]) else some (.ret,[(2,.bool false)]):=by
 refine gB (f:=aj (ev LI TT) (aq TT) B4) (s.aD) (λi=>[(1,.ptr .own (aH .af s)),(3,.int .i64 i)]) dF _ _ (λi b hi hl=>?_) ?_
 ·have hw:=aU i (by have de:bN s=bh s.aG+wL bK s.ai+wL aT s.aD:=rfl;have:=bE (w:=aT) s.aD;omega);obtain⟨_,rfl⟩:=aL.1 hi;have de:bN s=bh s.aG+wL bK s.ai+wL aT s.aD:=rfl;have hm:=HP (cy hl);have u1:=Dz s.aD[i] (by omega);try simp at u1
  simp -implicitDefEqProofs [B4,L7,hl,hw,u1];all_goals (repeat' split)<;>first|rfl|omega|(simp_all;done)|(simp_all;omega)|skip
 ·simp -implicitDefEqProofs [B4,L7]
def V6(s:Sh)(n:Nat)(k:Kp)(hn:n<=s.ai.length)(hb:s.ai.length<=1073741824):aI (aj (ev LI TT) (aq TT) B5) [(1,.ptr .own (aH .af s)),(4,.int .i64 n),(5,.ptr .own (aE .af k)),(6,.int .i64 0)]=if aX (λy=>decide ¬y.at_=k.at_) (s.ai.take n)=true then some (.exit 4,[(1,.ptr .own (aH .af s)),(4,.int .i64 n),(5,.ptr .own (aE .af k)),(6,.int .i64 (s.ai.take n).length),(92,.bool false)]) else some (.ret,[(2,.bool false)]):=by
 refine gB (f:=aj (ev LI TT) (aq TT) B5) (s.ai.take n) (λi=>[(1,.ptr .own (aH .af s)),(4,.int .i64 n),(5,.ptr .own (aE .af k)),(6,.int .i64 i)]) (λy=>decide ¬y.at_=k.at_) _ _ (λi b hi hl=>?_) ?_
 ·have hw:=aU i (by first|omega|(simp at hl;omega));obtain⟨_,rfl⟩:=aL.1 hi;have h1:i<n:=by simp at hl;omega
  have h2:i<s.ai.length:=by omega
  simp -implicitDefEqProofs [B5,L8,hl,hw,h1,h2];all_goals (repeat' split)<;>first|rfl|omega|(simp_all;done)|(simp_all;omega)|skip
 ·have hmin:min n s.ai.length=n:=by omega
  simp -implicitDefEqProofs [B5,L8,hmin]
def V7(s:Sh)(hb:bN s<=1073741824)(hs:1<=s.seq/\s.seq<=100000):aI (aj (ev LI TT) (aq TT) mq) [(1,.ptr .own (aH .af s)),(4,.int .i64 0)]=if aX (k8 s.seq s.ai) (s.ai.zipIdx)=true then some (.exit 2,[(1,.ptr .own (aH .af s)),(4,.int .i64 (s.ai.zipIdx).length),(47,.bool false)]) else some (.ret,[(2,.bool false)]):=by
 refine gB (f:=aj (ev LI TT) (aq TT) mq) (s.ai.zipIdx) (λi=>[(1,.ptr .own (aH .af s)),(4,.int .i64 i)]) (k8 s.seq s.ai) _ _ (λi b hi hl=>?_) ?_
 ·have hw:=aU i (by have de:bN s=bh s.aG+wL bK s.ai+wL aT s.aD:=rfl;have:=bE (w:=bK) s.ai;simp at hl;omega);obtain⟨_,rfl⟩:=aL.1 hi;simp only[IB] at hl;have de:bN s=bh s.aG+wL bK s.ai+wL aT s.aD:=rfl;have hlen:=bE (w:=bK) s.ai;have hz:s.ai.zipIdx[i]'(by simpa using hl)=(s.ai[i],i):=by simp
  have hm:=yP (cy hl);have hS:IntKind.i64.wrap (s.seq - 1)=s.seq - 1:=bX (by omega) (by omega);rw[hz];have hmin:min i s.ai.length=i:=by omega
  have u1:=zC s.ai[i].obj (by omega);try simp at u1
  have u2:=V6 s i s.ai[i] (by omega) (by omega);try simp at u2
  by_cases g1:dx (s.ai[i]).obj=true;rotate_left;·simp -implicitDefEqProofs [mq,oB,hl,hw,u1,u2,k8,hS,hmin,g1]
  by_cases g2:5<=(s.ai[i]).at_;rotate_left;·simp -implicitDefEqProofs [mq,oB,hl,hw,u1,u2,k8,hS,hmin,g1,eq_false g2]
  by_cases g3:(s.ai[i]).at_<=19;rotate_left;·simp -implicitDefEqProofs [mq,oB,hl,hw,u1,u2,k8,hS,hmin,g1,eq_true g2,eq_false g3]
  by_cases g4:1<=(s.ai[i]).seq;rotate_left;·simp -implicitDefEqProofs [mq,oB,hl,hw,u1,u2,k8,hS,hmin,g1,eq_true g2,eq_true g3,eq_false g4]
  by_cases g5:(s.ai[i]).seq<=s.seq - 1;rotate_left;·simp -implicitDefEqProofs [mq,oB,hl,hw,u1,u2,k8,hS,hmin,g1,eq_true g2,eq_true g3,eq_true g4,eq_false g5]
  by_cases g6:i=0
  ·subst g6;try simp at u2 hw
   simp -implicitDefEqProofs [mq,oB,hl,hw,u1,u2,k8,hS,hmin,g1,eq_true g2,eq_true g3,eq_true g4,eq_true g5]
  obtain⟨j,rfl⟩:∃j,i=j+1:=⟨i - 1,by omega⟩;have hj:j<s.ai.length:=by omega
  have hJ:IntKind.i64.wrap (j:Int)=j:=bX (by omega) (by omega);have hp:=BF s.ai j hj;try simp at u2 hw hS
  have hpos:(0:Int)<(j:Int)+1:=by omega
  have hlc:(j:Int)+1<s.ai.length:=by omega
  have jc:(0:Int)<=(j:Int)+1:=by omega
  by_cases g7:(s.ai[j]).seq<(s.ai[j+1]).seq;rotate_left
  ·have JV:(s.ai[j+1]).seq<=(s.ai[j]).seq:=by omega
   simp -implicitDefEqProofs [mq,oB,hl,hw,u1,u2,k8,hS,hmin,g1,eq_true g2,eq_true g3,eq_true g4,eq_true g5,hj,hJ,hp,hpos,hlc,jc,eq_false g7,eq_true JV]
  have JV:¬(s.ai[j+1]).seq<=(s.ai[j]).seq:=by omega
  simp -implicitDefEqProofs [mq,oB,hl,hw,u1,u2,k8,hS,hmin,g1,eq_true g2,eq_true g3,eq_true g4,eq_true g5,hj,hJ,hp,hpos,hlc,jc,eq_true g7,eq_false JV];all_goals (repeat' split)<;>first|rfl|omega|(simp_all;done)|(simp_all;omega)|skip
 ·simp -implicitDefEqProofs [mq,oB]
def Je(s:Sh)(hb:bN s<=1073741824):ev LI TT 28 [.agg (aH .af s)]=some (.bool ((dB s)),[.dead]):=by
 rw[ay (b:=oC) (rs:=[.t 2]) (n:=1) rfl rfl];have de:bN s=bh s.aG+wL bK s.ai+wL aT s.aD:=rfl;have EM:bh s.aG=wL wS s.aG.cells+wL cS s.aG.pending:=rfl;have hlen:=bE (w:=cS) s.aG.pending;unfold dB;have u1:=tJ s.aG (by omega);try simp at u1
 have u2:=V5 s hb;try simp at u2
 by_cases g1:bJ s.aG=true;rotate_left;·simp -implicitDefEqProofs [oC,u1,u2,g1]
 by_cases g2:(s.aD.length:Int)<=5;rotate_left;·simp -implicitDefEqProofs [oC,u1,u2,g1,eq_false g2]
 by_cases g3:5<=s.next
 rotate_left;·simp -implicitDefEqProofs [oC,u1,u2,g1,eq_true g2,eq_false g3]
 by_cases g4:s.next<=19
 rotate_left;·simp -implicitDefEqProofs [oC,u1,u2,g1,eq_true g2,eq_true g3,eq_false g4]
 by_cases g5:1<=s.seq;rotate_left;·simp -implicitDefEqProofs [oC,u1,u2,g1,eq_true g2,eq_true g3,eq_true g4,eq_false g5]
 by_cases g6:s.seq<=100000;rotate_left;·simp -implicitDefEqProofs [oC,u1,u2,g1,eq_true g2,eq_true g3,eq_true g4,eq_true g5,eq_false g6]
 have u3:=V7 s hb ⟨by omega,by omega⟩;rw[adF] at u3;simp at u3;have jP:¬5<(s.aD.length:Int):=by omega
 simp -implicitDefEqProofs [oC,u1,u2,g1,eq_true g2,eq_true g3,eq_true g4,eq_true g5,eq_true g6,u3,jP];all_goals (repeat' split)<;>first|rfl|omega|(simp_all;done)|(simp_all;omega)|skip
end M
namespace M
open Go
def XL(x k:Kp):ev LI TT 185 [.agg (aE .af x),.ptr .af (aE .af k)]=some (.bool (decide (x.at_=k.at_)),[.dead,.dead]):=by rw[ay (b:=E1) (rs:=[.t 3]) (n:=2) rfl rfl];simp -implicitDefEqProofs [E1];all_goals (repeat' split)<;>first|rfl|omega|(simp_all;done)|(simp_all;omega)|skip
def Wy(l:List Kp)(k:Kp)(gf:Nat)(p:Kp->Bool)(ho:aq TT gf=true)(hf:∀x∈l,ev LI TT gf [.agg (aE .af x),.ptr .af (aE .af k)]=some (.bool (p x),[.dead,.dead]))(hb:l.length<=9223372036854775807):aI (aj (ev LI TT) (aq TT) CW) [(0,.row .af 9 (l.map (aE .af))),(1,.fn gf [.ptr .af (aE .af k)]),(7,.int .i64 l.length),(8,.int .i64 0)]=(dH p 0 (l)).elim (some (.exit 0,[(0,.row .af 9 (l.map (aE .af))),(1,.fn gf [.ptr .af (aE .af k)]),(7,.int .i64 l.length),(8,.int .i64 (l).length),(9,.bool false)])) λx=>some (.ret,(λ(i:Nat) b=>[(4,.int .i64 i)]) x.1 x.2):=by
 refine Bk (f:=aj (ev LI TT) (aq TT) CW) (l) (λi=>[(0,.row .af 9 (l.map (aE .af))),(1,.fn gf [.ptr .af (aE .af k)]),(7,.int .i64 l.length),(8,.int .i64 i)]) p (λ(i:Nat) b=>[(4,.int .i64 i)]) _ (λi b hi hl=>?_) ?_
 ·have hw:=aU i (by first|omega|(simp at hl;omega));obtain⟨_,rfl⟩:=aL.1 hi;have u1:=hf l[i] (cy hl);try simp at u1
  simp -implicitDefEqProofs [CW,Nb,hl,hw,u1,ho,w9];all_goals (repeat' split)<;>first|rfl|omega|(simp_all;done)|(simp_all;omega)|skip
 ·simp -implicitDefEqProofs [CW,Nb]
def Yp(l:List Kp)(k:Kp)(gf:Nat)(p:Kp->Bool)(ho:aq TT gf=true)(hf:∀x∈l,ev LI TT gf [.agg (aE .af x),.ptr .af (aE .af k)]=some (.bool (p x),[.dead,.dead]))(hb:l.length<=9223372036854775807):ev LI TT 236 [.row .af 9 (l.map (aE .af)),.fn gf [.ptr .af (aE .af k)]]=some (.int .i64 ((dH p 0 l).elim (-1) λx=>(x.1:Int)),[.dead,.dead]):=by
 rw[ay (b:=CX) (rs:=[.t 4]) (n:=2) rfl rfl];have u1:=Wy l k gf p ho hf hb;try simp at u1
 cases g:dH p 0 l with
 |none=>rw[g] at u1;simp at u1;simp -implicitDefEqProofs [CX,u1]
 |some x=>
 rw[g] at u1;simp at u1;simp -implicitDefEqProofs [CX,u1];all_goals (repeat' split)<;>first|rfl|omega|(simp_all;done)|(simp_all;omega)|skip
def Pe(l:List Kp)(k:Kp)(gf:Nat)(p:Kp->Bool)(ho:aq TT gf=true)(hf:∀x∈l,ev LI TT gf [.agg (aE .af x),.ptr .af (aE .af k)]=some (.bool (p x),[.dead,.dead]))(hb:l.length<=9223372036854775807):ev LI TT 184 [.row .af 9 (l.map (aE .af)),.fn gf [.ptr .af (aE .af k)]]=some (.bool (!aX (λx=> !p x) l),[.dead,.dead]):=by
 rw[ay (b:=CS) (rs:=[.t 4]) (n:=2) rfl rfl];have u1:=Yp l k gf p ho hf hb;try simp at u1
 rw[<-Qg p l 0];cases g:dH p 0 l with
 |none=>rw[g] at u1;simp at u1;simp -implicitDefEqProofs [CS,u1]
 |some x=>
 rw[g] at u1;simp at u1;simp -implicitDefEqProofs [CS,u1];all_goals (repeat' split)<;>first|rfl|omega|(simp_all;done)|(simp_all;omega)|skip
def VM(s:Sh)(hb:bN s<=1073741824):∃sl,aI (aj (ev LI TT) (aq TT) mT) [(0,.ptr .af (aH .af s)),(3,.int .i64 0),(7,.ptr .af (aH .af s)),(8,.ptr .af (aH .af s)),(9,.ptr .af ((aH .af s).drop 2)),(10,.row .af 9 (s.ai.map (aE .af))),(11,.int .i64 s.ai.length),(12,.int .i64 0)]=if p7 s.seq s.ai=true then some (.exit 0,sl) else some (.ret,[(2,.bool false)]):=by
 have de:bN s=bh s.aG+wL bK s.ai+wL aT s.aD:=rfl;have hlen:=bE (w:=bK) s.ai;refine⟨_,gB (f:=aj (ev LI TT) (aq TT) mT) s.ai.zipIdx (λi=>[(0,.ptr .af (aH .af s)),(3,.int .i64 (jY s.ai i)),(7,.ptr .af (aH .af s)),(8,.ptr .af (aH .af s)),(9,.ptr .af ((aH .af s).drop 2)),(10,.row .af 9 (s.ai.map (aE .af))),(11,.int .i64 s.ai.length),(12,.int .i64 i)]) (pV s.seq s.ai) [(2,.bool false)] [(0,.ptr .af (aH .af s)),(3,.int .i64 (jY s.ai s.ai.length)),(7,.ptr .af (aH .af s)),(8,.ptr .af (aH .af s)),(9,.ptr .af ((aH .af s).drop 2)),(10,.row .af 9 (s.ai.map (aE .af))),(11,.int .i64 s.ai.length),(12,.int .i64 s.ai.length),(13,.bool false)] (λi b hi hl=>?_) ?_⟩
 ·simp only[IB] at hl;have hw:=aU i (by omega);obtain⟨_,rfl⟩:=aL.1 hi;have hz:s.ai.zipIdx[i]'(by simpa using hl)=(s.ai[i],i):=by simp
  have hm:=yP (cy hl);have hp:=BF s.ai i hl;rw[hz];have hs:fO []=true:=rfl;have u1:=I6 s.ai[i].obj (by omega);have u2:=Pe (s.ai.take i) s.ai[i] 185 (λx=>decide (x.at_=(s.ai[i]).at_)) rfl (λx _=>XL x s.ai[i]) (by simp;omega);have hle:(i:Int)<=s.ai.length:=by omega
  have hle2:i<=s.ai.length:=by omega
  simp at u1 u2;unfold pV;by_cases g1:dx (s.ai[i]).obj=true;rotate_left;·simp -implicitDefEqProofs [mT,pS,hl,hw,hle,hle2,jZ,gV,fN,u1,u2,g1]
  by_cases g2:5<=(s.ai[i]).at_;rotate_left;·simp -implicitDefEqProofs [mT,pS,hl,hw,hle,hle2,jZ,gV,fN,u1,u2,g1,eq_false g2]
  by_cases g3:(s.ai[i]).at_<=19;rotate_left;·simp -implicitDefEqProofs [mT,pS,hl,hw,hle,hle2,jZ,gV,fN,u1,u2,g1,eq_true g2,eq_false g3]
  by_cases g4:aX (λy:Kp=> !decide (y.at_=(s.ai[i]).at_)) (s.ai.take i)=true;rotate_left;·simp -implicitDefEqProofs [mT,pS,hl,hw,hle,hle2,jZ,gV,fN,u1,u2,g1,eq_true g2,eq_true g3,g4]
  by_cases g5:jY s.ai i<(s.ai[i]).seq;rotate_left
  ·have Em:(s.ai[i]).seq<=jY s.ai i:=by omega
   simp -implicitDefEqProofs [mT,pS,hl,hw,hle,hle2,jZ,gV,fN,u1,u2,g1,eq_true g2,eq_true g3,g4,eq_false g5,eq_true Em]
  have Em:¬(s.ai[i]).seq<=jY s.ai i:=by omega
  by_cases g6:(s.ai[i]).seq<s.seq;rotate_left
  ·have JU:s.seq<=(s.ai[i]).seq:=by omega
   simp -implicitDefEqProofs [mT,pS,hl,hw,hle,hle2,jZ,gV,fN,u1,u2,g1,eq_true g2,eq_true g3,g4,eq_true g5,eq_false Em,eq_false g6,eq_true JU]
  have JU:¬s.seq<=(s.ai[i]).seq:=by omega
  simp -implicitDefEqProofs [mT,pS,hl,hw,hle,hle2,jZ,gV,fN,u1,u2,g1,eq_true g2,eq_true g3,g4,eq_true g5,eq_false Em,eq_true g6,eq_false JU,hp]
 ·simp -implicitDefEqProofs [mT,pS]
def XK(s:Sh)(hb:bN s<=1073741824):ev LI TT 108 [.ptr .af (aH .af s)]=some (.bool (p7 s.seq s.ai),[.dead]):=by rw[ay (b:=E2) (rs:=[.t 2]) (n:=1) rfl rfl];obtain⟨sl,u1⟩:=VM s hb;simp at u1;simp -implicitDefEqProofs [E2,u1];all_goals (repeat' split)<;>first|rfl|omega|(simp_all;done)|(simp_all;omega)|skip
def VB(s:Sh)(hb:bN s<=1073741824):aI (aj (ev LI TT) (aq TT) AW) [(1,.ptr .own (aH .af s)),(5,.ax 1 [] 0 3),(6,.row .af 4 (s.aD.map ck)),(7,.int .i64 s.aD.length),(8,.int .i64 0)]=if aX dF (s.aD)=true then some (.exit 0,[(1,.ptr .own (aH .af s)),(5,.ax 1 [] 0 3),(6,.row .af 4 (s.aD.map ck)),(7,.int .i64 s.aD.length),(8,.int .i64 (s.aD).length),(9,.bool false)]) else some (.ret,[(2,.bool false)]):=by
 refine gB (f:=aj (ev LI TT) (aq TT) AW) (s.aD) (λi=>[(1,.ptr .own (aH .af s)),(5,.ax 1 [] 0 3),(6,.row .af 4 (s.aD.map ck)),(7,.int .i64 s.aD.length),(8,.int .i64 i)]) dF _ _ (λi b hi hl=>?_) ?_
 ·have hw:=aU i (by have de:bN s=bh s.aG+wL bK s.ai+wL aT s.aD:=rfl;have:=bE (w:=aT) s.aD;omega);obtain⟨_,rfl⟩:=aL.1 hi;have de:bN s=bh s.aG+wL bK s.ai+wL aT s.aD:=rfl;have hm:=HP (cy hl);have u1:=I4 s.aD[i] (by omega);try simp at u1
  simp -implicitDefEqProofs [AW,KH,hl,hw,u1];all_goals (repeat' split)<;>first|rfl|omega|(simp_all;done)|(simp_all;omega)|skip
 ·simp -implicitDefEqProofs [AW,KH]
def OJ(s:Sh)(hb:bN s<=1073741824):ev LI TT 31 [.agg (aH .af s)]=some (.bool ((dB s)),[.dead]):=by
 rw[ay (b:=mS) (rs:=[.t 2]) (n:=1) rfl rfl];have de:bN s=bh s.aG+wL bK s.ai+wL aT s.aD:=rfl;have EM:bh s.aG=wL wS s.aG.cells+wL cS s.aG.pending:=rfl;have hlen:=bE (w:=cS) s.aG.pending;unfold dB;have u1:=I5 s.aG (by omega);try simp at u1
 have u2:=VB s hb;try simp at u2
 have u3:=XK s hb;try simp at u3
 by_cases g1:aX dF s.aD=true;rotate_left;·simp -implicitDefEqProofs [mS,u1,u2,u3,g1]
 by_cases g2:(s.aD.length:Int)<=5;rotate_left;·simp -implicitDefEqProofs [mS,u1,u2,u3,g1,eq_false g2]
 by_cases g3:5<=s.next
 rotate_left;·simp -implicitDefEqProofs [mS,u1,u2,u3,g1,eq_true g2,eq_false g3]
 by_cases g4:s.next<=19
 rotate_left;·simp -implicitDefEqProofs [mS,u1,u2,u3,g1,eq_true g2,eq_true g3,eq_false g4]
 by_cases g5:1<=s.seq;rotate_left;·simp -implicitDefEqProofs [mS,u1,u2,u3,g1,eq_true g2,eq_true g3,eq_true g4,eq_false g5]
 by_cases g6:s.seq<=100000;rotate_left;·simp -implicitDefEqProofs [mS,u1,u2,u3,g1,eq_true g2,eq_true g3,eq_true g4,eq_true g5,eq_false g6]
 by_cases g7:bJ s.aG=true;rotate_left;·simp -implicitDefEqProofs [mS,u1,u2,u3,g1,eq_true g2,eq_true g3,eq_true g4,eq_true g5,eq_true g6,g7]
 simp -implicitDefEqProofs [mS,u1,u2,u3,g1,eq_true g2,eq_true g3,eq_true g4,eq_true g5,eq_true g6,g7];all_goals (repeat' split)<;>first|rfl|omega|(simp_all;done)|(simp_all;omega)|skip
end M
set_option maxHeartbeats 4000000
namespace M
open Go
def JH(l:List aJ):(iZ l).length<=4*wL aO l:=by
 unfold iZ;induction l with
 |nil=>simp[wL]
 |cons f l ih=>simp only[jF,e9,wL,cu,bn,oN,ry,aO,iC] at*;omega
def adP:(⟨#[58,32]⟩:ByteArray)=⟨colon.toArray⟩:=rfl
def K4:(⟨#[13,10]⟩:ByteArray)=⟨crlf.toArray⟩:=rfl
def adS:(⟨#[13,10,13,10]⟩:ByteArray)=⟨aZ.toArray⟩:=rfl
def R5:(⟨#[72,84,84,80,47,49,46,49,32]⟩:ByteArray)=⟨(n7++[32]).toArray⟩:=rfl
def adQ:(⟨#[32,46]⟩:ByteArray)=⟨([32,46]:ag).toArray⟩:=rfl
def adR:(⟨#[32,46,13,10]⟩:ByteArray)=⟨([32,46]++crlf:ag).toArray⟩:=rfl
def R2:(⟨#[99,111,110,116,101,110,116,45,108,101,110,103,116,104,58,32]⟩:ByteArray)=⟨(dJ++colon).toArray⟩:=rfl
def R3:(⟨#[111,98,106,32]⟩:ByteArray)=⟨(lY++[32]).toArray⟩:=rfl
def R4:(⟨#[32]⟩:ByteArray)=⟨([32]:ag).toArray⟩:=rfl
def FB:(⟨#[10]⟩:ByteArray)=⟨([10]:ag).toArray⟩:=rfl
def Bg:colon.length=2:=rfl
def Bh:crlf.length=2:=rfl
def R6:aZ.length=4:=rfl
def K5:n7.length=8:=rfl
def FC:dJ.length=14:=rfl
def Bi:lY.length=3:=rfl
def VW(fs:List aJ)(hb:wL aO fs<=1073741824)(g:ag)(hinv:g.length<=4*(wL aO (fs.take 0))):aI (aj (ev LI TT) (aq TT) BP) [(0,.row .af 2 (fs.map aR)),(3,.str ⟨(g).toArray⟩),(4,.int .i64 0)]=some (.exit 0,[(0,.row .af 2 (fs.map aR)),(3,.str ⟨((foldI (λ_ g f=>g++ry f) 0 (fs) g)).toArray⟩),(4,.int .i64 (fs).length),(8,.bool false)]):=by
 refine gT (f:=aj (ev LI TT) (aq TT) BP) (fs) (λi (g:ag)=>[(0,.row .af 2 (fs.map aR)),(3,.str ⟨(g).toArray⟩),(4,.int .i64 i)]) (λ_ g f=>g++ry f) (λg=>[(0,.row .af 2 (fs.map aR)),(3,.str ⟨(g).toArray⟩),(4,.int .i64 (fs).length),(8,.bool false)]) (λi (g:ag)=>g.length<=4*(wL aO (fs.take i))) g hinv (λi b g hi hl hinv=>?_) (λi b g hi hinv=>?_) (λg hinv=>?_)
 ·have hw:=aU i (by have:=bE (w:=aO) fs;omega);obtain⟨_,rfl⟩:=aL.1 hi;have hm:=HQ (cy hl);have ht:=M7 aO fs i;have q1:g.length+(fs[i]).name.length<=9223372036854775807:=by omega
  have q2:g.length+((fs[i]).name.length+2)<=9223372036854775807:=by omega
  have q3:g.length+((fs[i]).name.length+(2+(fs[i]).value.length))<=9223372036854775807:=by omega
  simp -implicitDefEqProofs [BP,L2,hl,hw,adP,K4,fq,Bg,Bh,ry];exact⟨by omega,by omega,by omega,by omega,by simp[colon,crlf]⟩
 ·obtain⟨hl,rfl⟩:=aL.1 hi;rw[oO hl];simp only[wL,e9,iS,yU,cu,iC,bn,lF,oN,Ie,ry,aO] at*;omega
 ·simp -implicitDefEqProofs [BP,L2]
def Eh{β:Type}(f:β->ag):∀(l:List β) (i:Nat) (g:ag),foldI (λ_ g b=>g++f b) i l g=g++l.flatMap f
 |[],_,g=>by simp[foldI]
 |b::l,i,g=>by rw[foldI,Eh f l];simp
def X2(fs:List aJ)(hb:wL aO fs<=1073741824):ev LI TT 67 [.row .af 2 (fs.map aR)]=some (.str ⟨(iZ fs).toArray⟩,[.dead]):=by
 rw[ay (b:=Gc) (rs:=[.t 2]) (n:=1) rfl rfl];have u1:=VW fs hb [] (by simp);try simp at u1
 rw[Eh,j7,show fs.flatMap (λf=>ry f)=iZ fs from rfl] at u1;simp -implicitDefEqProofs [Gc,u1];all_goals (repeat' split)<;>first|rfl|omega|(simp_all;done)|(simp_all;omega)|skip
structure WA (r:bP):Prop where
 s0:100<=r.status
 s1:r.status<=599
 f:jO r.fields=true
 b:r.body.length<=120
 nt:cV r.status=aS r.status.toNat
 nb:cV (r.body.length:Int)=aS r.body.length
 ls:(aS r.status.toNat).length<=7
 lb:(aS r.body.length).length<=7
 M0:fo r=n7++32::(aS r.status.toNat++32::46::(crlf++(iZ r.fields++(dJ++(colon++(aS r.body.length++(aZ++r.body)))))))
def FZ{r:bP}(h:fm r=true):WA r:=by
 obtain⟨h1,h2,h3⟩:=LF h;refine⟨h1.1,h1.2,h2,h3,?_,?_,nJ _ (by omega),nJ _ (by omega),?_⟩;·unfold cV;rw[au (by omega)]
 ·exact FK _ (by omega)
 ·unfold fo;rw[au h,Ti];simp[kG,jW,colon]
def O2(r:bP)(hb:bZ r<=1073741824):ev LI TT 12 [.agg (jM .af r)]=some (.str ⟨(fo r).toArray⟩,[.dead]):=by
 rw[ay (b:=B3) (rs:=[.t 2]) (n:=1) rfl rfl];have hw:bZ r=wL aO r.fields+r.body.length:=rfl;have hfl:=JH r.fields;have hft:=X2 r.fields (by omega);have u1:=Jd r hb;try simp at u1
 have u2:=qV r.status;try simp at u2
 have u3:=qV (r.body.length:Int);try simp at u3
 by_cases hok:fm r=true;rotate_left;·have e:fo r=[]:=(LJ r).2 hok;rw[show fm r=false by simpa using hok] at u1;simp -implicitDefEqProofs [B3,u1,e]
 rw[hok] at u1;have A:=FZ hok;rw[A.nt] at u2;rw[A.nb] at u3;have a1:=A.ls;have a2:=A.lb;have a3:=A.b;try simp at hft
 rw[A.M0];generalize iZ r.fields=T at hft hfl;generalize aS r.status.toNat=D at u2 a1;generalize aS r.body.length=E at u3 a2;simp -implicitDefEqProofs [B3,u1,u2,u3,hft,R5,adR,R2,adS,fq,K5,Bh,FC,Bg,R6];all_goals (try omega)
def XS(b:ag)(hb:b.length<=1000000):ev LI TT 64 [.str ⟨b.toArray⟩]=some (.str ⟨(dJ++(colon++(aS b.length++crlf))).toArray⟩,[.dead]):=by
 rw[ay (b:=Fj) (rs:=[.t 2]) (n:=1) rfl rfl];have l7:=nJ b.length hb;have u1:=tK b.length (by omega);try simp at u1
 simp -implicitDefEqProofs [Fj,u1,R2,K4,fq,FC,Bg,Bh];all_goals (try omega)
def OI(r:bP)(hb:bZ r<=1073741824):ev LI TT 11 [.agg (jM .af r)]=some (.str ⟨(fo r).toArray⟩,[.dead]):=by
 rw[ay (b:=AU) (rs:=[.t 2]) (n:=1) rfl rfl];have hw:bZ r=wL aO r.fields+r.body.length:=rfl;have hfl:=JH r.fields;have rI:=bE (w:=aO) r.fields;have hft:=Xz r.fields (by omega) (by omega);have u1:=OH r hb;try simp at u1
 by_cases hok:fm r=true;rotate_left;·have e:fo r=[]:=(LJ r).2 hok;rw[show fm r=false by simpa using hok] at u1;simp -implicitDefEqProofs [AU,u1,e]
 rw[hok] at u1;have A:=FZ hok;have a0:=A.s0;have a0':=A.s1;have a1:=A.ls;have a2:=A.lb;have a3:=A.b;have hst:r.status=((r.status.toNat:Nat):Int):=by omega
 have u2:=tK r.status.toNat (by omega);rw[<-hst] at u2;have u3:=XS r.body (by omega);try simp at hft
 try simp at u2
 try simp at u3
 rw[A.M0];generalize iZ r.fields=T at hft hfl;generalize aS r.status.toNat=D at u2 a1;generalize aS r.body.length=E at u3 a2;simp -implicitDefEqProofs [AU,u1,hft,u2,u3,R5,adQ,K4,fq,K5,Bh,FC,Bg];refine⟨by omega,by omega,by omega,by omega,by omega,by omega,by omega,?_⟩;simp[crlf,aZ]
def M6(l:List ag):(iz l).length<=2*wL wS l:=by
 unfold iz;induction l with
 |nil=>simp[wL]
 |cons v l ih=>simp only[jF,e9,wL,cu,bn,oN,wS,iC] at*;omega
def LO(r:bP):(fo r).length<=4*bZ r+60:=by
 by_cases h:fm r=true;·have A:=FZ h;have hfl:=JH r.fields;have a1:=A.ls;have a2:=A.lb;rw[A.M0];have hw:bZ r=wL aO r.fields+r.body.length:=rfl;simp[K5,Bh,FC,Bg,R6];omega
 ·rw[(LJ r).2 h];simp
def V4(o:Ob)(hb:b8 o<=1073741824)(g:ag)(hinv:g.length<=9223372036+2*(wL wS (o.values.take 0))):aI (aj (ev LI TT) (aq TT) B0) [(1,.ptr .own (bw .af o)),(3,.str ⟨(g).toArray⟩),(4,.int .i64 0)]=some (.exit 0,[(1,.ptr .own (bw .af o)),(3,.str ⟨((foldI (λ_ g v=>g++(v++[10])) 0 (o.values) g)).toArray⟩),(4,.int .i64 (o.values).length),(27,.bool false)]):=by
 refine gT (f:=aj (ev LI TT) (aq TT) B0) (o.values) (λi (g:ag)=>[(1,.ptr .own (bw .af o)),(3,.str ⟨(g).toArray⟩),(4,.int .i64 i)]) (λ_ g v=>g++(v++[10])) (λg=>[(1,.ptr .own (bw .af o)),(3,.str ⟨(g).toArray⟩),(4,.int .i64 (o.values).length),(27,.bool false)]) (λi (g:ag)=>g.length<=9223372036+2*(wL wS (o.values.take i))) g hinv (λi b g hi hl hinv=>?_) (λi b g hi hinv=>?_) (λg hinv=>?_);·have hw:=aU i (by have hw:b8 o=o.path.length+wL wS o.names+wL wS o.values+bZ o.resp:=rfl;have:=bE (w:=wS) o.values;omega);obtain⟨_,rfl⟩:=aL.1 hi;have hw0:b8 o=o.path.length+wL wS o.names+wL wS o.values+bZ o.resp:=rfl;have hm:=yQ (cy hl);have ht:=M7 wS o.values i;simp -implicitDefEqProofs [B0,L6,hl,hw,FB,fq];all_goals (try omega)
 ·obtain⟨hl,rfl⟩:=aL.1 hi;rw[oO hl];simp only[wL,e9,iS,yU,cu,iC,bn,lF,oN,Ie,wS] at*;omega
 ·simp -implicitDefEqProofs [B0,L6]
def Jc(o:Ob)(hb:b8 o<=1073741824):ev LI TT 36 [.agg (bw .af o)]=some (.str ⟨(dA o).toArray⟩,[.dead]):=by
 rw[ay (b:=B1) (rs:=[.t 2]) (n:=1) rfl rfl];have hw:b8 o=o.path.length+wL wS o.names+wL wS o.values+bZ o.resp:=rfl;have hrl:=LO o.resp;have hvl:=M6 o.values;have hft:=O2 o.resp (by omega);have u1:=zC o (by omega);try simp at u1
 have u2:=qV o.t;try simp at u2
 have u3:=qV (o.values.length:Int);try simp at u3
 by_cases hok:dx o=true;rotate_left;·have e:dA o=[]:=(Lo o).2 hok;rw[show dx o=false by simpa using hok] at u1;simp -implicitDefEqProofs [B1,u1,e]
 rw[hok] at u1;have A:=xD hok;have a1:=A.len;have a2:=A.n4;have a3:=n9 o.t;have a4:=nJ o.values.length (by omega);rw[FK o.values.length (by omega)] at u3;have et:dA o=lY++32::(o.path++32::(cV o.t++32::(aS o.values.length++10::(iz o.values++fo o.resp)))):=by unfold dA k9 p6 fo;rw[au hok,au A.resp];simp
 have hlp:=V4 o hb (lY++32::(o.path++32::(cV o.t++32::(aS o.values.length++[10])))) (by simp[Bi];omega);rw[Eh,show o.values.flatMap (λv=>v++[10])=iz o.values from rfl] at hlp;try simp at hlp
 try simp at hft
 rw[et];generalize fo o.resp=R at hft hrl;generalize aS o.values.length=E at u3 a4 hlp;generalize iz o.values=V at hvl hlp;simp -implicitDefEqProofs [B1,u1,u2,u3,hft,hlp,R3,R4,FB,fq,Bi];all_goals (try omega)
def VA(o:Ob)(hb:b8 o<=1073741824)(g:ag)(hinv:g.length<=9223372036+2*(wL wS (o.values.take 0))):aI (aj (ev LI TT) (aq TT) AQ) [(1,.ptr .own (bw .af o)),(3,.str ⟨(g).toArray⟩),(24,.ax 1 [] 0 2),(25,.row .af 1 (o.values.map eS)),(26,.int .i64 o.values.length),(27,.int .i64 0)]=some (.exit 0,[(1,.ptr .own (bw .af o)),(3,.str ⟨((foldI (λ_ g v=>g++(v++[10])) 0 (o.values) g)).toArray⟩),(24,.ax 1 [] 0 2),(25,.row .af 1 (o.values.map eS)),(26,.int .i64 o.values.length),(27,.int .i64 (o.values).length),(28,.bool false)]):=by
 refine gT (f:=aj (ev LI TT) (aq TT) AQ) (o.values) (λi (g:ag)=>[(1,.ptr .own (bw .af o)),(3,.str ⟨(g).toArray⟩),(24,.ax 1 [] 0 2),(25,.row .af 1 (o.values.map eS)),(26,.int .i64 o.values.length),(27,.int .i64 i)]) (λ_ g v=>g++(v++[10])) (λg=>[(1,.ptr .own (bw .af o)),(3,.str ⟨(g).toArray⟩),(24,.ax 1 [] 0 2),(25,.row .af 1 (o.values.map eS)),(26,.int .i64 o.values.length),(27,.int .i64 (o.values).length),(28,.bool false)]) (λi (g:ag)=>g.length<=9223372036+2*(wL wS (o.values.take i))) g hinv (λi b g hi hl hinv=>?_) (λi b g hi hinv=>?_) (λg hinv=>?_);·have hw:=aU i (by have hw:b8 o=o.path.length+wL wS o.names+wL wS o.values+bZ o.resp:=rfl;have:=bE (w:=wS) o.values;omega);obtain⟨_,rfl⟩:=aL.1 hi;have hw0:b8 o=o.path.length+wL wS o.names+wL wS o.values+bZ o.resp:=rfl;have hm:=yQ (cy hl);have ht:=M7 wS o.values i;simp -implicitDefEqProofs [AQ,KG,hl,hw,FB,fq];all_goals (try omega)
 ·obtain⟨hl,rfl⟩:=aL.1 hi;rw[oO hl];simp only[wL,e9,iS,yU,cu,iC,bn,lF,oN,Ie,wS] at*;omega
 ·simp -implicitDefEqProofs [AQ,KG]
def XE(o:Ob)(hb:b8 o<=1073741824):ev LI TT 27 [.agg (bw .af o)]=some (.str ⟨(dA o).toArray⟩,[.dead]):=by
 rw[ay (b:=AR) (rs:=[.t 2]) (n:=1) rfl rfl];have hw:b8 o=o.path.length+wL wS o.names+wL wS o.values+bZ o.resp:=rfl;have hrl:=LO o.resp;have hvl:=M6 o.values;have hvn:=bE (w:=wS) o.values;have hft:=OI o.resp (by omega);have u1:=I6 o (by omega);try simp at u1
 have u2:=Dx o.t;try simp at u2
 have u3:=tK o.values.length (by omega);try simp at u3
 by_cases hok:dx o=true;rotate_left;·have e:dA o=[]:=(Lo o).2 hok;rw[show dx o=false by simpa using hok] at u1;simp -implicitDefEqProofs [AR,u1,e]
 rw[hok] at u1;have A:=xD hok;have a1:=A.len;have a2:=A.n4;have a3:=n9 o.t;have a4:=nJ o.values.length (by omega);have et:dA o=lY++32::(o.path++32::(cV o.t++32::(aS o.values.length++10::(iz o.values++fo o.resp)))):=by unfold dA k9 p6 fo;rw[au hok,au A.resp];simp
 have hlp:=VA o hb (lY++32::(o.path++32::(cV o.t++32::(aS o.values.length++[10])))) (by simp[Bi];omega);rw[Eh,show o.values.flatMap (λv=>v++[10])=iz o.values from rfl] at hlp;try simp at hlp
 try simp at hft
 rw[et];generalize fo o.resp=R at hft hrl;generalize aS o.values.length=E at u3 a4 hlp;generalize iz o.values=V at hvl hlp;simp -implicitDefEqProofs [AR,u1,u2,u3,hft,hlp,R3,R4,FB,fq,Bi];all_goals (try omega)
end M
set_option maxHeartbeats 4000000
namespace M
open Go
def QM(fs:List aJ)(n v:ag):(decide (dX fs n=some v))=((dX fs n).isSome && decide ((dX fs n).getD []=v)):=by cases dX fs n<;>simp
def afH(p s:ag):p.isPrefixOf s=(decide (p.length<=s.length) && decide (s.take p.length=p)):=by have:=Lib.hasPrefix_of_take s p;unfold Lib.hasPrefix at this;rw[<-this];congr 1;rw[NH];simp
def X3(b:Bn)(o:Ob)(h1:aT b<=1073741824)(h2:b8 o<=1073741824):ev LI TT 181 [.agg (ck b),.agg (bw .af o)]=some (.bool (lU b o),[.dead,.dead]):=by
 rw[ay (b:=nr) (rs:=[.t 4]) (n:=2) rfl rfl];have hw:aT b=b.a.length+b.b.length:=rfl;have dI:b8 o=o.path.length+wL wS o.names+wL wS o.values+bZ o.resp:=rfl;have Au:bZ o.resp=wL aO o.resp.fields+o.resp.body.length:=rfl;have l1:=bE (w:=aO) o.resp.fields;unfold lU;rw[QM,afH];have u1:=Dz b h1;try simp at u1
 have u2:=zC o (by omega);try simp at u2
 have u3:=DA o.resp.fields b.a (by omega);try simp at u3
 generalize dF b=b1 at u1;cases b1;·simp -implicitDefEqProofs [nr,u1]
 generalize dx o=b2 at u2;cases b2;·simp -implicitDefEqProofs [nr,u1,u2]
 by_cases g1:o.t<=b.t;rotate_left
 ·have dz:b.t<o.t:=by omega
  simp -implicitDefEqProofs [nr,u1,u2,g1,dz]
 have dz:¬b.t<o.t:=by omega
 by_cases g2:b.kind=1;·rw[g2] at u1;simp -implicitDefEqProofs [nr,u1,u2,g1,dz,g2]
 by_cases g3:b.kind=2
 ·rw[g3] at u1;by_cases g4:b.a.length<=o.path.length
  ·have rC:(b.a.length:Int)<=o.path.length:=by omega
   by_cases g5:o.path.take b.a.length=b.a;·simp -implicitDefEqProofs [nr,u1,u2,g1,dz,g2,g3,g4,rC,Lib.extract_mk,eq_true g5]
   ·simp -implicitDefEqProofs [nr,u1,u2,g1,dz,g2,g3,g4,rC,Lib.extract_mk,eq_false g5]
  ·have rC:¬(b.a.length:Int)<=o.path.length:=by omega
   simp -implicitDefEqProofs [nr,u1,u2,g1,dz,g2,g3,g4,rC]
 generalize (dX o.resp.fields b.a).isSome=b3 at u3;cases b3;all_goals
 simp -implicitDefEqProofs [nr,u1,u2,u3,g1,dz,g2,g3];all_goals (repeat' split)<;>first|rfl|omega|(simp_all;done)|(simp_all;omega)|skip
def XB(b:Bn)(o:Ob)(h1:aT b<=1073741824)(h2:b8 o<=1073741824):ev LI TT 53 [.agg (ck b),.agg (bw .af o)]=some (.bool (lU b o),[.dead,.dead]):=by
 rw[ay (b:=pQ) (rs:=[.t 4]) (n:=2) rfl rfl];have hw:aT b=b.a.length+b.b.length:=rfl;have dI:b8 o=o.path.length+wL wS o.names+wL wS o.values+bZ o.resp:=rfl;have Au:bZ o.resp=wL aO o.resp.fields+o.resp.body.length:=rfl;have l1:=bE (w:=aO) o.resp.fields;unfold lU;rw[QM,show b.a.isPrefixOf o.path=Lib.hasPrefix o.path b.a from rfl];have u1:=I4 b h1;try simp at u1
 have u2:=I6 o (by omega);try simp at u2
 have u3:=OC o.resp.fields b.a (by omega);try simp at u3
 have u4:=Yt o.path b.a;try simp at u4
 by_cases g1:o.t<=b.t;rotate_left
 ·have dz:b.t<o.t:=by omega
  simp -implicitDefEqProofs [pQ,u1,u2,g1,dz]
 have dz:¬b.t<o.t:=by omega
 generalize dF b=b1 at u1;cases b1;·simp -implicitDefEqProofs [pQ,u1,g1,dz]
 generalize dx o=b2 at u2;cases b2;·simp -implicitDefEqProofs [pQ,u1,u2,g1,dz]
 by_cases g2:b.kind=1;·rw[g2] at u1;simp -implicitDefEqProofs [pQ,u1,u2,g1,dz,g2]
 by_cases g3:b.kind=2;·rw[g3] at u1;simp -implicitDefEqProofs [pQ,u1,u2,u4,g1,dz,g2,g3]
 generalize (dX o.resp.fields b.a).isSome=b3 at u3;cases b3;all_goals
 simp -implicitDefEqProofs [pQ,u1,u2,u3,u4,g1,dz,g2,g3];all_goals (repeat' split)<;>first|rfl|omega|(simp_all;done)|(simp_all;omega)|skip
def Rg(l:List Bn)(o:Ob):aX (λb=> !lU b o) l= !fI l o:=by
 unfold fI aX;induction l with
 |nil=>rfl
 |cons b l ih=>simp only[List.all_cons,List.any_cons,ih,Bool.not_or]
def VX(l:List Bn)(o:Ob)(h1:wL aT l<=1073741824)(h2:b8 o<=1073741824):aI (aj (ev LI TT) (aq TT) BR) [(0,.row .af 4 (l.map ck)),(3,.ptr .own (bw .af o)),(5,.int .i64 0)]=if aX (λb=> !lU b o) (l)=true then some (.exit 0,[(0,.row .af 4 (l.map ck)),(3,.ptr .own (bw .af o)),(5,.int .i64 (l).length),(9,.bool false)]) else some (.ret,[(4,.bool true)]):=by
 refine gB (f:=aj (ev LI TT) (aq TT) BR) (l) (λi=>[(0,.row .af 4 (l.map ck)),(3,.ptr .own (bw .af o)),(5,.int .i64 i)]) (λb=> !lU b o) _ _ (λi b hi hl=>?_) ?_
 ·have hw:=aU i (by have:=bE (w:=aT) l;omega);obtain⟨_,rfl⟩:=aL.1 hi;have hm:=HP (cy hl);have u1:=X3 l[i] o (by omega) h2;try simp at u1
  cases hh:lU l[i] o<;>rw[hh] at u1;all_goals
  simp -implicitDefEqProofs [BR,L3,hl,hw,u1,hh];all_goals (repeat' split)<;>first|rfl|omega|(simp_all;done)|(simp_all;omega)|skip
 ·simp -implicitDefEqProofs [BR,L3]
def Jb(l:List Bn)(o:Ob)(h1:wL aT l<=1073741824)(h2:b8 o<=1073741824):ev LI TT 98 [.row .af 4 (l.map ck),.agg (bw .af o)]=some (.bool (fI l o),[.dead,.dead]):=by
 rw[ay (b:=Ge) (rs:=[.t 4]) (n:=2) rfl rfl];have u1:=VX l o h1 h2;try simp at u1
 rw[Rg] at u1;cases hh:fI l o<;>rw[hh] at u1;all_goals try simp at u1
 all_goals
 simp -implicitDefEqProofs [Ge,u1];all_goals (repeat' split)<;>first|rfl|omega|(simp_all;done)|(simp_all;omega)|skip
def Vx(l:List Bn)(o:Ob)(h1:wL aT l<=1073741824)(h2:b8 o<=1073741824):aI (aj (ev LI TT) (aq TT) AK) [(0,.row .af 4 (l.map ck)),(3,.ptr .own (bw .af o)),(7,.row .af 4 (l.map ck)),(8,.int .i64 l.length),(9,.int .i64 0)]=if aX (λb=> !lU b o) (l)=true then some (.exit 0,[(0,.row .af 4 (l.map ck)),(3,.ptr .own (bw .af o)),(7,.row .af 4 (l.map ck)),(8,.int .i64 l.length),(9,.int .i64 (l).length),(10,.bool false)]) else some (.ret,[(4,.bool true)]):=by
 refine gB (f:=aj (ev LI TT) (aq TT) AK) (l) (λi=>[(0,.row .af 4 (l.map ck)),(3,.ptr .own (bw .af o)),(7,.row .af 4 (l.map ck)),(8,.int .i64 l.length),(9,.int .i64 i)]) (λb=> !lU b o) _ _ (λi b hi hl=>?_) ?_
 ·have hw:=aU i (by have:=bE (w:=aT) l;omega);obtain⟨_,rfl⟩:=aL.1 hi;have hm:=HP (cy hl);have u1:=XB l[i] o (by omega) h2;try simp at u1
  cases hh:lU l[i] o<;>rw[hh] at u1;all_goals
  simp -implicitDefEqProofs [AK,KD,hl,hw,u1,hh];all_goals (repeat' split)<;>first|rfl|omega|(simp_all;done)|(simp_all;omega)|skip
 ·simp -implicitDefEqProofs [AK,KD]
def OD(l:List Bn)(o:Ob)(h1:wL aT l<=1073741824)(h2:b8 o<=1073741824):ev LI TT 30 [.row .af 4 (l.map ck),.agg (bw .af o)]=some (.bool (fI l o),[.dead,.dead]):=by
 rw[ay (b:=EW) (rs:=[.t 4]) (n:=2) rfl rfl];have u1:=Vx l o h1 h2;try simp at u1
 rw[Rg] at u1;cases hh:fI l o<;>rw[hh] at u1;all_goals try simp at u1
 all_goals
 simp -implicitDefEqProofs [EW,u1];all_goals (repeat' split)<;>first|rfl|omega|(simp_all;done)|(simp_all;omega)|skip
end M
namespace M
open Go
def vB(fs:List aJ)(n:ag):ag:=(dX fs n).getD [45]
def valuesOf(ns:List ag)(fs:List aJ):List ag:=ns.map (vB fs)
def ajB(ns:List ag)(fs:List aJ):(valuesOf ns fs).length=ns.length:=by simp[valuesOf]
def Wf(ns:List ag)(fs:List aJ)(hb:ns.length<=1073741824)(hf:fs.length<=9223372036854775807):aI (aj (ev LI TT) (aq TT) Cd) [(0,.row .af 1 (ns.map eS)),(1,.row .af 2 (fs.map aR)),(5,.row .own 1 (([]).map eS)),(6,.int .i64 0)]=some (.exit 0,[(0,.row .af 1 (ns.map eS)),(1,.row .af 2 (fs.map aR)),(5,.row .own 1 ((((ns).flatMap (λn=>[vB fs n]))).map eS)),(6,.int .i64 (ns).length),(13,.bool false)]):=by
 refine pW (f:=aj (ev LI TT) (aq TT) Cd) (ns) (λn=>[vB fs n]) (λi out=>[(0,.row .af 1 (ns.map eS)),(1,.row .af 2 (fs.map aR)),(5,.row .own 1 ((out).map eS)),(6,.int .i64 i)]) (λout=>[(0,.row .af 1 (ns.map eS)),(1,.row .af 2 (fs.map aR)),(5,.row .own 1 ((out).map eS)),(6,.int .i64 (ns).length),(13,.bool false)]) (λi b out hi hl hout=>?_) (λout hout=>?_)
 ·have hw:=aU i (by first|omega|(simp at hl;omega));obtain⟨_,rfl⟩:=aL.1 hi;have h:=DA fs ns[i] hf;have hlo:out.length=i:=by rw[hout];exact zX _ _ _ (by omega)
  have hlz:(i+1)*16<=140737488355328:=by omega
  unfold vB;cases g:dX fs ns[i]<;>rw[g] at h;all_goals
  simp -implicitDefEqProofs [Cd,Mf,hl,hw,h,hlo,hlz,bY]
 ·simp -implicitDefEqProofs [Cd,Mf]
def Yc(ns:List ag)(fs:List aJ)(hb:ns.length<=1073741824)(hf:fs.length<=9223372036854775807):ev LI TT 180 [.row .af 1 (ns.map eS),.row .af 2 (fs.map aR)]=some (.row .own 1 ((valuesOf ns fs).map eS),[.dead,.dead]):=by
 rw[ay (b:=Gs) (rs:=[.t 4]) (n:=2) rfl rfl];have u1:=Wf ns fs hb hf;try simp at u1
 rw[zW,show ns.map (λn=>vB fs n)=valuesOf ns fs from rfl] at u1;simp -implicitDefEqProofs [Gs,u1];all_goals (repeat' split)<;>first|rfl|omega|(simp_all;done)|(simp_all;omega)|skip
end M
set_option maxHeartbeats 4000000
namespace M
open Go
def DC(o:Ob)(hb:b8 o<=1073741824):ev LI TT 99 [.agg (bw .af o)]=some (.agg (bw .own o),[.dead]):=by
 rw[ay (b:=Gu) (rs:=[.c 2 7 true 31]) (n:=1) rfl rfl];have hw:b8 o=o.path.length+wL wS o.names+wL wS o.values+bZ o.resp:=rfl;have dI:bZ o.resp=wL aO o.resp.fields+o.resp.body.length:=rfl;have l1:=bE (w:=aO) o.resp.fields;have l2:=bE (w:=wS) o.names;have l3:=bE (w:=wS) o.values;have u1:=Pc o.resp (by omega);try simp at u1
 simp -implicitDefEqProofs [Gu,u1,Ho,rowAt,(by omega:o.names.length*16<=140737488355328),(by omega:o.values.length*16<=140737488355328)];all_goals (repeat' split)<;>first|rfl|omega|(simp_all;done)|(simp_all;omega)|skip
def Np:Ob:=⟨[],[],[],⟨0,[],[]⟩,0⟩
end M
set_option maxHeartbeats 4000000
namespace M
open Go
structure Cc where
 ns:Bool
 nc:Bool
 pr:Bool
 mu:Bool
 ha:Bool
 IK:Int
@[simp] def nK(c:Cc):List X:=[.bool c.ns,.bool c.nc,.bool c.pr,.bool c.mu,.bool c.ha,.int .i64 c.IK]
def jI:Cc:=⟨false,false,false,false,false,0⟩
def Lm:ag:=[110,111,45,115,116,111,114,101]
def Ll:ag:=[110,111,45,99,97,99,104,101]
def Ln:ag:=[112,114,105,118,97,116,101]
def Lj:ag:=[109,117,115,116,45,114,101,118,97,108,105,100,97,116,101]
def pZ:ag:=[109,97,120,45,97,103,101,61]
def zG(w:ag):Option Nat:=if Lib.hasPrefix w pZ=true then some ((bx (w.drop 8)).getD 0) else none
def zH(c:Cc)(w:ag):Cc:=if w=Lm then {c with ns:=true} else if w=Ll then {c with nc:=true} else if w=Ln then {c with pr:=true} else if w=Lj then {c with mu:=true} else
 match zG w with
 |some n=>{c with ha:=true,IK:=if c.ha=true then min (n:Int) c.IK else n}
 |none=>c
def DJ(v:ag):Cc:=(jm v).foldl (λc w=>zH c (cD w)) jI
def o6(fs:List aJ):Cc:=DJ ((dX fs xA).getD [])
def Sm:(⟨#[110,111,45,115,116,111,114,101]⟩:ByteArray)=⟨Lm.toArray⟩/\(⟨#[110,111,45,99,97,99,104,101]⟩:ByteArray)=⟨Ll.toArray⟩/\(⟨#[112,114,105,118,97,116,101]⟩:ByteArray)=⟨Ln.toArray⟩/\(⟨#[109,117,115,116,45,114,101,118,97,108,105,100,97,116,101]⟩:ByteArray)=⟨Lj.toArray⟩/\(⟨#[109,97,120,45,97,103,101,61]⟩:ByteArray)=⟨pZ.toArray⟩:=⟨rfl,rfl,rfl,rfl,rfl⟩
def Yj(w:ag)(hb:w.length<=1073741824):ev LI TT 229 [.str ⟨w.toArray⟩]=some (.ak [.int .i64 ((((zG w).getD 0:Nat):Int)),.bool ((zG w).isSome)],[.dead]):=by
 rw[ay (b:=yC) (rs:=[.t 2,.t 3]) (n:=1) rfl rfl];have hp:=Lib.hasPrefix_of_take w pZ;have l8:pZ.length=8:=rfl;have z:pZ.toArray.size=8:=rfl;obtain⟨t1,t2,t3,t4,t5⟩:=Sm;rw[l8] at hp;unfold zG;by_cases g8:w.length<8
 ·have:Lib.hasPrefix w pZ=false:=by rw[<-hp];simp;omega
  have jQ:(w.length:Int)<8:=by omega
  simp -implicitDefEqProofs [yC,t5,this,g8,jQ,ByteArray.size,z,l8]
 have jQ:¬(w.length:Int)<8:=by omega
 have g9:(8:Int)<=w.length:=by omega
 have g10:8<=w.length:=by omega
 have g11:decide (8<=w.length)=true:=by simp;omega
 rw[g11,NL] at hp;by_cases g:w.take 8=pZ;rotate_left
 ·have:Lib.hasPrefix w pZ=false:=by rw[<-hp];simpa using g
  simp -implicitDefEqProofs [yC,t5,this,g8,jQ,g9,g10,ByteArray.size,z,l8,Lib.extract_mk,eq_false g]
 have:Lib.hasPrefix w pZ=true:=by rw[<-hp];simpa using g
 have u1:=vZ (w.drop 8) (by simp;omega);have hz:(w.drop 8).take (w.length - 8)=w.drop 8:=s8 (by simp);simp -implicitDefEqProofs [yC,t5,this,g8,jQ,g9,g10,ByteArray.size,z,l8,Lib.extract_mk,eq_true g,u1,hz];all_goals (repeat' split)<;>first|rfl|omega|(simp_all;done)|(simp_all;omega)|skip
def VR(ws:List ag)(hl0:ws.length<=1073741825)(hb:∀w∈ws,w.length<=1073741824)(g:Cc):aI (aj (ev LI TT) (aq TT) ou) [(2,.ptr .own (nK jI)),(3,.ptr .own (nK g)),(4,.row .own 1 (ws.map eS)),(5,.int .i64 0)]=some (.exit 0,[(2,.ptr .own (nK jI)),(3,.ptr .own (nK ((ws).foldl (λc w=>zH c (cD w)) g))),(4,.row .own 1 (ws.map eS)),(5,.int .i64 (ws).length),(15,.bool false)]):=by
 refine K7 (f:=aj (ev LI TT) (aq TT) ou) (ws) (λi (g:Cc)=>[(2,.ptr .own (nK jI)),(3,.ptr .own (nK g)),(4,.row .own 1 (ws.map eS)),(5,.int .i64 i)]) (λc w=>zH c (cD w)) (λg=>[(2,.ptr .own (nK jI)),(3,.ptr .own (nK g)),(4,.row .own 1 (ws.map eS)),(5,.int .i64 (ws).length),(15,.bool false)]) (λ_ _=>True) g trivial (λi b g hi hl _=>?_) (λ_ _ _ _ _=>trivial) (λg _=>?_)
 ·have hw:=aU i (by first|omega|(simp at hl;omega));obtain⟨_,rfl⟩:=aL.1 hi;obtain⟨t1,t2,t3,t4,t5⟩:=Sm;have hx:=hb _ (cy hl);have v1:=OY ws[i] hx;have v2:(cD ws[i]).length<=1073741824:=by simp[cD];exact hx
  generalize cD ws[i]=w at v1 v2;have v3:=Yj w v2;try simp at v1
  try simp at v3
  unfold zH;by_cases g1:w=Lm;·simp -implicitDefEqProofs [ou,sj,hl,hw,v1,v3,t1,eq_true g1,jI]
  by_cases g2:w=Ll;·simp -implicitDefEqProofs [ou,sj,hl,hw,v1,v3,t1,t2,eq_false g1,eq_true g2,jI]
  by_cases g3:w=Ln;·simp -implicitDefEqProofs [ou,sj,hl,hw,v1,v3,t1,t2,t3,eq_false g1,eq_false g2,eq_true g3,jI]
  by_cases g4:w=Lj;·simp -implicitDefEqProofs [ou,sj,hl,hw,v1,v3,t1,t2,t3,t4,eq_false g1,eq_false g2,eq_false g3,eq_true g4,jI]
  cases ha:zG w with
  |none=>rw[ha] at v3;simp at v3;simp -implicitDefEqProofs [ou,sj,hl,hw,v1,v3,t1,t2,t3,t4,eq_false g1,eq_false g2,eq_false g3,eq_false g4,jI]
  |some n=>
  rw[ha] at v3;simp at v3;cases gh:g.ha;all_goals
  simp -implicitDefEqProofs [ou,sj,hl,hw,v1,v3,t1,t2,t3,t4,eq_false g1,eq_false g2,eq_false g3,eq_false g4,gh,jI];all_goals (repeat' split)<;>first|rfl|omega|(simp_all;done)|(simp_all;omega)|skip
 ·simp -implicitDefEqProofs [ou,sj]
def X0(v:ag)(hb:v.length<=1073741824):ev LI TT 166 [.str ⟨v.toArray⟩]=some (.agg (nK (DJ v)),[.dead]):=by
 rw[ay (b:=F4) (rs:=[.c 2 6 true 72]) (n:=1) rfl rfl];have hm:=CR v;have hn:=HS v;have u1:=O4 v hb;try simp at u1
 have u2:=VR (jm v) (by omega) (λw hw=>by have:=hm w hw;omega) jI;try simp at u2
 rw[show (jm v).foldl (λc w=>zH c (cD w)) jI=DJ v from rfl] at u2;simp[jI] at u2;simp -implicitDefEqProofs [F4,u1,u2,jI];all_goals (repeat' split)<;>first|rfl|omega|(simp_all;done)|(simp_all;omega)|skip
def OT(fs:List aJ)(hb:wL aO fs<=1073741824):ev LI TT 80 [.row .af 2 (fs.map aR)]=some (.agg (nK (o6 fs)),[.dead]):=by
 rw[ay (b:=F3) (rs:=[.c 2 6 true 72]) (n:=1) rfl rfl];have hfl:=bE (w:=aO) fs;have hg:=tY fs xA;have t3:(⟨#[99,97,99,104,101,45,99,111,110,116,114,111,108]⟩:ByteArray)=⟨xA.toArray⟩:=rfl;have u1:=DA fs xA (by omega);try simp at u1
 have u2:=X0 ((dX fs xA).getD []) (by omega);try simp at u2
 rw[show DJ ((dX fs xA).getD [])=o6 fs from rfl] at u2;simp -implicitDefEqProofs [F3,u1,u2,t3];all_goals (repeat' split)<;>first|rfl|omega|(simp_all;done)|(simp_all;omega)|skip
end M
set_option maxHeartbeats 4000000
namespace M
open Go
def X8(q:Rq)(hb:lC q<=1073741824):ev LI TT 78 [.agg (nM .af q)]=some (.bool (xK q),[.dead]):=by
 rw[ay (b:=xU) (rs:=[.t 2]) (n:=1) rfl rfl];have Au:lC q=q.path.length+wL aO q.fields+q.body.length:=rfl;unfold xK;have u1:=Jj q.path (by omega);try simp at u1
 have u2:=OX q.fields (by omega);try simp at u2
 by_cases g1:1<=q.method;rotate_left;·simp -implicitDefEqProofs [xU,u1,u2,eq_false g1]
 by_cases g2:q.method<=4;rotate_left;·simp -implicitDefEqProofs [xU,u1,u2,eq_true g1,eq_false g2]
 cases g3:iw q.path<;>cases g4:jO q.fields<;>rw[g3] at u1<;>rw[g4] at u2;all_goals
 simp -implicitDefEqProofs [xU,u1,u2,eq_true g1,eq_true g2];all_goals (repeat' split)<;>first|rfl|omega|(simp_all;done)|(simp_all;omega)|skip
def Oo(q:Rq):Bool:=xK q && decide (q.method=1) && !(o6 q.fields).ns
def WX(a b:Rq):Bool:=Oo a && Oo b && decide (a.path=b.path) && decide (a.fields=b.fields)
end M
set_option maxHeartbeats 4000000
namespace M
open Go
end M
set_option maxHeartbeats 4000000
namespace M
open Go
end M
set_option maxHeartbeats 4000000
namespace M
open Go
def DF(d:aQ)(h1:d.cells.length<=1073741824)(h2:d.pending.length<=1073741824):ev LI TT 137 [.agg (bU .af d)]=some (.agg (bU .own d),[.dead]):=by rw[ay (b:=Gw) (rs:=[.c 2 2 true 50]) (n:=1) rfl rfl];simp -implicitDefEqProofs [Gw,Ho,Tu,rowAt,(by omega:d.cells.length*16<=140737488355328),(by omega:d.pending.length*24<=140737488355328),Gx,Mi,Gy,Mj,Mk,Ml];all_goals (repeat' split)<;>first|rfl|omega|(simp_all;done)|(simp_all;omega)|skip
def OQ(d:aQ)(h1:d.cells.length<=1073741824)(h2:d.pending.length<=1073741824):ev LI TT 129 [.agg (bU .af d)]=some (.agg (bU .own d),[.dead]):=by
 rw[ay (b:=Fb) (rs:=[.c 2 2 true 50]) (n:=1) rfl rfl];have u1:=adz d.cells h1;try simp at u1
 have u2:=ady d.pending h2;try simp at u2
 simp -implicitDefEqProofs [Fb,u1,u2];all_goals (repeat' split)<;>first|rfl|omega|(simp_all;done)|(simp_all;omega)|skip
def IP(ws:List Wr):Prop:=∀w∈ws,0<=w.at_/\w.at_<=19
def fL{d:aQ}(h:bJ d=true):IP d.pending/\d.cells.length=20/\d.pending.length<=16:=by simp only[bJ,az,aY] at h;refine⟨λw hw=>?_,by omega,by omega⟩;simpa [ni] using ff.1 h.1.1 w hw
def bQ(d:aQ):aQ:=⟨mV (gR [] true) d.cells d.pending,[]⟩
def Wi(d:aQ)(keep:List Bool)(all:Bool)(hb:d.pending.length<=9223372036854775807)(ho:IP d.pending)(hk:keep.length<=9223372036854775807)(cs:List ag)(hinv:cs.length=20):aI (aj (ev LI TT) (aq TT) vl) [(1,.row .af 1 (keep.map eB)),(2,.bool all),(3,.ptr .own (bU .af d)),(6,.ptr .own [.row .own 1 [],.row .own 2 []]),(7,.ptr .own [.row .own 1 ((cs).map eS),.row .own 2 []]),(8,.int .i64 0)]=some (.exit 0,[(1,.row .af 1 (keep.map eB)),(2,.bool all),(3,.ptr .own (bU .af d)),(6,.ptr .own [.row .own 1 [],.row .own 2 []]),(7,.ptr .own [.row .own 1 (((foldI (iu (gR keep all)) 0 (d.pending) cs)).map eS),.row .own 2 []]),(8,.int .i64 (d.pending).length),(18,.bool false)]):=by
 refine gT (f:=aj (ev LI TT) (aq TT) vl) (d.pending) (λi (cs:List ag)=>[(1,.row .af 1 (keep.map eB)),(2,.bool all),(3,.ptr .own (bU .af d)),(6,.ptr .own [.row .own 1 [],.row .own 2 []]),(7,.ptr .own [.row .own 1 ((cs).map eS),.row .own 2 []]),(8,.int .i64 i)]) (iu (gR keep all)) (λcs=>[(1,.row .af 1 (keep.map eB)),(2,.bool all),(3,.ptr .own (bU .af d)),(6,.ptr .own [.row .own 1 [],.row .own 2 []]),(7,.ptr .own [.row .own 1 ((cs).map eS),.row .own 2 []]),(8,.int .i64 (d.pending).length),(18,.bool false)]) (λi (cs:List ag)=>cs.length=20) cs hinv (λi b cs hi hl hinv=>?_) (λi b cs hi hinv=>?_) (λcs hinv=>?_)
 ·have hw:=aU i (by first|omega|(simp at hl;omega));obtain⟨_,rfl⟩:=aL.1 hi;have h1:=ho _ (cy hl);have h2:(d.pending[i]).at_.toNat<cs.length:=by omega
  cases all
  ·by_cases h4:i<keep.length;·cases h5:keep[i]<;>simp -implicitDefEqProofs [vl,Ci,hl,hw,h1,h2,iu,gR,h4,h5]
   ·simp -implicitDefEqProofs [vl,Ci,hl,hw,h1,h2,iu,gR,h4]
  simp -implicitDefEqProofs [vl,Ci,hl,hw,h1,h2,iu,gR]
 ·rw[Fy];exact hinv
 ·simp -implicitDefEqProofs [vl,Ci]
def O5(d:aQ)(keep:List Bool)(all:Bool)(h:bJ d=true)(hk:keep.length<=9223372036854775807):ev LI TT 221 [.agg (bU .af d),.row .af 1 (keep.map eB),.bool all]=some (.agg (bU .own (⟨mV (gR keep all) d.cells d.pending,[]⟩)),[.dead,.dead,.dead]):=by
 rw[ay (b:=GC) (rs:=[.c 6 2 true 50]) (n:=3) rfl rfl];obtain⟨h0,h1,h1'⟩:=fL h;have h2:=Wi d keep all (by omega) h0 hk d.cells h1;try simp at h2
 simp -implicitDefEqProofs [GC,h1,h2,mV,Ho,rowAt];all_goals (repeat' split)<;>first|rfl|omega|(simp_all;done)|(simp_all;omega)|skip
def zA(d:aQ)(h:bJ d=true):ev LI TT 148 [.agg (bU .af d)]=some (.agg (bU .own (bQ d)),[.dead]):=by
 rw[ay (b:=Gd) (rs:=[.c 2 2 true 50]) (n:=1) rfl rfl];obtain⟨h0,h1,h1'⟩:=fL h;have h2:=tJ d (by omega);have h3:=O5 d [] true h (by simp);rw[h] at h2;try simp at h2
 try simp at h3
 simp -implicitDefEqProofs [Gd,h2,h3,bQ];all_goals (repeat' split)<;>first|rfl|omega|(simp_all;done)|(simp_all;omega)|skip
def Vu(ws:List Wr)(hb:ws.length<=9223372036854775807)(ho:IP ws)(cs:List ag)(hinv:cs.length=20):aI (aj (ev LI TT) (aq TT) AG) [(0,.ax 100000 [] 0 0),(4,.ax 100000 [] 0 0),(5,.ax 100000 [] 0 0),(6,.ax 100000 [] 0 1),(7,.ref 100000 [(0,1)]),(8,.int .i64 ws.length),(9,.int .i64 0),(100000,.ptr .own [.row .own 1 ((cs).map eS),.row .own 2 (ws.map eW)])]=some (.exit 0,[(0,.ax 100000 [] 0 0),(4,.ax 100000 [] 0 0),(5,.ax 100000 [] 0 0),(6,.ax 100000 [] 0 1),(7,.ref 100000 [(0,1)]),(8,.int .i64 ws.length),(9,.int .i64 (ws).length),(10,.bool false),(100000,.ptr .own [.row .own 1 (((foldI (iu (gR [] true)) 0 (ws) cs)).map eS),.row .own 2 (ws.map eW)])]):=by
 refine gT (f:=aj (ev LI TT) (aq TT) AG) (ws) (λi (cs:List ag)=>[(0,.ax 100000 [] 0 0),(4,.ax 100000 [] 0 0),(5,.ax 100000 [] 0 0),(6,.ax 100000 [] 0 1),(7,.ref 100000 [(0,1)]),(8,.int .i64 ws.length),(9,.int .i64 i),(100000,.ptr .own [.row .own 1 ((cs).map eS),.row .own 2 (ws.map eW)])]) (iu (gR [] true)) (λcs=>[(0,.ax 100000 [] 0 0),(4,.ax 100000 [] 0 0),(5,.ax 100000 [] 0 0),(6,.ax 100000 [] 0 1),(7,.ref 100000 [(0,1)]),(8,.int .i64 ws.length),(9,.int .i64 (ws).length),(10,.bool false),(100000,.ptr .own [.row .own 1 ((cs).map eS),.row .own 2 (ws.map eW)])]) (λi (cs:List ag)=>cs.length=20) cs hinv (λi b cs hi hl hinv=>?_) (λi b cs hi hinv=>?_) (λcs hinv=>?_)
 ·have hw:=aU i (by first|omega|(simp at hl;omega));obtain⟨_,rfl⟩:=aL.1 hi;have h1:=ho _ (cy hl);have h2:(ws[i]).at_.toNat<cs.length:=by omega
  simp -implicitDefEqProofs [AG,KB,hl,hw,h1,h2,iu,gR]
 ·rw[Fy];exact hinv
 ·simp -implicitDefEqProofs [AG,KB]
def Xx(d:aQ)(h:bJ d=true):ev LI TT 141 [.ptr .own (bU .own d)]=some (.ak [],[.ptr .own (bU .own (bQ d))]):=by
 rw[ay (b:=ES) (rs:=[]) (n:=1) rfl rfl];obtain⟨h0,h1,h1'⟩:=fL h;have h2:=Vu d.pending (by omega) h0 d.cells h1;try simp at h2
 simp -implicitDefEqProofs [ES,h1,h2,mV,bQ];all_goals (repeat' split)<;>first|rfl|omega|(simp_all;done)|(simp_all;omega)|skip
def zz(d:aQ)(at_:Int)(t:ag)(h:bJ d=true)(ha:0<=at_/\at_<=19)(hp:d.pending.length<16):ev LI TT 122 [.agg (bU .af d),.int .i64 at_,.str ⟨t.toArray⟩]=some (.ak [.agg (bU .own (⟨d.cells,d.pending++[⟨at_,t⟩]⟩)),.bool true],[.dead,.dead,.dead]):=by
 rw[ay (b:=xO) (rs:=[.c 6 2 true 50,.t 7]) (n:=3) rfl rfl];obtain⟨h0,h1,h1'⟩:=fL h;have h2:=tJ d (by omega);have h3:=DF d (by omega) (by omega);rw[h] at h2;try simp at h2
 try simp at h3
 have h4:¬(d.pending.length:Int)=16:=by omega
 have h5:(d.pending.length+1)*24<=140737488355328:=by omega
 simp -implicitDefEqProofs [xO,h2,h3,h4,h5,ha,bY,rowAt];all_goals (repeat' split)<;>first|rfl|omega|(simp_all;done)|(simp_all;omega)|skip
def lp(d:aQ)(a:Int)(t:ag):aQ:=if 16<=(d.pending.length:Int) then ⟨(bQ d).cells,[⟨a,t⟩]⟩ else ⟨d.cells,d.pending++[⟨a,t⟩]⟩
def FO(s:Sh)(a:Int)(t:ag):Sh:=⟨lp s.aG a t,s.ai,s.aD,s.next,s.seq⟩
def tW{d:aQ}(h:bJ d=true):bJ (bQ d)=true:=by obtain⟨h0,h1,h1'⟩:=fL h;have:=RR (gR [] true) d.cells d.pending;unfold bJ bQ;simp only[this,h1];rfl
def O8(s:Sh)(at_:Int)(t:ag)(h:bJ s.aG=true)(ha:0<=at_/\at_<=19):ev LI TT 145 [.agg (aH .own s),.int .i64 at_,.str ⟨t.toArray⟩]=some (.agg (aH .own (FO s at_ t)),[.dead,.dead,.dead]):=by
 rw[ay (b:=Ct) (rs:=[.c 6 6 true 54]) (n:=3) rfl rfl];obtain⟨h0,h1,h1'⟩:=fL h;have h2:=zA s.aG h;try simp at h2
 unfold FO lp;by_cases g:(s.aG.pending.length:Int)=16
 ·have h3:=zz (bQ s.aG) at_ t (tW h) ha (by simp[bQ]);try simp[bQ] at h3
  have g2:(16:Int)<=s.aG.pending.length:=by omega
  simp -implicitDefEqProofs [Ct,h2,h3,g,bQ]
 have h3:=zz s.aG at_ t h ha (by omega);try simp at h3
 have g2:¬(16:Int)<=s.aG.pending.length:=by omega
 simp -implicitDefEqProofs [Ct,h3,g,g2];all_goals (repeat' split)<;>first|rfl|omega|(simp_all;done)|(simp_all;omega)|skip
def nZ(a:Int):Int:=if a=19 then 5 else a+1
def O6(a:Int)(h:5<=a/\a<=19):ev LI TT 139 [.int .i64 a]=some (.int .i64 (nZ a),[.dead]):=by rw[ay (b:=GF) (rs:=[.t 2]) (n:=1) rfl rfl];unfold nZ;have hw:IntKind.i64.wrap (a+1)=a+1:=bX (by omega) (by omega);simp -implicitDefEqProofs [GF,hw];all_goals (repeat' split)<;>first|rfl|omega|(simp_all;done)|(simp_all;omega)|skip
def XP(a:Int)(h:5<=a/\a<=19):ev LI TT 205 [.int .i64 a]=some (.int .i64 (nZ a),[.dead]):=by
 rw[ay (b:=A6) (rs:=[.t 2]) (n:=1) rfl rfl];unfold nZ;have hw:IntKind.i64.wrap (a+1)=a+1:=bX (by omega) (by omega);by_cases g:a=19;·subst g;have h20:IntKind.i64.wrap 20=20:=bX (by omega) (by omega);simp -implicitDefEqProofs [A6,h20]
 have g2:¬a+1=20:=by omega
 simp -implicitDefEqProofs [A6,hw,g,g2];all_goals (repeat' split)<;>first|rfl|omega|(simp_all;done)|(simp_all;omega)|skip
def gZ(a b:Ob):Bool:=decide (a.path=b.path) && decide (a.names=b.names) && decide (a.values=b.values)
def O9(a:Ob)(b:Ob)(ha:b8 a<=1073741824)(hb:b8 b<=1073741824):ev LI TT 138 [.agg (bw .af a),.agg (bw .af b)]=some (.bool (gZ a b),[.dead,.dead]):=by
 rw[ay (b:=yt) (rs:=[.t 4]) (n:=2) rfl rfl];have hw:b8 a=a.path.length+wL wS a.names+wL wS a.values+bZ a.resp:=rfl;have dI:b8 b=b.path.length+wL wS b.names+wL wS b.values+bZ b.resp:=rfl;have l1:=bE (w:=wS) a.names;have l2:=bE (w:=wS) a.values;have l3:=bE (w:=wS) b.names;have l4:=bE (w:=wS) b.values;unfold gZ;have u1:=Jk a.names b.names (by omega) (by omega);try simp at u1
 have u2:=Jk a.values b.values (by omega) (by omega);try simp at u2
 by_cases g:a.path=b.path;rotate_left;·simp -implicitDefEqProofs [yt,eq_false g]
 by_cases g2:a.names=b.names;rotate_left;·rw[decide_eq_false g2] at u1;simp -implicitDefEqProofs [yt,eq_true g,u1,eq_false g2]
 rw[decide_eq_true g2] at u1;simp -implicitDefEqProofs [yt,u1,u2,eq_true g,eq_true g2];all_goals (repeat' split)<;>first|rfl|omega|(simp_all;done)|(simp_all;omega)|skip
def XR(a:Ob)(b:Ob)(ha:b8 a<=1073741824)(hb:b8 b<=1073741824):ev LI TT 204 [.agg (bw .af a),.agg (bw .af b)]=some (.bool (gZ a b),[.dead,.dead]):=by
 rw[ay (b:=wW) (rs:=[.t 4]) (n:=2) rfl rfl];have hw:b8 a=a.path.length+wL wS a.names+wL wS a.values+bZ a.resp:=rfl;have dI:b8 b=b.path.length+wL wS b.names+wL wS b.values+bZ b.resp:=rfl;have l1:=bE (w:=wS) a.names;have l2:=bE (w:=wS) a.values;unfold gZ;have u1:=Jl a.names b.names (by omega);try simp at u1
 have u2:=Jl a.values b.values (by omega);try simp at u2
 by_cases g:a.path=b.path;rotate_left;·simp -implicitDefEqProofs [wW,eq_false g]
 by_cases g2:a.names=b.names;rotate_left;·rw[decide_eq_false g2] at u1;simp -implicitDefEqProofs [wW,eq_true g,u1,eq_false g2]
 rw[decide_eq_true g2] at u1;simp -implicitDefEqProofs [wW,u1,u2,eq_true g,eq_true g2];all_goals (repeat' split)<;>first|rfl|omega|(simp_all;done)|(simp_all;omega)|skip
end M
namespace M
open Go
def cx(s:ag):Int×ag×Bool:=match cE 10 s with
 |some (l,b)=>match bp 32 l with
  |[_,w,_]=>if di ((bx w).getD 0:Nat) b=s then ((((bx w).getD 0:Nat):Int),b,true) else (0,[],false)
  |_=>(0,[],false)
 |none=>(0,[],false)
def O1(s:ag)(hb:s.length<=1073741824):ev LI TT 132 [.str ⟨s.toArray⟩]=some (.ak [.int .i64 ((cx s).1),.str ⟨((cx s).2.1).toArray⟩,.bool ((cx s).2.2)],[.dead]):=by
 rw[ay (b:=qw) (rs:=[.t 2,.t 3,.t 4]) (n:=1) rfl rfl];have u1:=DE s 0 (by omega) hb;simp only[xj,xh,Iq] at u1;unfold cx;cases hc:cE 10 s with
 |none=>rw[hc] at u1;have u2:=wh [] (by simp);simp at u1 u2;simp -implicitDefEqProofs [qw,u1,u2]
 |some p=>
 obtain⟨l,b⟩:=p;rw[hc] at u1;have hd:=tS hc;simp only at hd;obtain⟨d1,d2,d3⟩:=hd;have u2:=wh l (by omega);have d4:¬(((s.length - b.length:Nat):Int)<0):=by omega
 have d5:s.length - b.length<=s.length:=by omega
 have d6:¬s=[]:=by rintro rfl;simp at d1
 have hm:=oH 32 l;simp only at u1;generalize s.length - b.length=e at u1 d2 d4 d5;have d7:(e:Int)<=s.length:=by omega
 rcases hw:bp 32 l with _|⟨w0,_|⟨w1,_|⟨w2,_|⟨w3,ws⟩⟩⟩⟩;·exact absurd hw (yH 32 l)
 ·rw[hw] at u2;simp at u1 u2;simp -implicitDefEqProofs [qw,u1,u2,hw,d4]
 ·rw[hw] at u2;simp at u1 u2;simp -implicitDefEqProofs [qw,u1,u2,hw,d4]
 rotate_left
 ·rw[hw] at u2;have hn:¬((ws.length:Int)+1+1+1+1=3):=by omega
  simp at u1 u2;simp -implicitDefEqProofs [qw,u1,u2,hw,d4,hn]
 have hw1:=hm w1 (by rw[hw];simp);rw[hw] at u2;have u3:=vZ w1 (by omega);have u4:=zE ((bx w1).getD 0:Nat) b (by omega);simp at u1 u2 u3;obtain⟨n,hn⟩:∃n,(bx w1).getD 0=n:=⟨_,rfl⟩;rw[hn] at u3 u4;have d8:s.length - e=b.length:=by rw[<-d2];simp
 by_cases g:di (n:Int) b=s;·simp -implicitDefEqProofs [qw,u1,u2,hw,u3,u4,d2,d4,d5,d6,d7,d8,hn,eq_true g,Lib.extract_mk]
 simp -implicitDefEqProofs [qw,u1,u2,hw,u3,u4,d2,d4,d5,d6,d7,d8,hn,eq_false g,Lib.extract_mk];all_goals (repeat' split)<;>first|rfl|omega|(simp_all;done)|(simp_all;omega)|skip
def OG(s:ag)(hb:s.length<=1073741824):ev LI TT 241 [.str ⟨s.toArray⟩]=some (.ak [.int .i64 ((cx s).1),.str ⟨((cx s).2.1).toArray⟩,.bool ((cx s).2.2)],[.dead]):=by
 rw[ay (b:=mR) (rs:=[.t 2,.t 3,.t 4]) (n:=1) rfl rfl];have u1:=wj s [10] (by omega);have ec:=DR 10 s;unfold cx;cases hc:cE 10 s with
 |none=>rw[hc] at ec;have u2:=tL s 32 (by omega);simp only at ec;rw[ec] at u1;simp at u1 u2;simp -implicitDefEqProofs [mR,u1,u2]
 |some p=>
 obtain⟨l,b⟩:=p;rw[hc] at ec;simp only at ec;rw[ec] at u1;have hd:=tS hc;simp only at hd;obtain⟨d1,d2,d3⟩:=hd;have u2:=tL l 32 (by omega);have d6:¬s=[]:=by rintro rfl;simp at d1
 have hm:=oH 32 l;simp only at u1;rcases hw:bp 32 l with _|⟨w0,_|⟨w1,_|⟨w2,_|⟨w3,ws⟩⟩⟩⟩;·exact absurd hw (yH 32 l)
 ·rw[hw] at u2;simp at u1 u2;simp -implicitDefEqProofs [mR,u1,u2,hw]
 ·rw[hw] at u2;simp at u1 u2;simp -implicitDefEqProofs [mR,u1,u2,hw]
 rotate_left
 ·rw[hw] at u2;have hn:¬((ws.length:Int)+1+1+1+1=3):=by omega
  simp at u1 u2;simp -implicitDefEqProofs [mR,u1,u2,hw,hn]
 have hw1:=hm w1 (by rw[hw];simp);rw[hw] at u2;have u3:=zy w1 (by omega);cases hq:bx w1 with
 |none=>
  rw[hq] at u3;have g:¬di ((0:Nat):Int) b=s:=by rw[show di ((0:Nat):Int) b=[] by unfold di;rw[aC (by omega)]];exact λh=>d6 h.symm
  simp at u1 u2 u3 g;simp -implicitDefEqProofs [mR,u1,u2,hw,hq,u3,eq_false g]
 |some n=>
 rw[hq] at u3;have u4:=XF (n:Int) b (by omega);simp at u1 u2 u3;by_cases h0:n=0
 ·subst h0;have g:¬di ((0:Nat):Int) b=s:=by rw[show di ((0:Nat):Int) b=[] by unfold di;rw[aC (by omega)]];exact λh=>d6 h.symm
  simp at g;simp -implicitDefEqProofs [mR,u1,u2,hw,hq,u3,eq_false g]
 by_cases g:di (n:Int) b=s;·simp -implicitDefEqProofs [mR,u1,u2,hw,hq,u3,u4,h0,eq_true g]
 simp -implicitDefEqProofs [mR,u1,u2,hw,hq,u3,u4,h0,eq_false g];all_goals (repeat' split)<;>first|rfl|omega|(simp_all;done)|(simp_all;omega)|skip
end M
set_option maxHeartbeats 4000000
namespace M
open Go
def S9{s:ag}(h:(cx s).2.2=false):cx s=(0,[],false):=by
 unfold cx at h⊢;(repeat' split at h)<;>first|(cases h;done)|skip
 all_goals (repeat' split)<;>simp_all
def FV{s:ag}(h:(cx s).2.2=true):1<=(cx s).1/\(cx s).1<=100000/\(cx s).2.1.length<=2000/\di (cx s).1 (cx s).2.1=s/\s≠[]:=by
 unfold cx at h⊢;cases hc:cE 10 s with
 |none=>simp[hc] at h
 |some p=>
  obtain⟨l,b⟩:=p;have hs:s≠[]:=by rintro rfl;simp[cE] at hc
  simp only[hc] at h⊢;split at h
  ·rename_i w0 w w2 hw;split at h
   ·rename_i g;simp only[hw,g,cY];have g2:=g;unfold di at g;split at g;·rename_i c;exact⟨c.1,c.2.1,c.2.2,by trivial,hs⟩
    ·exact absurd g.symm hs
   ·cases h
  ·cases h
def FT(s:ag):(cx s).2.1.length<=2000:=by
 cases h:(cx s).2.2;·rw[S9 h];simp
 ·exact(FV h).2.2.1
def MX{s:ag}(h:en s=true):s.length<=20:=by unfold en at h;simp only[az,aY] at h;omega
def M4{s:ag}(h:fP s=true):s.length<=60:=by unfold fP at h;simp only[az,aY] at h;omega
def SR{s:ag}(h:iw s=true):s.length<=60:=by unfold iw at h;simp only[az,aY] at h;omega
def oJ{α:Type}{w:α->Nat}{l:List α}{n m:Nat}(h:∀x∈l,w x<=n)(hl:l.length<=m):wL w l<=m*(n+1):=by
 suffices H:wL w l<=l.length*(n+1) from jo H (nD _ hl)
 clear hl;induction l with
 |nil=>simp[wL]
 |cons x l ih=>have h1:=h x (bq ..);have h2:=ih λy hy=>h y (bO _ hy);simp only[wL,cu,bn,oN,e8,Ig] at h2⊢;omega
def LG{r:bP}(h:fm r=true):bZ r<=800:=by
 have A:=FZ h;have h1:wL aO r.fields<=8*(80+1):=oJ (λf hf=>by have:=Ec A.f hf;have h1:=MX this.1;have h2:=M4 this.2.1;simp only[aO];omega) (P7 A.f)
 have h2:=A.b;simp only[bZ];omega
def uI{o:Ob}(h:dx o=true):b8 o<=1300:=by
 have A:=xD h;have h1:=LG A.resp;have h2:=SR A.path;have hn:∀x∈o.names,x.length<=20:=by have:=A.names;unfold ng at this;simp only[az] at this;exact λx hx=>MX (ff.1 this.1 x hx)
 have h3:wL wS o.names<=4*(20+1):=oJ hn A.n4;have h4:wL wS o.values<=4*(60+1):=oJ (λx hx=>M4 (A.vals x hx)) (by have:=A.len;have:=A.n4;omega);simp only[b8];omega
def SB{s:ag}(h:(gU s).2=true):dx (gU s).1=true/\dA (gU s).1=s:=by have:=S8 h;refine⟨this.1,?_⟩;have h2:dx (gU s).1=true:=this.1;unfold dA;rw[au h2];exact this.2
def SC(s:ag):b8 (gU s).1<=1300:=by
 cases h:(gU s).2;·have:gU s=(cW,false):=S7 h;rw[this];decide
 ·exact uI (SB h).1
def Xd{b:Bn}(h:dF b=true):aT b<=120:=by
 unfold dF at h;simp only[az,aY] at h;obtain⟨_,h⟩:=h;split at h;·simp only[az,aY] at h;have:=SR h.1;simp[aT,h.2];omega
 ·split at h;·simp only[az] at h;have h1:=MX h.1;have h2:=M4 h.2;simp only[aT];omega
  ·cases h
def Xk{b:Bn}(h:dZ b≠[]):dF b=true:=by
 unfold dZ at h;split at h;·assumption
 ·exact absurd rfl h
def Xf{s:ag}(h:(gv s).2=true)(hs:s≠[]):dF (gv s).1=true/\dZ (gv s).1=s:=by
 unfold gv tG at h⊢;split at h
 ·split at h;·rename_i hw hg;simp only[hw,hg,cY];exact⟨Xk (by rw[hg];exact hs),trivial⟩
  ·cases h
 ·cases h
def Xe:gv []=(zB,false):=by simp[gv,tG,iW,cE,bp]
def Xg{s:ag}(h:(gv s).2=true):dF (gv s).1=true/\dZ (gv s).1=s:=by refine Xf h ?_;rintro rfl;rw[Xe] at h;cases h
def uD(m n:Int):Int:=if n<100000 then max m n else m
def gC(d:aQ)(i:Nat)(g:List Bn×Int)(_:Nat):(List Bn×Int) ⊕ ((List Bn×Int)×Int×Bn×Nat):=
 if (cx (cC d i)).2.2=true/\(gv (cx (cC d i)).2.1).2=true then .inl (g.1++[(gv (cx (cC d i)).2.1).1],uD g.2 (cx (cC d i)).1) else .inr (g,(cx (cC d i)).1,(gv (cx (cC d i)).2.1).1,i)
def zw{α β:Type}:α ⊕ (α×β)->α
 |.inl a=>a
 |.inr a=>a.1
def dw(d:aQ):List Bn×Int:=zw (cN (gC d) 0 (List.range 5) ([],0))
noncomputable def kE(bs:List Bn)(d:aQ)(i:Nat)(g:List Kp×Int)(_:Nat):List Kp×Int:=
 if (cx (cC d ((5+i:Nat):Int))).2.2=true/\(gU (cx (cC d ((5+i:Nat):Int))).2.1).2=true/\(cx (cC d ((5+i:Nat):Int))).1<100000 then
  (if fI bs (gU (cx (cC d ((5+i:Nat):Int))).2.1).1=true then g.1 else g.1++[⟨(gU (cx (cC d ((5+i:Nat):Int))).2.1).1,((5+i:Nat):Int),(cx (cC d ((5+i:Nat):Int))).1⟩],max g.2 (cx (cC d ((5+i:Nat):Int))).1)
 else g
noncomputable def jd(bs:List Bn)(d:aQ)(m:Int):List Kp×Int:=foldI (kE bs d) 0 (List.range 15) ([],m)
def nW(all:List Kp)(i:Nat)(k:Kp):Bool:=(all.drop (i+1)).any λx=>decide (x.seq=k.seq)||gZ x.obj k.obj
def mY(all:List Kp)(i:Nat)(g:List Kp×Int)(k:Kp):List Kp×Int:=if nW all i k=true then g else (g.1++[k],nZ k.at_)
def iJ:List Kp->List Kp
 |[]=>[]
 |k::l=>if (l.any λx=>decide (x.seq=k.seq)||gZ x.obj k.obj)=true then iJ l else k::iJ l
def uF(l:List Kp):Int:=l.getLast?.elim 5 λk=>nZ k.at_
def kD(all:List Kp):List Kp×Int:=(iJ all,uF (iJ all))
def uB:∀l:List Kp,List.Sublist (iJ l) l
 |[]=>List.Sublist.refl _
 |k::l=>by
  unfold iJ;split;·exact(uB l).trans (List.sublist_cons_self ..)
  ·exact(uB l).cons_cons k
def K2:∀l:List Kp,(iJ l).Pairwise λx y=>y.seq≠x.seq/\gZ y.obj x.obj=false
 |[]=>List.Pairwise.nil
 |k::l=>by
  unfold iJ;split;·exact K2 l
  ·rename_i h;rw[eZ];refine⟨λy hy=>?_,K2 l⟩;have:=(uB l).subset hy;simp only[Bool.not_eq_true,NN,tg,aY,not_or] at h;have:=h y this;exact⟨this.1,by simpa using this.2⟩
def RT(all:List Kp):∀(l:List Kp) (i:Nat) (g:List Kp×Int),all.drop i=l->foldI (mY all) i l g=(g.1++iJ l,if iJ l=[] then g.2 else uF (iJ l))
 |[],i,g,_=>by simp[foldI,iJ]
 |k::l,i,g,h=>by
  have hd:all.drop (i+1)=l:=by rw[<-Dd,h];rfl
  rw[foldI,RT all l (i+1) _ hd];unfold mY nW;rw[hd];rw[show iJ (k::l)=(if (l.any λx=>decide (x.seq=k.seq)||gZ x.obj k.obj)=true then iJ l else k::iJ l) from rfl];split;·rfl
  ·simp only[lH,U5,reduceCtorEq,dQ];congr 1;cases hL:iJ l with
   |nil=>simp[uF]
   |cons a L=>simp[uF]
def RS(all:List Kp):foldI (mY all) 0 all ([],5)=kD all:=by
 rw[RT all all 0 _ rfl];unfold kD;simp only[j7];congr 1;split;·rename_i h;rw[h];rfl
 ·rfl
noncomputable def fF(d:aQ):List Kp×Int:=jd (dw d).1 d (dw d).2
noncomputable def eO(d:aQ):List Kp:=gF Kp.seq (fF d).1
noncomputable def dY(d:aQ):Sh:=⟨d,(kD (eO d)).1,(dw d).1,(kD (eO d)).2,(fF d).2+1⟩
structure vT (k:Kp):Prop where
 o:dx k.obj=true
 a:5<=k.at_/\k.at_<=19
 s:1<=k.seq/\k.seq<100000
def FD(d:aQ){i:Nat}{g:List Bn×Int}(hg:(∀b∈g.1,dF b=true)/\g.1.length<=i/\0<=g.2/\g.2<100000){x:Nat}:
  (∀g',gC d i g x=.inl g'->(∀b∈g'.1,dF b=true)/\g'.1.length<=i+1/\0<=g'.2/\g'.2<100000)/\∀e,gC d i g x=.inr e->e.1=g:=by
 unfold gC;by_cases c:(cx (cC d i)).2.2=true/\(gv (cx (cC d i)).2.1).2=true
 ·rw[au c];refine⟨λg' h=>?_,λe h=>by cases h⟩;have r:=FV c.1;have b:=Xg c.2;cases h;refine⟨λy hy=>?_,by simp;omega,?_,?_⟩
  ·rcases dO.1 hy with hy|hy;·exact hg.1 y hy
   ·simp at hy;subst hy;exact b.1
  ·simp only[uD];split<;>omega
  ·simp only[uD];split<;>omega
 ·rw[aC c];exact⟨λg' h=>(by cases h),λe h=>(by cases h;rfl)⟩
def Bo(d:aQ):(∀b∈(dw d).1,dF b=true)/\(dw d).1.length<=5/\0<=(dw d).2/\(dw d).2<100000:=by
 have H:=LQ (go:=gC d) (I:=λi g=>(∀b∈g.1,dF b=true)/\g.1.length<=i/\0<=g.2/\g.2<100000) (O:=λe=>(∀b∈e.1.1,dF b=true)/\e.1.1.length<=5/\0<=e.1.2/\e.1.2<100000) 5
  (λi g b hi hg=>⟨(FD d hg).1,λe he=>by rw[(FD d hg).2 e he];exact⟨hg.1,by omega,hg.2.2⟩⟩) (List.range 5) 0 ([],0) (by simp) (by simp)
 unfold dw;cases hr:cN (gC d) 0 (List.range 5) ([],0) with
 |inl g=>exact H.1 g hr
 |inr g=>exact H.2 g hr
def Qq{β γ:Type}{go:Nat->γ->β->γ}(I:Nat->γ->Prop):∀(l:List β) (i:Nat) (g:γ),(∀j b g,i<=j->j<i+l.length->I j g->I (j+1) (go j g b))->I i g->I (i+l.length) (foldI go i l g)
 |[],i,g,_,h=>h
 |b::l,i,g,hs,h=>by rw[foldI,cu,show i+(l.length+1)=i+1+l.length by omega];exact Qq I l (i+1) _ (λj b g h1 h2 h3=>hs j b g (by omega) (by simp;omega) h3) (hs i b g (eC _) (by simp) h)
structure tB (i:Nat) (g:List Kp×Int):Prop where
 k:∀k∈g.1,vT k
 n:g.1.length<=i
 m:0<=g.2/\g.2<100000
 q:∀k∈g.1,k.seq<=g.2
 a:∀k∈g.1,k.at_<5+i
 d:g.1.Pairwise λx y=>x.at_≠y.at_
def Le(bs:List Bn)(d:aQ){i:Nat}(hi:i<15){g:List Kp×Int}(x:Nat)(h:tB i g):tB (i+1) (kE bs d i g x):=by
 unfold kE;split
 ·rename_i c;have r:=FV c.1;have o:=SB c.2.1;have hm:=h.m;split;·exact⟨h.k,by have:=h.n;simp only;omega,by simp only;omega,λk hk=>by have:=h.q k hk;simp only;omega,λk hk=>by have:=h.a k hk;omega,h.d⟩
  ·generalize cx (cC d ((5+i:Nat):Int))=rr at*;generalize ij:((5+i:Nat):Int)=at_;refine⟨λk hk=>?_,by have:=h.n;rw[e9,Vl];omega,by constructor<;>(try dsimp only)<;>omega,λk hk=>?_,λk hk=>?_,?_⟩
   ·rcases dO.1 hk with hk|hk;·exact h.k k hk
    ·rw[fy] at hk;subst hk;exact⟨o.1,⟨by (try dsimp only);omega,by (try dsimp only);omega⟩,⟨r.1,c.2.2⟩⟩
   ·rcases dO.1 hk with hk|hk;·have:=h.q k hk;(try dsimp only);omega
    ·rw[fy] at hk;subst hk;(try dsimp only);omega
   ·rcases dO.1 hk with hk|hk;·have:=h.a k hk;omega
    ·rw[fy] at hk;subst hk;(try dsimp only);omega
   ·dsimp only;rw[s7];refine⟨h.d,U3 ..,λx hx y hy=>?_⟩;rw[fy] at hy;subst hy;have:=h.a x hx;(try dsimp only)
    omega
 ·exact⟨h.k,by have:=h.n;omega,h.m,h.q,λk hk=>by have:=h.a k hk;omega,h.d⟩
def Sb(bs:List Bn)(d:aQ)(m:Int)(hm:0<=m/\m<100000):tB 15 (jd bs d m):=by have:=Qq (go:=kE bs d) tB (List.range 15) 0 ([],m) (λj b g h1 h2 h3=>Le bs d (by simp at h2;omega) b h3) ⟨by simp,by simp,hm,by simp,by simp,by simp⟩;simpa [jd] using this
def adY(bs:List Bn)(d:aQ)(m:Int)(hm:0<=m/\m<100000):(jd bs d m).1.length<=15:=(Sb bs d m hm).n
def xl(d:aQ):tB 15 (fF d):=Sb _ d _ (Bo d).2.2
def La{d:aQ}{k:Kp}:k∈eO d↔k∈(fF d).1:=(Hx Kp.seq _).mem_iff
def K9(d:aQ):(eO d).length<=15:=by unfold eO;rw[(Hx Kp.seq _).length_eq];exact(xl d).n
def Sl{a:Int}(h:5<=a/\a<=19):5<=nZ a/\nZ a<=19:=by unfold nZ;split<;>omega
def aer{l:List Kp}(h:∀k∈l,5<=k.at_/\k.at_<=19):5<=uF l/\uF l<=19:=by
 unfold uF;cases hl:l.getLast? with
 |none=>simp
 |some k=>exact Sl (h k (List.mem_of_getLast? hl))
def Bm{d:aQ}{k:Kp}(h:k∈eO d):vT k/\k.seq<=(fF d).2:=⟨(xl d).k k (La.1 h),(xl d).q k (La.1 h)⟩
end M
set_option maxHeartbeats 4000000
namespace M
open Go
def TL(c:ag):∀(n:Nat) (s:ag),∀w∈Lib.splitK c 0 n s,w.length<=s.length
 |0,s,w,h=>by simp[Lib.splitK] at h;subst h;exact eC _
 |n+1,s,w,h=>by
  unfold Lib.splitK at h;split at h;·simp at h;subst h;exact eC _
  ·rcases b9.1 h with rfl|h;·simp;omega
   ·have:=TL c n _ w h;simp at this;omega
def TM(s c:ag):∀w∈Lib.split s c,w.length<=s.length:=TL c _ s
def ags(c:ag)(n:Nat)(s:ag):Lib.splitK c 0 n s≠[]:=by
 cases n with
 |zero=>simp[Lib.splitK]
 |succ n=>unfold Lib.splitK;split<;>simp
def agw(s c:ag):Lib.split s c≠[]:=ags c _ s
def zZ(l:ag):aJ:=⟨(Lib.cut l colon).1,(Lib.cut l colon).2.1⟩
def qa(n:Nat)(i:Nat)(g:List aJ)(l:ag):List aJ ⊕ (List aJ×Option (Nat×ag)):=
 if (Lib.cut l colon).2.2=true then (if i+1=n/\(Lib.cut l colon).1=dJ then .inr (g,some (i,(Lib.cut l colon).2.1)) else .inl (g++[zZ l])) else .inr (g,none)
def xH:List aJ ⊕ (List aJ×Option (Nat×ag))->Option (List aJ)
 |.inl g=>some g
 |.inr x=>if x.2.isSome=true then some x.1 else none
def SO(n:Nat):∀(ls:List ag) (i:Nat) (g:List aJ),i+ls.length=n->xH (cN (qa n) i ls g)=(lP ls).map λfs=>g++fs
 |[],i,g,_=>by simp[cN,xH,lP]
 |l::ls,i,g,h=>by
  have hl:i+1=n↔ls=[]:=by
   rw[cu] at h;constructor;·intro e;exact Iw.1 (by omega)
   ·rintro rfl;simpa using h
  have hp:qa n i g l=if (Lib.cut l colon).2.2=true then (if ls=[]/\(Lib.cut l colon).1=dJ then .inr (g,some (i,(Lib.cut l colon).2.1)) else .inl (g++[zZ l])) else .inr (g,none):=by unfold qa;simp only[hl]
  rw[cN,lP,hp];by_cases c1:(Lib.cut l colon).2.2=true
  ·rw[au c1,au c1];by_cases c2:ls=[]/\(Lib.cut l colon).1=dJ;·rw[au c2,au c2];simp[xH]
   ·rw[aC c2,aC c2];simp only;have:=SO n ls (i+1) (g++[zZ l]) (by rw[cu] at h;omega);rw[this,Option.map_map];congr 1;funext fs;simp[zZ]
  ·rw[aC c1,aC c1];rfl
def Qo{m:Nat}:∀{ls:List ag} {fs:List aJ},(∀l∈ls,l.length<=m)->lP ls=some fs->fs.length<=ls.length/\∀f∈fs,aO f<=2*m
 |[],fs,_,h=>by simp[lP] at h;subst h;simp
 |l::ls,fs,hm,h=>by
  rw[lP] at h;split at h
  ·split at h;·simp at h;subst h;simp
   ·obtain⟨fs',h1,rfl⟩:=kN.1 h;have ih:=Qo (λx hx=>hm x (bO _ hx)) h1;refine⟨by simp;exact ih.1,λf hf=>?_⟩;rcases b9.1 hf with rfl|hf;·have:=DQ l colon;have:=hm l (bq ..);simp only[aO];omega
    ·exact ih.2 f hf
  ·cases h
def SQ{s:ag}{p:ag×List aJ×ag}(h:ld s=some p):p.1.length<=s.length/\wL aO p.2.1<=10*(2*s.length+1)/\p.2.2.length<=s.length:=by
 unfold ld at h;split at h
 ·rename_i g;obtain⟨fs,h1,rfl⟩:=kN.1 h;have hc:=DQ s aZ;have hm:=TM (Lib.cut s aZ).1 crlf;have hw:=Qo (m:=s.length) (λl hl=>by have:=hm l (U0 hl);omega) h1;refine⟨?_,oJ hw.2 (by have:=hw.1;have:=g.2;simp at*;omega),hc.2⟩;cases hs:Lib.split (Lib.cut s aZ).1 crlf with
  |nil=>simp
  |cons a l=>have:=hm a (by rw[hs];simp);simp only[List.headD_cons];omega
 ·cases h
def af3{s:ag}{r:bP}(h:om s=some r):bZ r<=10*(2*s.length+1)+s.length:=by
 unfold om at h;cases hp:ld s with
 |none=>rw[hp] at h;cases h
 |some p=>rw[hp] at h;obtain⟨w,_,rfl⟩:=kN.1 h;have:=SQ hp;simp only[bZ];omega
def VN(b l0:ag)(lt:List ag)(hm:∀l∈lt,l.length<=1073741824)(hl9:lt.length<=9):
  aI (aj (ev LI TT) (aq TT) rR) [(7,.str ⟨b.toArray⟩),(9,.row .own 1 ((l0::lt).map eS)),(10,.row .own 2 []),(31,.ref 9 []),(32,.cut 9 [] 1 (lt.length+1)),(33,.int .i64 lt.length),(34,.int .i64 0)]=
  (match cN (qa lt.length) 0 lt [] with
   |.inl g=>some (.exit 0,[(7,.str ⟨b.toArray⟩),(9,.row .own 1 ((l0::lt).map eS)),(10,.row .own 2 (g.map aR)),(31,.ref 9 []),(32,.cut 9 [] 1 (lt.length+1)),(33,.int .i64 lt.length),(34,.int .i64 lt.length),(35,.bool false)])
   |.inr (g,none)=>some (.ret,[(2,.str ⟨#[]⟩),(3,.row .own 2 []),(4,.str ⟨#[]⟩),(5,.bool false),(10,.row .own 2 (g.map aR))])
   |.inr (g,some (i,v))=>some (.exit 0,[(7,.str ⟨b.toArray⟩),(9,.row .own 1 ((l0::lt).map eS)),(10,.row .own 2 (g.map aR)),(13,.str ⟨dJ.toArray⟩),(14,.str ⟨v.toArray⟩),(31,.ref 9 []),(32,.cut 9 [] 1 (lt.length+1)),(33,.int .i64 lt.length),(34,.int .i64 i),(55,.bool true)])):=by
 have:=Bl (xt:=0) (f:=aj (ev LI TT) (aq TT) rR) lt (λi (g:List aJ)=>[(7,.str ⟨b.toArray⟩),(9,.row .own 1 ((l0::lt).map eS)),(10,.row .own 2 (g.map aR)),(31,.ref 9 []),(32,.cut 9 [] 1 (lt.length+1)),(33,.int .i64 lt.length),(34,.int .i64 i)]) (qa lt.length)
  (λg=>[(7,.str ⟨b.toArray⟩),(9,.row .own 1 ((l0::lt).map eS)),(10,.row .own 2 (g.map aR)),(31,.ref 9 []),(32,.cut 9 [] 1 (lt.length+1)),(33,.int .i64 lt.length),(34,.int .i64 lt.length),(35,.bool false)])
  (λe=>match e with|(g,none)=>(.ret,[(2,.str ⟨#[]⟩),(3,.row .own 2 []),(4,.str ⟨#[]⟩),(5,.bool false),(10,.row .own 2 (g.map aR))])|(g,some (i,v))=>(.exit 0,[(7,.str ⟨b.toArray⟩),(9,.row .own 1 ((l0::lt).map eS)),(10,.row .own 2 (g.map aR)),(13,.str ⟨dJ.toArray⟩),(14,.str ⟨v.toArray⟩),(31,.ref 9 []),(32,.cut 9 [] 1 (lt.length+1)),(33,.int .i64 lt.length),(34,.int .i64 i),(55,.bool true)]))
  (λi g=>g.length<=i) [] (by simp) (λi l g hi hl hg=>?_) (λi l g g' hi hg fD=>?_) (λg hg=>?_)
 ·simp only[lF] at this;refine this.trans ?_;cases cN (qa lt.length) 0 lt [] with
  |inl g=>rfl
  |inr e=>obtain⟨g,b⟩:=e;cases b with|none=>rfl|some x=>rfl
 ·have hw:=aU i (by omega);obtain⟨_,rfl⟩:=aL.1 hi;have e1:1+i=i+1:=by omega
  have u1:=wj lt[i] [58,32] (by have:=hm _ (cy hl);omega);have dI:IntKind.i64.wrap ((lt.length:Int)+1 - 2)=(lt.length:Int)+1 - 2:=bX (by omega) (by omega);have hlz:(g.length+1)*32<=140737488355328:=by omega
  unfold qa zZ colon;cases h1:(Lib.cut lt[i] [58,32]).2.2
  ·rw[h1] at u1;try simp at u1
   simp -implicitDefEqProofs [rR,wY,hl,hw,dI,e1,u1,h1,lv,hlz,bY]
  ·rw[h1] at u1;by_cases h2:i+1=lt.length
   ·have gO:(i:Int)=(lt.length:Int)+1 - 2:=by omega
    by_cases h3:(Lib.cut lt[i] [58,32]).1=dJ
    ·rw[h3] at u1;try simp[dJ] at u1
     simp -implicitDefEqProofs [rR,wY,hl,hw,dI,e1,u1,h1,eq_true h2,eq_true gO,h3,lv,hlz,bY,dJ]
    ·have Et:=h3;simp[dJ] at Et;try simp at u1
     simp -implicitDefEqProofs [rR,wY,hl,hw,dI,e1,u1,h1,eq_true h2,eq_true gO,eq_false h3,eq_false Et,lv,hlz,bY]
   ·have gO:¬(i:Int)=(lt.length:Int)+1 - 2:=by omega
    try simp at u1
    simp -implicitDefEqProofs [rR,wY,hl,hw,dI,e1,u1,h1,eq_false h2,eq_false gO,lv,hlz,bY]
 ·unfold qa at fD;split at fD
  ·split at fD;·cases fD
   ·cases fD;simp;omega
  ·cases fD
 ·simp -implicitDefEqProofs [rR,wY]
def XW(s:ag)(hb:s.length<=16777216):ev LI TT 291 [.str ⟨s.toArray⟩]=some (.ak [.str ⟨((ld s).elim [] (λp=>p.1)).toArray⟩,.row .own 2 (((ld s).elim [] (λp=>p.2.1)).map aR),.str ⟨((ld s).elim [] (λp=>p.2.2)).toArray⟩,.bool ((ld s).isSome)],[.dead]):=by
 rw[ay (b:=rS) (rs:=[.t 2,.t 3,.t 4,.t 5]) (n:=1) rfl rfl];have u1:=wj s [13,10,13,10] (by omega);have hc:=DQ s [13,10,13,10];have u2:=Yv (Lib.cut s [13,10,13,10]).1 [13,10] (by omega) (by simp);have hm:=TM (Lib.cut s [13,10,13,10]).1 [13,10];have hne:=agw (Lib.cut s [13,10,13,10]).1 [13,10];have ep:ld s=if (Lib.cut s [13,10,13,10]).2.2=true/\((Lib.split (Lib.cut s [13,10,13,10]).1 [13,10]).length:Int)<=10 then (lP (Lib.split (Lib.cut s [13,10,13,10]).1 [13,10]).tail).map λfs=>((Lib.split (Lib.cut s [13,10,13,10]).1 [13,10]).headD [],fs,(Lib.cut s [13,10,13,10]).2.1) else none:=rfl
 rw[ep];clear ep;generalize Lib.split (Lib.cut s [13,10,13,10]).1 [13,10]=ls at u2 hm hne;generalize Lib.cut s [13,10,13,10]=p at u1 u2 hm hc;obtain⟨hd,bd,ok⟩:=p;try simp only at u1 u2 hm hc
 obtain⟨l0,lt,rfl⟩:∃l0 lt,ls=l0::lt:=by cases ls with|nil=>exact absurd rfl hne|cons a l=>exact⟨_,_,rfl⟩
 cases ok
 ·try simp at u1 u2
  simp -implicitDefEqProofs [rS,u1,u2]
 by_cases g:(((l0::lt).length:Nat):Int)<=10;rotate_left
 ·have g':10<(lt.length:Int)+1:=by simp at g;omega
  have g2:¬(lt.length:Int)+1<=10:=by omega
  try simp at u1 u2
  simp -implicitDefEqProofs [rS,u1,u2,g',g2]
 have g':¬10<(lt.length:Int)+1:=by simp at g;omega
 have g2:(lt.length:Int)+1<=10:=by omega
 have g5:(1:Int)<=(lt.length:Int)+1:=by omega
 have u3:=VN bd l0 lt (λl hl=>by have:=hm l (bO _ hl);omega) (by omega);have u4:=SO lt.length lt 0 [] (by simp);simp only[j7,Option.map_id'] at u4;try simp at u1 u2
 cases hr:cN (qa lt.length) 0 lt [] with
 |inl fs=>rw[hr] at u3 u4;simp[xH] at u3 u4;simp -implicitDefEqProofs [rS,u1,u2,g',g2,g5,u3,<-u4]
 |inr x=>
 obtain⟨fs,x⟩:=x;cases x;·rw[hr] at u3 u4;simp[xH] at u3 u4;simp -implicitDefEqProofs [rS,u1,u2,g',g2,g5,u3,<-u4]
 rw[hr] at u3 u4;simp[xH] at u3 u4;simp -implicitDefEqProofs [rS,u1,u2,g',g2,g5,u3,<-u4];all_goals (repeat' split)<;>first|rfl|omega|(simp_all;done)|(simp_all;omega)|skip
def XG(s:ag)(hb:s.length<=16777216):ev LI TT 272 [.str ⟨s.toArray⟩]=some (.ak [.agg (jM .own ((cP s).1)),.bool ((cP s).2)],[.dead]):=by
 rw[ay (b:=nU) (rs:=[.c 2 3 true 29,.t 3]) (n:=1) rfl rfl];have u1:=XW s hb;try simp at u1
 rw[afV];have hw:=λr=>af3 (s:=s) (r:=r);have gQ:=λp=>SQ (s:=s) (p:=p);have er:om s=(ld s).bind λp=>(kI (bp 32 p.1)).map λw=>(⟨(((bx w).getD 0:Nat):Int),p.2.1,p.2.2⟩:bP):=rfl;rw[er] at hw⊢;clear er;generalize ld s=po at u1 hw gQ⊢;cases po with
 |none=>
  have u2:=tL [] 32 (by simp);try simp at u1 u2
  simp -implicitDefEqProofs [nU,u1,u2,ct]
 |some p=>
 obtain⟨f,fs,b⟩:=p;have hq:=gQ _ rfl;simp only at hq;have u2:=tL f 32 (by omega);have hm:=oH 32 f;simp only[gj] at hw⊢;rcases de:bp 32 f with _|⟨w0,_|⟨w1,_|⟨w2,_|⟨w3,ws⟩⟩⟩⟩;·exact absurd de (yH 32 f)
 ·rw[de] at u2;simp at u1 u2;simp -implicitDefEqProofs [nU,u1,u2,kI,ct]
 ·rw[de] at u2;simp at u1 u2;simp -implicitDefEqProofs [nU,u1,u2,kI,ct]
 rotate_left
 ·rw[de] at u2;have hn:¬((ws.length:Int)+1+1+1+1=3):=by omega
  simp at u1 u2;simp -implicitDefEqProofs [nU,u1,u2,kI,ct,hn]
 rw[de] at u2 hw;have hw1:=hm w1 (by rw[de];simp);have u3:=zy w1 (by omega);have hr:=hw ⟨(((bx w1).getD 0:Nat):Int),fs,b⟩ rfl;have u4:=OI ⟨(((bx w1).getD 0:Nat):Int),fs,b⟩ (by omega);simp only[kI,cg];obtain⟨n,hn⟩:∃n,(((bx w1).getD 0:Nat):Int)=n:=⟨_,rfl⟩;rw[hn] at u3 u4⊢;by_cases g0:s=[];·subst g0;simp at u1 u2 u3 u4;simp -implicitDefEqProofs [nU,u1,u2,u3,ct]
 by_cases g:fo ⟨n,fs,b⟩=s;·rw[g] at u4;simp at u1 u2 u3 u4;simp -implicitDefEqProofs [nU,u1,u2,u3,u4,g,g0,ct]
 simp at u1 u2 u3 u4;simp -implicitDefEqProofs [nU,u1,u2,u3,u4,g,g0,ct];all_goals (repeat' split)<;>first|rfl|omega|(simp_all;done)|(simp_all;omega)|skip
end M
set_option maxHeartbeats 4000000
namespace M
open Go
def Wq(s:ag)(hb:s.length<=1073741824):
  aI (aj (ev LI TT) (aq TT) qA) [(0,.str ⟨s.toArray⟩),(4,.row .own 1 []),(5,.int .i64 0),(6,.int .i64 1)]=
  (match pG s with
   |.inl g=>some (.exit 0,[(0,.str ⟨s.toArray⟩),(4,.row .own 1 (g.1.map eS)),(5,.int .i64 g.2),(6,.int .i64 ((s.length - 1:Nat)+1:Nat)),(12,.bool false)])
   |.inr g=>some (.ret,[(2,.row .own 1 (g.1.map eS)),(3,.int .i64 g.2),(4,.dead)])):=by
 have:=Bl (xt:=0) (f:=aj (ev LI TT) (aq TT) qA) (s.drop 1) (λi (g:List ag×Nat)=>[(0,.str ⟨s.toArray⟩),(4,.row .own 1 (g.1.map eS)),(5,.int .i64 g.2),(6,.int .i64 ((i+1:Nat):Int))]) (λj=>gP s (j+1))
  (λg=>[(0,.str ⟨s.toArray⟩),(4,.row .own 1 (g.1.map eS)),(5,.int .i64 g.2),(6,.int .i64 ((s.length - 1:Nat)+1:Nat)),(12,.bool false)])
  (λg=>(.ret,[(2,.row .own 1 (g.1.map eS)),(3,.int .i64 g.2),(4,.dead)]))
  (λi g=>g.1.length<=i/\g.2<=i+1) ([],0) (by simp) (λi b g hi hl hg=>?_) (λi b g g' hi hg fD=>?_) (λg hg=>?_)
 ·simp only[lF] at this;refine this.trans ?_;unfold pG;cases cN (λj=>gP s (j+1)) 0 (s.drop 1) ([],0) with
  |inl g=>rfl
  |inr e=>rfl
 ·simp only[vP] at hl;have pK:i+1<s.length:=by omega
  have hi2:s[i+1]=b:=by rw[oS] at hi;have:=(aL.1 hi);obtain⟨_,h⟩:=this;rw[<-h];congr 1;omega
  have wJ:i<s.length:=by omega
  have hw:IntKind.i64.wrap ((i:Int)+1+1)=(i:Int)+1+1:=bX (by omega) (by omega);have dI:IntKind.i64.wrap (i:Int)=i:=bX (by omega) (by omega);have nO:(0:Int)<=(i:Int)+1:=by omega
  have hlz:(g.1.length+1)*16<=140737488355328:=by omega
  have hls:((i:Int)+1<s.length):=by omega
  have ht:s[i]?=some s[i]:=cm wJ;have hle:(i:Int)<=s.length:=by omega
  unfold gP;simp only[Nat.add_sub_cancel,ht];by_cases g1:b=10;rotate_left;·have dz:¬(b.toNat:Int)=10:=λh=>g1 (td.1 (by show b.toNat=10;omega));simp -implicitDefEqProofs [qA,vq,pK,hls,hi2,hw,dI,nO,g1,dz,lv]
  subst g1;by_cases g2:s[i]=13;rotate_left;·have jP:¬((s[i]).toNat:Int)=13:=λh=>g2 (td.1 (by show (s[i]).toNat=13;omega));simp -implicitDefEqProofs [qA,vq,pK,hls,hi2,hw,dI,nO,g2,jP,wJ,lv]
  by_cases g3:g.2+1<=i+1;rotate_left
  ·have kT:(i:Int)<g.2:=by omega
   simp -implicitDefEqProofs [qA,vq,pK,hls,hi2,hw,dI,nO,g2,g3,kT,wJ,lv]
  have kT:¬(i:Int)<g.2:=by omega
  have Qz:(g.2:Int)<=i:=by omega
  have g5:1<=i+1:=by omega
  rw[y7];obtain⟨Y,hY⟩:∃Y,(s.drop g.2).take (i - g.2)=Y:=⟨_,rfl⟩;rw[hY];cases Y with
  |nil=>simp -implicitDefEqProofs [qA,vq,pK,hls,hi2,hw,dI,nO,g2,g3,kT,Qz,hY,g5,wJ,lv,hle,Lib.extract_mk]
  |cons y Y=>simp -implicitDefEqProofs [qA,vq,pK,hls,hi2,hw,dI,nO,g2,g3,kT,Qz,hY,g5,wJ,lv,hle,hlz,bY,Lib.extract_mk]
 ·unfold gP at fD;split at fD
  ·split at fD;·cases fD
   ·cases fD;simp;omega
  ·cases fD;omega
 ·have h0:¬(((s.length - 1:Nat):Int)+1<s.length):=by omega
  simp only[vP];simp -implicitDefEqProofs [qA,vq,h0]
def Yi(s:ag)(hb:s.length<=1073741824):ev LI TT 249 [.str ⟨s.toArray⟩]=some (.ak [.row .own 1 ((iq s).map eS),.int .i64 (kX s)],[.dead]):=by
 rw[ay (b:=Cz) (rs:=[.t 2,.t 3]) (n:=1) rfl rfl];have u1:=Wq s hb;try simp at u1
 unfold iq kX;cases hr:pG s with
 |inl g=>rw[hr] at u1;simp at u1;simp -implicitDefEqProofs [Cz,u1]
 |inr g=>
 rw[hr] at u1;simp at u1;simp -implicitDefEqProofs [Cz,u1];all_goals (repeat' split)<;>first|rfl|omega|(simp_all;done)|(simp_all;omega)|skip
def DN(i:Nat)(_:Unit)(x:UInt8×UInt8):Unit ⊕ Nat:=if q8 x=true then .inr i else .inl ()
def Pz:∀(l:List (UInt8×UInt8)) (i:Nat),cN DN i l ()=match dH q8 i l with
  |some (k,_)=>.inr k
  |none=>.inl ()
 |[],_=>rfl
 |x::l,i=>by
  rw[cN,dH];unfold DN;cases h:q8 x;·simp only[fA,dQ];exact Pz l (i+1)
  ·simp
def Wo(ls:List ag)(i:Nat)(hi:i<ls.length)(fs:List aJ)(hm:ls[i].length<=1073741824)(hf:fs.length<=1073741824):
  aI (aj (ev LI TT) (aq TT) sW) [(0,.row .af 1 (ls.map eS)),(3,.row .own 2 (fs.map aR)),(4,.int .i64 i),(5,.int .i64 0)]=
  (match tR ls[i] with
   |none=>some (.exit 2,[(0,.row .af 1 (ls.map eS)),(3,.row .own 2 (fs.map aR)),(4,.int .i64 i),(5,.int .i64 (ls[i].zip (ls[i].drop 1)).length),(21,.bool false)])
   |some (k,_)=>some (.exit 2,[(0,.row .af 1 (ls.map eS)),(3,.row .own 2 ((fs++gS ls[i]).map aR)),(4,.int .i64 i)])):=by
 have:=Bl (xt:=2) (f:=aj (ev LI TT) (aq TT) sW) (ls[i].zip (ls[i].drop 1)) (λk (_:Unit)=>[(0,.row .af 1 (ls.map eS)),(3,.row .own 2 (fs.map aR)),(4,.int .i64 i),(5,.int .i64 k)]) DN
  (λ_=>[(0,.row .af 1 (ls.map eS)),(3,.row .own 2 (fs.map aR)),(4,.int .i64 i),(5,.int .i64 (ls[i].zip (ls[i].drop 1)).length),(21,.bool false)])
  (λk=>(.exit 2,[(0,.row .af 1 (ls.map eS)),(3,.row .own 2 ((fs++(if ls[i].take k=dJ then [] else [(⟨ls[i].take k,ls[i].drop (k+2)⟩:aJ)])).map aR)),(4,.int .i64 i)]))
  (λ_ _=>True) () trivial (λk b _ hk hl _=>?_) (λ_ _ _ _ _ _ _=>trivial) (λ_ _=>?_)
 ·refine this.trans ?_;rw[Pz];unfold gS tR;cases dH q8 0 (ls[i].zip (ls[i].drop 1)) with
  |none=>rfl
  |some x=>rfl
 ·have hlz:k+1<ls[i].length:=by simp at hl;omega
  have hk1:k<ls[i].length:=by omega
  obtain⟨q1,q2⟩:=NW.1 hk;obtain⟨_,h1⟩:=aL.1 q1;rw[oS,oP] at q2;obtain⟨_,h2⟩:=aL.1 q2;clear q1 q2;have nO:(0:Int)<=(k:Int)+1:=by omega
  have JY:(0:Int)<=(k:Int)+2:=by omega
  have QS:((k:Int)+2).toNat=k+2:=by omega
  have htk:(ls[i].drop (k+2)).take (ls[i].length - (k+2))=ls[i].drop (k+2):=s8 (by simp);have hw:=aU k (by omega);have dI:IntKind.i64.wrap ((k:Int)+2)=k+2:=bX (by omega) (by omega);have hla:(fs.length+1)*32<=140737488355328:=by omega
  have hls:((k:Int)+1<ls[i].length):=by omega
  have hle:(k:Int)<=ls[i].length:=by omega
  have hle2:(k:Int)+2<=ls[i].length:=by omega
  obtain⟨b1,b2⟩:=b;simp only at h1 h2;unfold DN q8;simp only;by_cases g1:b1=58;rotate_left;·have dz:¬(b1.toNat:Int)=58:=λh=>g1 (td.1 (by show b1.toNat=58;omega));simp -implicitDefEqProofs [sW,yA,hi,hk1,hls,h1,hw,nO,g1,dz,lv]
  by_cases g2:b2=32;rotate_left;·have jP:¬(b2.toNat:Int)=32:=λh=>g2 (td.1 (by show b2.toNat=32;omega));simp -implicitDefEqProofs [sW,yA,hi,hk1,hlz,hls,h1,h2,hw,nO,JY,g1,g2,jP,lv]
  subst g1 g2;by_cases g3:ls[i].take k=dJ;·have kT:ls[i].take k=[99,111,110,116,101,110,116,45,108,101,110,103,116,104]:=g3;simp -implicitDefEqProofs [sW,yA,Cy,hi,hk1,hlz,hls,h1,h2,hw,nO,JY,QS,htk,dI,g3,kT,lv,hle,hle2,Lib.extract_mk,dJ]
  ·have kT:¬ls[i].take k=[99,111,110,116,101,110,116,45,108,101,110,103,116,104]:=g3;simp -implicitDefEqProofs [sW,yA,Cy,hi,hk1,hlz,hls,h1,h2,hw,nO,JY,QS,htk,dI,g3,kT,lv,hle,hle2,hla,bY,Lib.extract_mk]
 ·have hlen:(ls[i].zip (ls[i].drop 1)).length=ls[i].length - 1:=by simp
  have h0:¬(((ls[i].length - 1:Nat):Int)+1<ls[i].length):=by omega
  have hw:=aU (ls[i].length - 1) (by omega);simp only[hlen];simp -implicitDefEqProofs [sW,yA,hi,h0,hw]
def Wp(ls:List ag)(hm:∀l∈ls,l.length<=1073741824)(hb:ls.length<=1073741824):aI (aj (ev LI TT) (aq TT) yB) [(0,.row .af 1 (ls.map eS)),(3,.row .own 2 (([]).map aR)),(4,.int .i64 0)]=some (.exit 0,[(0,.row .af 1 (ls.map eS)),(3,.row .own 2 ((((ls).flatMap gS)).map aR)),(4,.int .i64 (ls).length),(11,.bool false)]):=by
 refine pW (f:=aj (ev LI TT) (aq TT) yB) (ls) gS (λi out=>[(0,.row .af 1 (ls.map eS)),(3,.row .own 2 ((out).map aR)),(4,.int .i64 i)]) (λout=>[(0,.row .af 1 (ls.map eS)),(3,.row .own 2 ((out).map aR)),(4,.int .i64 (ls).length),(11,.bool false)]) (λi b out hi hl hout=>?_) (λout hout=>?_)
 ·have hw:=aU i (by first|omega|(simp at hl;omega));obtain⟨_,rfl⟩:=aL.1 hi;have hlo:out.length<=i:=by rw[hout];exact Eg _ (λb=>by unfold gS;split<;>(try split)<;>simp) _ _
  have u1:=Wo ls i hl out (hm _ (cy hl)) (by omega);cases hc:tR ls[i] with
  |none=>
   rw[hc] at u1;have hz:gS ls[i]=[]:=by unfold gS;rw[hc]
   try simp at u1
   simp -implicitDefEqProofs [yB,He,hl,hw,u1,hz]
  |some x=>
  obtain⟨k,x⟩:=x;rw[hc] at u1;try simp at u1
  simp -implicitDefEqProofs [yB,He,hl,hw,u1]
 ·simp -implicitDefEqProofs [yB,He]
def Yh(ls:List ag)(hm:∀l∈ls,l.length<=1073741824)(hb:ls.length<=1073741824):ev LI TT 250 [.row .af 1 (ls.map eS)]=some (.row .own 2 ((ls.flatMap gS).map aR),[.dead]):=by
 rw[ay (b:=Hf) (rs:=[.t 2]) (n:=1) rfl rfl];have u1:=Wp ls hm hb;try simp at u1
 simp -implicitDefEqProofs [Hf,u1,Cy];all_goals (repeat' split)<;>first|rfl|omega|(simp_all;done)|(simp_all;omega)|skip
def X9(s:ag)(hb:s.length<=16777216):ev LI TT 211 [.str ⟨s.toArray⟩]=some (.ak [.agg (jM .own ((cP s).1)),.bool ((cP s).2)],[.dead]):=by
 rw[ay (b:=oA) (rs:=[.c 2 3 true 29,.t 3]) (n:=1) rfl rfl];have u1:=Yi s (by omega);try simp at u1
 rw[afW];have hw:=λr=>af7 (s:=s) (r:=r);have hh:=Rb s;have Km:∀l∈iq s,l.length<=16777216:=λl hl=>by have:=qF (w:=wS) hl;simp only[wS] at this;omega
 have rK:=bE (w:=wS) (iq s);have er:oo s=(if 0<=kX s/\iq s≠[] then (kI (bp 32 ((iq s).headD []))).map λw=>(⟨(((bx w).getD 0:Nat):Int),(iq s).tail.flatMap gS,s.drop (kX s).toNat⟩:bP) else none):=rfl;rw[er] at hw⊢;clear er;generalize iq s=ls at u1 hw hh Km rK⊢;generalize kX s=n at u1 hw hh⊢;by_cases g1:0<=n;rotate_left
 ·have dz:n<0:=by omega
  simp -implicitDefEqProofs [oA,u1,g1,dz,ct]
 have dz:¬n<0:=by omega
 cases ls with
 |nil=>simp at u1;simp -implicitDefEqProofs [oA,u1,g1,dz,ct]
 |cons l0 lt=>
 have hl0:=Km l0 (by simp);have u2:=wh l0 (by omega);have hm:=oH 32 l0;simp only[List.headD_cons,List.tail_cons] at hw⊢;have g2:0<=n/\l0::lt≠[]:=⟨g1,by simp⟩;have g3:¬((lt.length:Int)+1=0):=by omega
 rw[au g2] at hw⊢;rcases de:bp 32 l0 with _|⟨w0,_|⟨w1,_|⟨w2,_|⟨w3,ws⟩⟩⟩⟩;·exact absurd de (yH 32 l0)
 ·rw[de] at u2;simp at u1 u2;simp -implicitDefEqProofs [oA,u1,u2,kI,ct,dz,g3]
 ·rw[de] at u2;simp at u1 u2;simp -implicitDefEqProofs [oA,u1,u2,kI,ct,dz,g3]
 rotate_left
 ·rw[de] at u2;have hn:¬((ws.length:Int)+1+1+1+1=3):=by omega
  simp at u1 u2;simp -implicitDefEqProofs [oA,u1,u2,kI,ct,hn,dz,g3]
 rw[de] at u2 hw;have hw1:=hm w1 (by rw[de];simp);have u3:=vZ w1 (by omega);have u5:=Yh lt (λl hl=>by have:=Km l (bO _ hl);omega) (by simp at rK;omega);have hr:=hw ⟨(((bx w1).getD 0:Nat):Int),lt.flatMap gS,s.drop n.toNat⟩ rfl;have u4:=O2 ⟨(((bx w1).getD 0:Nat):Int),lt.flatMap gS,s.drop n.toNat⟩ (by omega);have hn2:n<=s.length:=hh.2.1;have Rr:(lt.map eS).take lt.length=lt.map eS:=s8 (by simp);have wK:(1:Int)<=(lt.length:Int)+1:=by omega
 have htk:(s.drop n.toNat).take (s.length - n.toNat)=s.drop n.toNat:=s8 (by simp);simp only[kI,cg];obtain⟨st,hst⟩:∃st,(((bx w1).getD 0:Nat):Int)=st:=⟨_,rfl⟩;rw[hst] at u3 u4⊢;by_cases g:fo ⟨st,lt.flatMap gS,s.drop n.toNat⟩=s;·rw[g] at u4;simp at u1 u2 u3 u4 u5;simp -implicitDefEqProofs [oA,Gj,Gk,u1,u2,u3,u4,u5,g,g1,dz,g3,hn2,wK,htk,Rr,ct,Lib.extract_mk]
 simp at u1 u2 u3 u4 u5;simp -implicitDefEqProofs [oA,u1,u2,u3,u4,u5,g,g1,dz,g3,hn2,wK,htk,Rr,ct,Lib.extract_mk,Gj,Gk];all_goals (repeat' split)<;>first|rfl|omega|(simp_all;done)|(simp_all;omega)|skip
end M
set_option maxHeartbeats 4000000
namespace M
open Go
def LH(s:ag):bZ (cP s).1<=800:=by
 cases h:(cP s).2;·have:cP s=(ct,false):=S7 h;rw[this];decide
 ·exact LG (S8 h).1
def Uo(fs:List aJ):wL wS (dn fs)<=(wL aO fs+1)*(wL aO fs+1):=by refine oJ (λw hw=>?_) (HO fs);unfold dn at hw;obtain⟨x,hx,rfl⟩:=bg.1 hw;have h1:=CR _ x hx;have h2:=tY fs je;simp only[wS,cD,cZ];omega
def Uq(s:ag):wL wS (dn (cP s).1.fields)<=641601:=by
 have h1:=LH s;have h2:=Uo (cP s).1.fields;have h3:wL aO (cP s).1.fields+1<=801:=by have:bZ (cP s).1=wL aO (cP s).1.fields+(cP s).1.body.length:=rfl;omega
 exact jo h2 (ND h3 h3)
def Ju(s:ag):(fV s).1.length<=s.length/\(fV s).2.length<=s.length:=by
 unfold fV;cases h:cE 10 s with
 |none=>simp
 |some p=>have:=tS h;simp only[vI];omega
def PF(s:ag):∃b,Lib.cut s [10]=((fV s).1,(fV s).2,b):=by
 rw[DR];unfold fV;cases h:cE 10 s with
 |none=>exact⟨_,rfl⟩
 |some p=>exact⟨_,rfl⟩
def T3:∀(n:Nat) (s:ag),(ek n s).1.length=n/\(∀v∈(ek n s).1,v.length<=s.length)/\(ek n s).2.length<=s.length
 |0,s=>by simp[ek]
 |n+1,s=>by
  have h1:=Ju s;have ih:=T3 n (fV s).2;rw[ek];refine⟨by simp[ih.1],λv hv=>?_,by simp only;omega⟩;rcases b9.1 hv with rfl|hv;·exact h1.1
  ·have:=ih.2.1 v hv;omega
def Oa(s p:ag)(tt:Int)(n:Nat)(hn:n<=4):∀(m i:Nat) (g:List ag) (t:ag),i+m=n->g.length=i->t.length<=16777216->
  aI (aj (ev LI TT) (aq TT) AP) [(0,.str ⟨s.toArray⟩),(2,.ptr .own (bw .own cW)),(5,.str ⟨t.toArray⟩),(12,.ptr .own (bw .own ⟨p,[],g,ct,tt⟩)),(60,.int .i64 n),(61,.int .i64 i)]=some (.exit 0,[(0,.str ⟨s.toArray⟩),(2,.ptr .own (bw .own cW)),(5,.str ⟨((ek m t).2).toArray⟩),(12,.ptr .own (bw .own ⟨p,[],g++(ek m t).1,ct,tt⟩)),(60,.int .i64 n),(61,.int .i64 n),(62,.bool false)])
 |0,i,g,t,hi,hg,ht=>by
  have:i=n:=by omega
  subst this;rw[cT];simp -implicitDefEqProofs [AP,KF,ek,ct,cW]
 |m+1,i,g,t,hi,hg,ht=>by
  have hl:i<n:=by omega
  have hw:=aU i (by omega);obtain⟨b,hb⟩:=PF t;have u1:=wj t [10] (by omega);rw[hb] at u1;have hlz:(g.length+1)*16<=140737488355328:=by omega
  have hc:=Ju t
  have hstep:aj (ev LI TT) (aq TT) AP [(0,.str ⟨s.toArray⟩),(2,.ptr .own (bw .own cW)),(5,.str ⟨t.toArray⟩),(12,.ptr .own (bw .own ⟨p,[],g,ct,tt⟩)),(60,.int .i64 n),(61,.int .i64 i)]=some (.normal,[(0,.str ⟨s.toArray⟩),(2,.ptr .own (bw .own cW)),(5,.str ⟨((fV t).2).toArray⟩),(12,.ptr .own (bw .own ⟨p,[],g++[(fV t).1],ct,tt⟩)),(60,.int .i64 n),(61,.int .i64 ((i+1:Nat):Int))]):=by
   try simp at u1
   simp -implicitDefEqProofs [AP,KF,ct,cW,hl,hw,u1,hlz,bY]
  rw[cT,hstep];have ih:=Oa s p tt n hn m (i+1) (g++[(fV t).1]) (fV t).2 (by omega) (by simp;omega) (by omega);rw[lH] at ih;exact ih
def XD(s:ag)(hb:s.length<=16777216):ev LI TT 245 [.str ⟨s.toArray⟩]=some (.ak [.agg (bw .own ((gU s).1)),.bool ((gU s).2)],[.dead]):=by
 rw[ay (b:=nT) (rs:=[.c 2 7 true 31,.t 3]) (n:=1) rfl rfl];have u1:=wj s [10] (by omega);obtain⟨cb,hcb⟩:=PF s;rw[hcb] at u1;have hc:=Ju s;rw[aeI];have eo:xC s=(lD (bp 32 (fV s).1)).bind λw=>(bx w.2.1).bind λt=>(bx w.2.2).bind λn=>Bx w.1 t n (fV s).2:=rfl;rw[eo];clear eo hcb;generalize fV s=ln at u1 hc⊢;obtain⟨l,b⟩:=ln;simp only at u1 hc⊢;have u2:=tL l 32 (by omega);have hm:=oH 32 l;by_cases h4:(bp 32 l).length=4;rotate_left
 ·have rD:¬(((bp 32 l).length:Int)=4):=by omega
  have Kv:lD (bp 32 l)=none:=by unfold lD;split;(rename_i e;rw[e] at h4;simp at h4);rfl
  rw[Kv];try simp at u1 u2
  simp -implicitDefEqProofs [nT,u1,u2,rD,cW,ct]
 obtain⟨w0,w1,w2,w3,hw⟩:=Fz h4;rw[hw] at u2 hm⊢;have EG:=hm w1 (by simp);have u3:=zy w2 (by have:=hm w2 (by simp);omega);have u4:=zy w3 (by have:=hm w3 (by simp);omega);simp only[lD,gj];cases h2:bx w2 with
 |none=>rw[h2] at u3;simp at u1 u2 u3 u4;simp -implicitDefEqProofs [nT,u1,u2,u3,u4,cW,ct]
 |some t=>
 cases h3:bx w3 with
 |none=>rw[h2] at u3;rw[h3] at u4;simp at u1 u2 u3 u4;simp -implicitDefEqProofs [nT,u1,u2,u3,u4,cW,ct]
 |some n=>
 rw[h2] at u3;rw[h3] at u4;simp only[gj];unfold Bx;by_cases g:n<=4;rotate_left
 ·have g':4<(n:Int):=by omega
  simp at u1 u2 u3 u4;simp -implicitDefEqProofs [nT,u1,u2,u3,u4,g,g',cW,ct]
 have g':¬4<(n:Int):=by omega
 have u5:=Oa s w1 (t:Nat) n g n 0 [] b (by omega) rfl (by omega);have hv:=T3 n b;have u6:=XG (ek n b).2 (by omega);have hrw:=LH (ek n b).2;have hvw:=Uq (ek n b).2;have hrf:bZ (cP (ek n b).2).1=wL aO (cP (ek n b).2).1.fields+(cP (ek n b).2).1.body.length:=rfl;have u7:=OO (cP (ek n b).2).1.fields (by omega);have hvs:wL wS (ek n b).1<=4*(16777216+1):=oJ (λv ey=>by have:=hv.2.1 v ey;simp only[wS];omega) (by omega);have u8:=XE ⟨w1,dn (cP (ek n b).2).1.fields,(ek n b).1,(cP (ek n b).2).1,(t:Nat)⟩ (by simp only[b8];omega);rw[au g];generalize dn (cP (ek n b).2).1.fields=vo at u7 u8⊢;generalize cP (ek n b).2=rr at u6 u7 u8⊢;obtain⟨⟨LP,LL,LA⟩,Td⟩:=rr;simp only at u6 u7 u8⊢;generalize ek n b=tv at u5 u6 u8⊢;obtain⟨vs,rest⟩:=tv;simp only[cW,ct,j7] at u5 u6 u8⊢;simp at u1 u2 u3 u4 u5 u6 u7;cases Td;·simp -implicitDefEqProofs [nT,u1,u2,u3,u4,u5,u6,u7,g']
 by_cases gt:dA ⟨w1,vo,vs,⟨LP,LL,LA⟩,(t:Int)⟩=s;·rw[gt] at u8;simp at u8;simp -implicitDefEqProofs [nT,u1,u2,u3,u4,u5,u6,u7,u8,g',gt]
 simp at u8;simp -implicitDefEqProofs [nT,u1,u2,u3,u4,u5,u6,u7,u8,g',gt,eq_false gt];all_goals (repeat' split)<;>first|rfl|omega|(simp_all;done)|(simp_all;omega)|skip
def j0:Nat->ag->Option (List ag×ag)
 |0,s=>some ([],s)
 |n+1,s=>(cE 10 s).bind λp=>(j0 n p.2).map λq=>(p.1::q.1,q.2)
def TZ:∀(n:Nat) (s:ag) (q:List ag×ag),j0 n s=some q->q.1.length=n/\(∀v∈q.1,v.length<=s.length)/\q.2.length<=s.length/\s.drop (s.length - q.2.length)=q.2
 |0,s,q,h=>by simp[j0] at h;subst h;simp
 |n+1,s,q,h=>by
  rw[j0] at h;obtain⟨p,h1,h2⟩:=kM.1 h;obtain⟨r,h3,rfl⟩:=kN.1 h2;have hd:=tS h1;have ih:=TZ n p.2 r h3;refine⟨by simp[ih.1],λv hv=>?_,by simp only;omega,?_⟩
  ·rcases b9.1 hv with rfl|hv;·omega
   ·have:=ih.2.1 v hv;omega
  ·simp only;have e:s.length - r.2.length=(s.length - p.2.length)+(p.2.length - r.2.length):=by omega
   rw[e,<-Dd,hd.2.1];exact ih.2.2.2
def TY(r:ag):∀(l:List ag),(∀v∈l,bH 10 v)->j0 l.length (iz l++r)=some (l,r)
 |[],_=>rfl
 |v::l,h=>by
  have e:iz (v::l)++r=v++10::(iz l++r):=by simp[iz]
  rw[e,cu,j0,Jt v _ (h v (bq ..))];simp only[gj];rw[TY r l λx hx=>h x (bO _ hx)];rfl
noncomputable def xE(s:ag):Option Ob:=(cE 10 s).bind λc=>(lD (bp 32 c.1)).bind λw=>(j0 (min ((bx w.2.2).getD 0) 4) c.2).map λq=>⟨w.1,dn (cP q.2).1.fields,q.1,(cP q.2).1,(((bx w.2.1).getD 0:Nat):Int)⟩
def aeL:xE []=none:=by simp[xE,cE]
def aeK{o:Ob}(ho:dx o=true):xE (k9 o)=some o:=by
 have h:=xD ho;unfold xE k9;rw[Jt _ _ (Sy h)];simp only[gj];rw[Sz h];have h0:=h.t0;have h1:=h.t1;have hl:=h.len;have h4:=h.n4
 have hn:bx (cV o.t)=some o.t.toNat:=by
  have e:o.t=((o.t.toNat:Nat):Int):=by omega
  rw[e,Sv _ (by omega)];simp;omega
 have hd:bx (aS o.values.length)=some o.values.length:=lZ.2 ⟨by omega,rfl⟩;simp only[lD,gj,hn,hd,vI];rw[nC (by omega),TY (ga o.resp) o.values (Ul h)];have h2:cP (ga o.resp)=(o.resp,true):=S6 (cand:=om) (λr h=>LN h) h.resp;simp only[cg,h2];have ht:((o.t.toNat:Nat):Int)=o.t:=by omega
 rw[ht,<-h.Un]
def aeJ(s:ag):gU s=match xE s with
  |some o=>if dA o=s then (o,true) else (cW,false)
  |none=>(cW,false):=SA (λo h=>aeK h) aeL s
end M
set_option maxHeartbeats 4000000
namespace M
open Go
def Oc(s p:ag)(tt:Int)(n:Nat)(hn:n<=1000000)(hs:s.length<=16777216):∀(m i:Nat) (g:List ag) (t:ag),i+m=min n 4->g.length=i->t.length<=s.length->s.drop (s.length - t.length)=t->
  (∀q,j0 m t=some q->aI (aj (ev LI TT) (aq TT) mo) [(0,.str ⟨s.toArray⟩),(2,.ptr .own (bw .own cW)),(5,.int .i64 ((s.length - t.length:Nat):Int)),(9,.int .i64 n),(11,.ptr .own (bw .own ⟨p,[],g,ct,tt⟩)),(12,.int .i64 i)]=some (.exit 0,[(0,.str ⟨s.toArray⟩),(2,.ptr .own (bw .own cW)),(5,.int .i64 ((s.length - q.2.length:Nat):Int)),(9,.int .i64 n),(11,.ptr .own (bw .own ⟨p,[],g++q.1,ct,tt⟩)),(12,.int .i64 (min n 4:Nat)),(59,.bool false)]))/\
  (j0 m t=none->∃g' j,aI (aj (ev LI TT) (aq TT) mo) [(0,.str ⟨s.toArray⟩),(2,.ptr .own (bw .own cW)),(5,.int .i64 ((s.length - t.length:Nat):Int)),(9,.int .i64 n),(11,.ptr .own (bw .own ⟨p,[],g,ct,tt⟩)),(12,.int .i64 i)]=some (.exit 0,[(0,.str ⟨s.toArray⟩),(2,.ptr .own (bw .own cW)),(5,.int .i64 (-1)),(9,.int .i64 n),(11,.ptr .own (bw .own ⟨p,[],g',ct,tt⟩)),(12,.int .i64 j),(59,.bool false)]))
 |0,i,g,t,hi,hg,ht,hd=>by
  refine⟨λq hq=>?_,λh=>by simp[j0] at h⟩;simp[j0] at hq;subst hq;have:i=min n 4:=by omega
  rw[<-this];rw[cT];by_cases g1:(i:Int)<n
  ·have g2:¬(i:Int)<4:=by omega
   have dz:i<n:=by omega
   have jP:¬i<4:=by omega
   simp -implicitDefEqProofs [mo,sL,ct,cW,g1,g2,dz,jP]
  ·have dz:¬i<n:=by omega
   simp -implicitDefEqProofs [mo,sL,ct,cW,g1,dz]
 |m+1,i,g,t,hi,hg,ht,hd=>by
  have g1:i<n:=by omega
  have g2:i<4:=by omega
  have dz:(i:Int)<n:=by omega
  have jP:(i:Int)<4:=by omega
  have hw:=aU i (by omega);have u1:=DE s (s.length - t.length) (by omega) (by omega);unfold xj xh at u1;rw[hd] at u1;have hlz:(g.length+1)*16<=140737488355328:=by omega
  have ij:(0:Int)<=((s.length - t.length:Nat):Int):=by omega
  obtain⟨e,he⟩:∃e,s.length - t.length=e:=⟨_,rfl⟩;rw[j0];cases hc:cE 10 t with
  |none=>
   refine⟨λq hq=>by simp at hq,λ_=>⟨g++[[]],(i+1:Nat),?_⟩⟩;rw[hc] at u1;rw[he] at u1 ij⊢
   have hstep:aj (ev LI TT) (aq TT) mo [(0,.str ⟨s.toArray⟩),(2,.ptr .own (bw .own cW)),(5,.int .i64 (e:Int)),(9,.int .i64 n),(11,.ptr .own (bw .own ⟨p,[],g,ct,tt⟩)),(12,.int .i64 i)]=some (.normal,[(0,.str ⟨s.toArray⟩),(2,.ptr .own (bw .own cW)),(5,.int .i64 (-1)),(9,.int .i64 n),(11,.ptr .own (bw .own ⟨p,[],g++[[]],ct,tt⟩)),(12,.int .i64 ((i+1:Nat):Int))]):=by
    try simp at u1
    simp -implicitDefEqProofs [mo,sL,ct,cW,g1,g2,dz,jP,hw,u1,hlz,bY]
   rw[cT,hstep];show aI _ _=_;rw[cT];by_cases g3:i+1<n
   ·have kT:(i:Int)+1<n:=by omega
    by_cases g4:i+1<4
    ·have rC:(i:Int)+1<4:=by omega
     simp -implicitDefEqProofs [mo,sL,ct,cW,g3,kT,g4,rC]
    ·have rC:¬(i:Int)+1<4:=by omega
     simp -implicitDefEqProofs [mo,sL,ct,cW,g3,kT,g4,rC]
   ·have kT:¬(i:Int)+1<n:=by omega
    simp -implicitDefEqProofs [mo,sL,ct,cW,g3,kT]
  |some c=>
   obtain⟨l,r⟩:=c;have aZ:=tS hc;simp only at aZ;rw[hc] at u1;simp only at u1;have e2:(s.length - t.length)+(t.length - r.length)=s.length - r.length:=by omega
   have acn:s.drop (s.length - r.length)=r:=by rw[<-e2,<-Dd,hd];exact aZ.2.1
   have ih:=Oc s p tt n hn hs m (i+1) (g++[l]) r (by omega) (by simp;omega) (by omega) acn;obtain⟨f,hf⟩:∃f,s.length - r.length=f:=⟨_,rfl⟩
   have u2:ev LI TT 209 [.str ⟨s.toArray⟩,.int .i64 (e:Int)]=some (.ak [.str ⟨l.toArray⟩,.int .i64 (f:Int)],[.dead,.dead]):=by
    rw[he] at u1;have:(s.length:Int) - r.length=(f:Int):=by omega
    first|exact u1|(simp at u1⊢;rw[u1];simp;omega)|(rw[u1];simp;omega)
   rw[he] at ij⊢;rw[hf] at ih
   have hstep:aj (ev LI TT) (aq TT) mo [(0,.str ⟨s.toArray⟩),(2,.ptr .own (bw .own cW)),(5,.int .i64 (e:Int)),(9,.int .i64 n),(11,.ptr .own (bw .own ⟨p,[],g,ct,tt⟩)),(12,.int .i64 i)]=some (.normal,[(0,.str ⟨s.toArray⟩),(2,.ptr .own (bw .own cW)),(5,.int .i64 (f:Int)),(9,.int .i64 n),(11,.ptr .own (bw .own ⟨p,[],g++[l],ct,tt⟩)),(12,.int .i64 ((i+1:Nat):Int))]):=by
    try simp at u2
    simp -implicitDefEqProofs [mo,sL,ct,cW,g1,g2,dz,jP,hw,u2,hlz,bY]
   refine⟨λq hq=>?_,λhq=>?_⟩;·obtain⟨q',h1,rfl⟩:=kN.1 hq;rw[cT,hstep];have:=ih.1 q' h1;rw[lH] at this;exact this
   ·have h1:j0 m r=none:=by simpa using hq
    obtain⟨g',j,h2⟩:=ih.2 h1;refine⟨g',j,?_⟩;rw[cT,hstep];exact h2
def X7(s:ag)(hb:s.length<=16777216):ev LI TT 134 [.str ⟨s.toArray⟩]=some (.ak [.agg (bw .own ((gU s).1)),.bool ((gU s).2)],[.dead]):=by
 rw[ay (b:=sM) (rs:=[.c 2 7 true 31,.t 3]) (n:=1) rfl rfl];have u1:=DE s 0 (by omega) (by omega);simp only[xj,xh,Iq] at u1;rw[aeJ];have eo:xE s=(cE 10 s).bind λc=>(lD (bp 32 c.1)).bind λw=>(j0 (min ((bx w.2.2).getD 0) 4) c.2).map λq=>(⟨w.1,dn (cP q.2).1.fields,q.1,(cP q.2).1,(((bx w.2.1).getD 0:Nat):Int)⟩:Ob):=rfl;rw[eo];clear eo;cases hc:cE 10 s with
 |none=>rw[hc] at u1;have u2:=wh [] (by simp);simp at u1 u2;simp -implicitDefEqProofs [sM,u1,u2,cW,ct]
 |some c=>
 obtain⟨l,b⟩:=c;rw[hc] at u1;have hd:=tS hc;simp only at hd;obtain⟨d1,d2,d3⟩:=hd;have u2:=wh l (by omega);have hm:=oH 32 l;have d4:¬(((s.length - b.length:Nat):Int)<0):=by omega
 simp only[gj] at u1⊢;by_cases h4:(bp 32 l).length=4;rotate_left
 ·have rD:¬(((bp 32 l).length:Int)=4):=by omega
  have Kv:lD (bp 32 l)=none:=by unfold lD;split;(rename_i e;rw[e] at h4;simp at h4);rfl
  rw[Kv];obtain⟨e,he⟩:∃e,s.length - b.length=e:=⟨_,rfl⟩;rw[he] at u1 d4;try simp at u1 u2
  simp -implicitDefEqProofs [sM,u1,u2,rD,d4,cW,ct]
 obtain⟨w0,w1,w2,w3,hw⟩:=Fz h4;rw[hw] at u2 hm⊢;have u3:=vZ w2 (by have:=hm w2 (by simp);omega);have u4:=vZ w3 (by have:=hm w3 (by simp);omega);have EG:=hm w1 (by simp);simp only[lD,gj];obtain⟨n,hn⟩:∃n,(bx w3).getD 0=n:=⟨_,rfl⟩
 have hnb:n<=1000000:=by
  rw[<-hn];cases hq:bx w3 with
  |none=>simp
  |some x=>have:=(lZ.1 hq).1;simp;omega
 rw[hn] at u4⊢;obtain⟨t,ht⟩:∃t,(((bx w2).getD 0:Nat):Int)=t:=⟨_,rfl⟩;rw[ht] at u3⊢;have u5:=Oc s w1 t n hnb hb (min n 4) 0 [] b (by omega) rfl (by omega) d2;obtain⟨e,he⟩:∃e,s.length - b.length=e:=⟨_,rfl⟩;rw[he] at u1 d4 u5;cases hq:j0 (min n 4) b with
 |none=>obtain⟨g',j,u6⟩:=u5.2 hq;simp[ct,cW] at u1 u2 u3 u4 u6;simp -implicitDefEqProofs [sM,u1,u2,u3,u4,u6,d4,cW,ct]
 |some q=>
 have u6:=u5.1 q hq;have hv:=TZ _ _ _ hq;obtain⟨vs,rest⟩:=q;simp only[cg] at hv u6⊢;have hrl:rest.length<=s.length:=by omega
 have aZ:s.drop (s.length - rest.length)=rest:=by
  have e2:(s.length - b.length)+(b.length - rest.length)=s.length - rest.length:=by omega
  rw[<-e2,<-Dd,d2];exact hv.2.2.2
 have u7:=X9 rest (by omega);have hrw:=LH rest;have hvw:=Uq rest;have hrf:bZ (cP rest).1=wL aO (cP rest).1.fields+(cP rest).1.body.length:=rfl;have u8:=DB (cP rest).1.fields (by omega);have hvs:wL wS vs<=4*(16777216+1):=oJ (λv ey=>by have:=hv.2.1 v ey;simp only[wS];omega) (by omega);have u9:=Jc ⟨w1,dn (cP rest).1.fields,vs,(cP rest).1,t⟩ (by simp only[b8];omega);generalize dn (cP rest).1.fields=vo at u8 u9⊢;generalize cP rest=rr at u7 u8 u9⊢;obtain⟨⟨LP,LL,LA⟩,Td⟩:=rr;simp only at u7 u8 u9⊢;obtain⟨f,hf⟩:∃f,s.length - rest.length=f:=⟨_,rfl⟩;rw[hf] at u6 aZ;have d5:¬((f:Int)<0):=by omega
 have d6:(f:Int)<=s.length:=by omega
 have d7:(s.drop f).take (s.length - f)=s.drop f:=s8 (by simp);rw[aZ] at d7;simp only[cW,ct,j7] at u6 u9⊢;simp at u1 u2 u3 u4 u6 u7 u8;by_cases gt:dA ⟨w1,vo,vs,⟨LP,LL,LA⟩,t⟩=s;·rw[gt] at u9;simp at u9;simp -implicitDefEqProofs [sM,u1,u2,u3,u4,u6,u7,u8,u9,d4,d5,d6,d7,aZ,gt,Lib.extract_mk]
 simp at u9;simp -implicitDefEqProofs [sM,u1,u2,u3,u4,u6,u7,u8,u9,d4,d5,d6,d7,aZ,gt,eq_false gt,Lib.extract_mk];all_goals (repeat' split)<;>first|rfl|omega|(simp_all;done)|(simp_all;omega)|skip
end M
set_option maxHeartbeats 4000000
namespace M
open Go
def rZ{α:Type}(T:List α)(n:Nat)(a:α)(h:T[n]?=some a)(g:α->α):T.modify n g=T.set n (g a):=by
 apply hO;intro j;rw[vM,vN];by_cases e:n=j;·subst e;obtain⟨hi,hh⟩:=aL.1 h;have hg:T[n]=a:=hh;simp[hg,hi]
 ·simp[e]
def sX{α:Type}(T:List α)(n:Nat)(a:α)(g:α->α):(T.set n a).modify n g=T.set n (g a):=by
 apply hO;intro j;rw[vM,vN,vN];by_cases e:n=j;·subst e;by_cases h:n<T.length<;>simp[h]
 ·simp[e]
def dc(k:Kp):List X:=[.str ⟨k.obj.path.toArray⟩,.dead,.dead,.int .i64 k.obj.resp.status,.dead,.str ⟨k.obj.resp.body.toArray⟩,.int .i64 k.obj.t,.int .i64 k.at_,.int .i64 k.seq]
def ajD{α:Type}(w:α->Nat)(l:List α)(i:Nat)(v:α):wL w (l.set i v)<=wL w l+w v:=by
 unfold wL;rw[Iz];induction l generalizing i with
 |nil=>simp
 |cons a l ih=>
  cases i with
  |zero=>simp;omega
  |succ i=>have:=ih i;simp at this⊢;omega
def HR{α:Type}(w:α->Nat)(a b:List α):wL w (a++b)=wL w a+wL w b:=by unfold wL;simp;omega
def Uu{α:Type}(w:α->Nat)(p:α->Bool)(l:List α):wL w (l.filter p)<=wL w l:=by
 induction l with
 |nil=>simp[wL]
 |cons a l ih=>rw[List.filter_cons];split<;>simp[wL] at ih⊢ <;>omega
def JQ(k:Nat->Bool):∀(ws:List Wr) (i:Nat) (cs:List ag),wL wS (foldI (iu k) i ws cs)<=wL wS cs+wL cS ws
 |[],i,cs=>by simp[foldI]
 |w::ws,i,cs=>by
  have h:=JQ k ws (i+1) (iu k i cs w)
  have h2:wL wS (iu k i cs w)<=wL wS cs+cS w:=by
   unfold iu;split;·exact ajD wS cs _ w.text
   ·omega
  have h3:wL cS (w::ws)=cS w+wL cS ws+1:=by simp[wL];omega
  rw[foldI];omega
def wE(d:aQ):bh (bQ d)<=bh d:=by have:=JQ (gR [] true) d.pending 0 d.cells;show wL wS (mV (gR [] true) d.cells d.pending)+wL cS []<=wL wS d.cells+wL cS d.pending;unfold mV;have h:wL cS ([]:List Wr)=0:=rfl;omega
def SZ(d:aQ)(a:Int)(t:ag):bh (lp d a t)<=bh d+t.length+1:=by
 have h:=wE d;have h1:wL cS [⟨a,t⟩]=t.length+1:=by simp[wL,cS];omega
 unfold lp;split;·show wL wS (bQ d).cells+wL cS [⟨a,t⟩]<=_;have h2:bh (bQ d)=wL wS (bQ d).cells+wL cS []:=rfl;have h:wL cS ([]:List Wr)=0:=rfl;omega
 ·show wL wS d.cells+wL cS (d.pending++[⟨a,t⟩])<=wL wS d.cells+wL cS d.pending+t.length+1;rw[HR];omega
structure WK (s:Sh):Prop where
 d:bJ s.aG=true
 b:(s.aD.length:Int)<=5
 n:5<=s.next/\s.next<=19
 q:1<=s.seq/\s.seq<=100000
 bs:aX dF s.aD=true
 os:p7 s.seq s.ai=true
def mw{s:Sh}(h:dB s=true):WK s:=by unfold dB at h;simp only[az,aY] at h;exact⟨h.1.1.1.1.1,h.1.1.1.1.2,h.1.1.1.2,h.1.1.2,h.1.2,h.2⟩
end M
set_option maxHeartbeats 4000000
namespace M
open Go
def En(d:aQ)(a:Int):(cC d a).length<=bh d:=by
 have hw:bh d=wL wS d.cells+wL cS d.pending:=rfl;unfold cC;rw[JR];cases h:d.pending.reverse.find? (λw=>decide (w.at_=a)) with
 |none=>
  simp only[Option.elim_none];rw[iT];cases h2:d.cells[a.toNat]? with
  |none=>simp
  |some s=>have:=qF (w:=wS) (mB h2);simp only[wS] at this;simp only[vI];omega
 |some w=>have:=List.mem_of_find?_eq_some h;have:=qF (w:=cS) (List.mem_reverse.1 this);simp only[cS] at this;simp only[Option.elim_some];omega
def Vv(d:aQ)(a:Int)(hb:d.pending.length<=9223372036854775807):aI (aj (ev LI TT) (aq TT) AH) [(0,.ptr .af (bU .af d)),(1,.int .i64 a),(5,.int .i64 (d.pending.length - 1))]=
  (d.pending.reverse.find? (λw=>decide (w.at_=a))).elim (some (.exit 0,[(0,.ptr .af (bU .af d)),(1,.int .i64 a),(5,.int .i64 (-1)),(13,.bool false)])) (λw=>some (.ret,[(4,.str ⟨w.text.toArray⟩)])):=by
 refine adT (f:=aj (ev LI TT) (aq TT) AH) d.pending (λi=>[(0,.ptr .af (bU .af d)),(1,.int .i64 a),(5,.int .i64 i)]) (λw=>decide (w.at_=a)) (λw=>[(4,.str ⟨w.text.toArray⟩)]) _ (λi b hi hl=>?_) ?_;·have hw:IntKind.i64.wrap ((i:Int) - 1)=i - 1:=bX (by omega) (by omega);obtain⟨_,rfl⟩:=aL.1 hi;simp -implicitDefEqProofs [AH,KC,hl,hw]
 ·simp -implicitDefEqProofs [AH,KC]
def OB(d:aQ)(a:Int)(hb:d.pending.length<=9223372036854775807)(h0:0<=a)(h1:a<d.cells.length):ev LI TT 242 [.ptr .af (bU .af d),.int .i64 a]=some (.str ⟨(cC d a).toArray⟩,[.dead,.dead]):=by
 rw[ay (b:=ET) (rs:=[.t 4]) (n:=2) rfl rfl];have h:=Vv d a hb;have hw:IntKind.i64.wrap ((d.pending.length:Int) - 1)=d.pending.length - 1:=bX (by omega) (by omega);have h2:a.toNat<d.cells.length:=by omega
 simp at h;unfold cC;rw[JR];simp -implicitDefEqProofs [ET,hw,h];cases d.pending.reverse.find? (λw=>decide (w.at_=a))<;>simp[h0,h2]
def VS(d:aQ)(a:Int)(hb:d.pending.length<=9223372036854775807)(x:ag):aI (aj (ev LI TT) (aq TT) BN) [(1,.int .i64 a),(2,.ptr .own (bU .af d)),(5,.str ⟨(x).toArray⟩),(6,.int .i64 0)]=some (.exit 0,[(1,.int .i64 a),(2,.ptr .own (bU .af d)),(5,.str ⟨(((d.pending).foldl (λout w=>if w.at_=a then w.text else out) x)).toArray⟩),(6,.int .i64 (d.pending).length),(24,.bool false)]):=by
 refine K7 (f:=aj (ev LI TT) (aq TT) BN) (d.pending) (λi (x:ag)=>[(1,.int .i64 a),(2,.ptr .own (bU .af d)),(5,.str ⟨(x).toArray⟩),(6,.int .i64 i)]) (λout w=>if w.at_=a then w.text else out) (λx=>[(1,.int .i64 a),(2,.ptr .own (bU .af d)),(5,.str ⟨(x).toArray⟩),(6,.int .i64 (d.pending).length),(24,.bool false)]) (λ_ _=>True) x trivial (λi b x hi hl _=>?_) (λ_ _ _ _ _=>trivial) (λx _=>?_);·have hw:=aU i (by first|omega|(simp at hl;omega));obtain⟨_,rfl⟩:=aL.1 hi;simp -implicitDefEqProofs [BN,L0,hl,hw];split<;>rfl
 ·simp -implicitDefEqProofs [BN,L0]
def OU(d:aQ)(a:Int)(hb:d.pending.length<=9223372036854775807):ev LI TT 133 [.agg (bU .af d),.int .i64 a]=some (.str ⟨(if bJ d=true/\0<=a/\a<=19 then cC d a else []).toArray⟩,[.dead,.dead]):=by
 rw[ay (b:=F6) (rs:=[.t 4]) (n:=2) rfl rfl];have h:=λx=>VS d a hb x;have h2:=tJ d hb;simp at h h2;simp -implicitDefEqProofs [F6,h,h2];by_cases hc:bJ d=true/\0<=a/\a<=19
 ·obtain⟨g1,g2,g3⟩:=hc;have g4:=(fL g1).2.1;have g5:¬(a<0\/19<a):=by omega
  have g6:a.toNat<d.cells.length:=by omega
  simp[g1,g2,g3,g5,g6,h,cC]
 ·by_cases g1:bJ d=true
  ·have g5:(a<0\/19<a):=by false_or_by_contra;exact hc ⟨g1,by omega,by omega⟩
   have g6:¬(0<=a/\a<=19):=by omega
   simp[g1,g5,g6]
  ·simp[g1]
def Pd(x:Int):ev LI TT 274 [.int .i64 x]=some (.bool false,[.dead]):=by rw[ay (b:=HU) (rs:=[.t 2]) (n:=1) rfl rfl];simp -implicitDefEqProofs [HU];all_goals (repeat' split)<;>first|rfl|omega|(simp_all;done)|(simp_all;omega)|skip
def q7(a b:Int):Int:=if a<b then -1 else if b<a then 1 else 0
def Yl(a:Int)(b:Int):ev LI TT 248 [.int .i64 a,.int .i64 b]=some (.int .i64 (q7 a b),[.dead,.dead]):=by
 rw[ay (b:=HT) (rs:=[.t 4]) (n:=2) rfl rfl];unfold q7;by_cases g1:a<b;all_goals by_cases g2:b<a
 all_goals
 have u1:=Pd a;try simp at u1
 have u2:=Pd b;try simp at u2
 simp -implicitDefEqProofs [HT,u1,u2,g1,g2];all_goals (repeat' split)<;>first|rfl|omega|(simp_all;done)|(simp_all;omega)|skip
def OL(a b:Kp):ev LI TT 247 [.agg (aE .af a),.agg (aE .af b)]=some (.int .i64 (q7 a.seq b.seq),[.dead,.dead]):=by
 rw[ay (b:=EZ) (rs:=[.t 4]) (n:=2) rfl rfl];have u1:=Yl a.seq b.seq;try simp at u1
 simp -implicitDefEqProofs [EZ,u1];all_goals (repeat' split)<;>first|rfl|omega|(simp_all;done)|(simp_all;omega)|skip
def agh{α:Type}(A:List α)(x k:α)(B:List α)(n:Nat)(hn:n=A.length):((A++x::k::B).set (n+1) x).set n k=A++k::x::B:=by subst hn;simp[List.set_append]
def Vp(a b:Int)(fi:Int)(T:List (List X))(j:Nat)(x k:Kp)(hj:j+1<T.length)(hx:T[j]=aE .own x)(hk:T[j+1]=aE .own k)(hb:T.length<=1073741824)(ha:a=0)(hlt:k.seq<x.seq):
  aj (ev LI TT) (aq TT) s5 [(0,.ref 100000 []),(1,.int .i64 a),(2,.int .i64 b),(3,.fn 247 []),(8,.int .i64 fi),(9,.int .i64 ((j+1:Nat):Int)),(100000,.row .own 9 T)]=some (.normal,[(0,.ref 100000 []),(1,.int .i64 a),(2,.int .i64 b),(3,.fn 247 []),(8,.int .i64 fi),(9,.int .i64 (j:Nat)),(100000,.row .own 9 ((T.set (j+1) (aE .own x)).set j (aE .own k)))]):=by
 subst ha;have hw:IntKind.i64.wrap ((j:Int)+1 - 1)=j:=by rw[show ((j:Int)+1 - 1)=j by omega];exact bX (by omega) (by omega)
 have dI:IntKind.i64.wrap (j:Int)=j:=bX (by omega) (by omega);have u1:=OL k x;have hc:q7 k.seq x.seq=-1:=by unfold q7;rw[au hlt]
 rw[hc] at u1;have hj':j<T.length:=by omega
 have h0:(0:Int)<(j:Int)+1:=by omega
 have h1:(0:Int)<=(j:Int)+1:=by omega
 have hm:=rZ T (j+1) _ (aL.2 ⟨hj,hk⟩);have hm0:=rZ T j _ (aL.2 ⟨hj',hx⟩);have EG:∀w g,(T.set j w).modify (j+1) g=(T.set j w).set (j+1) (g (aE .own k)):=λw g=>rZ (T.set j w) (j+1) _ (by rw[NU (by omega)];exact aL.2 ⟨hj,hk⟩) g;have hm2:∀w v g,((T.set j w).set (j+1) v).modify j g=(T.set (j+1) v).set j (g w):=λw v g=>by rw[List.set_comm _ _ (by omega:j≠j+1),sX]
 have ho:aq TT 247=true:=rfl;try simp at hx hk u1 hm hm0 EG
 simp -implicitDefEqProofs [s5,H7,vD,yR,vE,yS,yT,hw,dI,hj,hj',hx,hk,u1,h0,h1,ho,w9,hm,hm0,EG,hm2,sX,ghost,z6]
def Vo(b:Int)(fi:Int)(T:List (List X))(j:Nat)(x k:Kp)(hj:j+1<T.length)(hx:T[j]=aE .own x)(hk:T[j+1]=aE .own k)(hb:T.length<=1073741824)(hlt:¬k.seq<x.seq):
  aj (ev LI TT) (aq TT) s5 [(0,.ref 100000 []),(1,.int .i64 0),(2,.int .i64 b),(3,.fn 247 []),(8,.int .i64 fi),(9,.int .i64 ((j+1:Nat):Int)),(100000,.row .own 9 T)]=some (.exit 2,[(0,.ref 100000 []),(1,.int .i64 0),(2,.int .i64 b),(3,.fn 247 []),(8,.int .i64 fi),(9,.int .i64 ((j+1:Nat):Int)),(34,.bool false),(100000,.row .own 9 T)]):=by
 have dI:IntKind.i64.wrap (j:Int)=j:=bX (by omega) (by omega);have u1:=OL k x;have hc:¬q7 k.seq x.seq<0:=by unfold q7;rw[aC hlt];split<;>omega
 obtain⟨z,hz⟩:∃z,q7 k.seq x.seq=z:=⟨_,rfl⟩;rw[hz] at u1 hc;have hj':j<T.length:=by omega
 have h0:(0:Int)<(j:Int)+1:=by omega
 have h1:(0:Int)<=(j:Int)+1:=by omega
 have ho:aq TT 247=true:=rfl;try simp at hx hk u1
 simp -implicitDefEqProofs [s5,H7,vD,yR,vE,yS,yT,dI,hj,hj',hx,hk,u1,hc,h0,h1,ho,w9]
def Vq(b:Int)(fi:Int)(T:List (List X)):
  aj (ev LI TT) (aq TT) s5 [(0,.ref 100000 []),(1,.int .i64 0),(2,.int .i64 b),(3,.fn 247 []),(8,.int .i64 fi),(9,.int .i64 0),(100000,.row .own 9 T)]=some (.exit 2,[(0,.ref 100000 []),(1,.int .i64 0),(2,.int .i64 b),(3,.fn 247 []),(8,.int .i64 fi),(9,.int .i64 0),(34,.bool false),(100000,.row .own 9 T)]):=by simp -implicitDefEqProofs [s5,H7,vD,yR,vE,yS,yT]
def N8(b fi:Int)(k:Kp)(R:List Kp):∀(rev done:List Kp),(rev.length+done.length+R.length+1<=1073741824)->∃j:Nat,
  aI (aj (ev LI TT) (aq TT) s5) [(0,.ref 100000 []),(1,.int .i64 0),(2,.int .i64 b),(3,.fn 247 []),(8,.int .i64 fi),(9,.int .i64 (rev.length:Nat)),(100000,.row .own 9 ((rev.reverse++k::(done++R)).map (aE .own)))]=some (.exit 2,[(0,.ref 100000 []),(1,.int .i64 0),(2,.int .i64 b),(3,.fn 247 []),(8,.int .i64 fi),(9,.int .i64 (j:Nat)),(34,.bool false),(100000,.row .own 9 ((w8 Kp.seq k rev done++R).map (aE .own)))])
 |[],done,_=>by refine⟨0,?_⟩;rw[cT];have:=Vq b fi ((k::(done++R)).map (aE .own));simp only[List.reverse_nil,j7,iC];rw[show (((0:Nat):Int))=0 from rfl,this];rfl
 |x::rev,done,hb=>by
  simp only[cu] at hb;have hl:((x::rev).reverse++k::(done++R)).length=rev.length+done.length+R.length+2:=by simp;omega
  have e1:(x::rev).reverse++k::(done++R)=rev.reverse++x::k::(done++R):=by simp
  have hx:((rev.reverse++x::k::(done++R)).map (aE .own))[rev.length]'(by simp)=aE .own x:=by simp
  have hk:((rev.reverse++x::k::(done++R)).map (aE .own))[rev.length+1]'(by simp)=aE .own k:=by simp
  rw[e1,cu];unfold w8;by_cases g:k.seq<x.seq
  ·rw[au g];obtain⟨j,hj⟩:=N8 b fi k R rev (x::done) (by simp;omega);refine⟨j,?_⟩;have hs:=Vp 0 b fi ((rev.reverse++x::k::(done++R)).map (aE .own)) rev.length x k (by simp) hx hk (by rw[cZ,<-e1,hl];omega) rfl g;rw[cT,hs];have e2:(((rev.reverse++x::k::(done++R)).map (aE .own)).set (rev.length+1) (aE .own x)).set rev.length (aE .own k)=(rev.reverse++k::((x::done)++R)).map (aE .own):=by have:=agh (rev.reverse.map (aE .own)) (aE .own x) (aE .own k) ((done++R).map (aE .own)) rev.length (by simp);first|(simp;done)|simpa using this
   rw[e2];exact hj
  ·rw[aC g];refine⟨rev.length+1,?_⟩;have hs:=Vo b fi ((rev.reverse++x::k::(done++R)).map (aE .own)) rev.length x k (by simp) hx hk (by rw[cZ,<-e1,hl];omega) g;rw[cT,hs];have e2:(x::rev).reverse++k::done++R=rev.reverse++x::k::(done++R):=by simp
   rw[e2];rfl
end M
set_option maxHeartbeats 4000000
namespace M
open Go
def N9(n:Nat)(hn:n<=1073741824):∀(R S:List Kp),l6 Kp.seq S->S.length+R.length=n->
  aI (aj (ev LI TT) (aq TT) vC) [(0,.ref 100000 []),(1,.int .i64 0),(2,.int .i64 n),(3,.fn 247 []),(8,.int .i64 (S.length:Nat)),(100000,.row .own 9 ((S++R).map (aE .own)))]=some (.exit 0,[(0,.ref 100000 []),(1,.int .i64 0),(2,.int .i64 n),(3,.fn 247 []),(8,.int .i64 n),(14,.bool false),(100000,.row .own 9 ((R.foldl (λS k=>eE Kp.seq k S) S).map (aE .own)))])
 |[],S,ho,hl=>by
  have:S.length=n:=by simpa using hl
  subst this;rw[cT];simp -implicitDefEqProofs [vC,H8]
 |k::R,S,ho,hl=>by
  simp only[cu] at hl;have hlt:S.length<n:=by omega
  have hw:=aU S.length (by omega);obtain⟨j,hj⟩:=N8 n (S.length:Nat) k R S.reverse [] (by simp;omega);rw[RG S.reverse [] (by simpa using ho) (by simp)] at hj;have e1:S.reverse.reverse++k::([]++R)=S++k::R:=by simp
  have e2:S.reverse.reverse++[]=S:=by simp
  rw[e1,e2,Iy] at hj
  have hstep:aj (ev LI TT) (aq TT) vC [(0,.ref 100000 []),(1,.int .i64 0),(2,.int .i64 n),(3,.fn 247 []),(8,.int .i64 (S.length:Nat)),(100000,.row .own 9 ((S++k::R).map (aE .own)))]=some (.normal,[(0,.ref 100000 []),(1,.int .i64 0),(2,.int .i64 n),(3,.fn 247 []),(8,.int .i64 ((eE Kp.seq k S).length:Nat)),(100000,.row .own 9 ((eE Kp.seq k S++R).map (aE .own)))]):=by
   rw[RF];try simp at hj
   simp -implicitDefEqProofs [vC,H8,hlt,hw,hj]
  rw[cT,hstep];exact N9 n hn R (eE Kp.seq k S) (KR ho) (by rw[RF];omega)
def Yr(l:List Kp)(hb:l.length<=1073741824):ev LI TT 292 [.row .own 9 (l.map (aE .own)),.int .i64 0,.int .i64 l.length,.fn 247 []]=some (.ak [],[.row .own 9 ((gF Kp.seq l).map (aE .own)),.dead,.dead,.dead]):=by
 rw[ay (b:=CY) (rs:=[]) (n:=4) rfl rfl];cases l with
 |nil=>
  have h:aI (aj (ev LI TT) (aq TT) vC) [(0,.ref 100000 []),(1,.int .i64 0),(2,.int .i64 0),(3,.fn 247 []),(8,.int .i64 1),(100000,.row .own 9 [])]=some (.exit 0,[(0,.ref 100000 []),(1,.int .i64 0),(2,.int .i64 0),(3,.fn 247 []),(8,.int .i64 1),(14,.bool false),(100000,.row .own 9 [])]):=by rw[cT];simp -implicitDefEqProofs [vC,H8]
  have h1:IntKind.i64.wrap 1=1:=bX (by omega) (by omega);simp -implicitDefEqProofs [CY,h,h1,gF]
 |cons a l=>
 have h:=N9 (a::l).length hb l [a] (by simp[l6]) (by simp;omega);have h1:IntKind.i64.wrap 1=1:=bX (by omega) (by omega);have e:gF Kp.seq (a::l)=l.foldl (λS k=>eE Kp.seq k S) [a]:=rfl;rw[e];generalize l.foldl (λS k=>eE Kp.seq k S) [a]=Z at h⊢;try simp at h
 simp -implicitDefEqProofs [CY,h,h1,vD,yR,vE,yS,yT];all_goals (repeat' split)<;>first|rfl|omega|(simp_all;done)|(simp_all;omega)|skip
def Ys(l:List Kp)(hb:l.length<=15):ev LI TT 273 [.row .own 9 (l.map (aE .own)),.int .i64 l.length,.fn 247 []]=some (.ak [],[.row .own 9 ((gF Kp.seq l).map (aE .own)),.dead,.dead]):=by
 rw[ay (b:=H9) (rs:=[]) (n:=3) rfl rfl];have h0:¬(20:Int)<=l.length:=by omega
 have h0':¬(20:Int)<l.length:=by omega
 have h1:aI (aj (ev LI TT) (aq TT) Nc) [(0,.ref 100000 []),(1,.int .i64 l.length),(2,.fn 247 []),(6,.int .i64 20),(7,.int .i64 0),(8,.int .i64 20),(100000,.row .own 9 (l.map (aE .own)))]=some (.exit 0,[(0,.ref 100000 []),(1,.int .i64 l.length),(2,.fn 247 []),(6,.int .i64 20),(7,.int .i64 0),(8,.int .i64 20),(13,.bool false),(100000,.row .own 9 (l.map (aE .own)))]):=by rw[cT];simp -implicitDefEqProofs [Nc,UF,h0]
 have h2:∀Z,aI (aj (ev LI TT) (aq TT) Nd) [(0,.ref 100000 []),(1,.int .i64 l.length),(2,.fn 247 []),(6,.int .i64 20),(100000,.row .own 9 Z)]=some (.exit 2,[(0,.ref 100000 []),(1,.int .i64 l.length),(2,.fn 247 []),(6,.int .i64 20),(30,.bool false),(100000,.row .own 9 Z)]):=by intro Z;rw[cT];simp -implicitDefEqProofs [Nd,UG,h0']
 have h3:=Yr l (by omega);try simp at h1 h3
 simp -implicitDefEqProofs [H9,h1,h2,h3];all_goals (repeat' split)<;>first|rfl|omega|(simp_all;done)|(simp_all;omega)|skip
def Yq(l:List Kp)(hb:l.length<=15):ev LI TT 246 [.row .own 9 (l.map (aE .own)),.fn 247 []]=some (.ak [],[.row .own 9 ((gF Kp.seq l).map (aE .own)),.dead]):=by
 rw[ay (b:=H6) (rs:=[]) (n:=2) rfl rfl];have u1:=Ys l hb;try simp at u1
 simp -implicitDefEqProofs [H6,u1];all_goals (repeat' split)<;>first|rfl|omega|(simp_all;done)|(simp_all;omega)|skip
def OM(s:Sh)(n:Int)(hs:0<=s.seq/\s.seq<=1000000)(hn:0<=n/\n<=1000000):ev LI TT 244 [.ptr .own (aH .own s),.int .i64 n]=some (.ak [],[.ptr .own (aH .own ⟨s.aG,s.ai,s.aD,s.next,if n<100000 then max s.seq (n+1) else s.seq⟩),.dead]):=by
 rw[ay (b:=wU) (rs:=[]) (n:=2) rfl rfl];have hw:IntKind.i64.wrap (n+1)=n+1:=bX (by omega) (by omega);by_cases g:n<100000;rotate_left;·simp -implicitDefEqProofs [wU,g]
 by_cases g2:n+1>s.seq
 ·have e:max s.seq (n+1)=n+1:=by omega
  have g3:s.seq<n+1:=by omega
  simp -implicitDefEqProofs [wU,g,g2,g3,hw,e]
 have e:max s.seq (n+1)=s.seq:=by omega
 have g3:¬s.seq<n+1:=by omega
 simp -implicitDefEqProofs [wU,g,g2,g3,hw,e];all_goals (repeat' split)<;>first|rfl|omega|(simp_all;done)|(simp_all;omega)|skip
def FU(s:ag):0<=(cx s).1/\(cx s).1<=100000:=by
 cases h:(cx s).2.2;·rw[S9 h];simp
 ·have:=FV h;omega
def VJ(d:aQ)(hd:bJ d=true)(hwd:bh d<=16777216):
  aI (aj (ev LI TT) (aq TT) uv) [(0,.ax 100000 [] 0 0),(8,.int .i64 0),(100000,.ptr .own (aH .own ⟨d,[],[],5,1⟩))]=
  (match cN (gC d) 0 (List.range 5) ([],0) with
   |.inl g=>some (.exit 0,[(0,.ax 100000 [] 0 0),(8,.int .i64 5),(9,.bool false),(100000,.ptr .own (aH .own ⟨d,[],g.1,5,g.2+1⟩))])
   |.inr e=>some (.ret,[(0,.ax 100000 [] 0 0),(3,.int .i64 e.2.1),(6,.ptr .own (ck e.2.2.1)),(8,.int .i64 (e.2.2.2:Nat)),(31,.bool true),(100000,.ptr .own (aH .own ⟨d,[],e.1.1,5,e.1.2+1⟩))])):=by
 obtain⟨k0,k1,k2⟩:=fL hd
 have:=Bl (xt:=0) (f:=aj (ev LI TT) (aq TT) uv) (List.range 5) (λi (g:List Bn×Int)=>[(0,.ax 100000 [] 0 0),(8,.int .i64 i),(100000,.ptr .own (aH .own ⟨d,[],g.1,5,g.2+1⟩))]) (gC d)
  (λg=>[(0,.ax 100000 [] 0 0),(8,.int .i64 5),(9,.bool false),(100000,.ptr .own (aH .own ⟨d,[],g.1,5,g.2+1⟩))])
  (λe=>(.ret,[(0,.ax 100000 [] 0 0),(3,.int .i64 e.2.1),(6,.ptr .own (ck e.2.2.1)),(8,.int .i64 (e.2.2.2:Nat)),(31,.bool true),(100000,.ptr .own (aH .own ⟨d,[],e.1.1,5,e.1.2+1⟩))]))
  (λi g=>(∀b∈g.1,dF b=true)/\g.1.length<=i/\0<=g.2/\g.2<100000) ([],0) (by simp) (λi b g hi hl hg=>?_) (λi b g g' hi hg fD=>(FD d hg).1 g' fD) (λg hg=>?_)
 ·refine yZ ?_ (this.trans ?_);·simp
  ·cases cN (gC d) 0 (List.range 5) ([],0) with
   |inl g=>rfl
   |inr e=>rfl
 ·have ud:i<5:=by simpa using hl
  have eN:(i:Int)<5:=by omega
  have hw:=aU i (by omega);have u1:=OB d i (by omega) (by omega) (by omega);have Ki:=En d i;have u2:=OG (cC d i) (by omega);have hrl:=FT (cC d i);have mP:=FU (cC d i);have u3:=Xu (cx (cC d i)).2.1 (by omega);have hlz:(g.1.length+1)*48<=140737488355328:=by omega
  unfold gC;generalize cx (cC d i)=rr at u2 u3 hrl mP⊢;obtain⟨n,bd,ok⟩:=rr;simp only at u2 u3 hrl mP⊢;generalize gv bd=br at u3⊢;obtain⟨⟨bk,ba,bb,bt⟩,tI⟩:=br;have u4:=OM ⟨d,[],g.1++[⟨bk,ba,bb,bt⟩],5,g.2+1⟩ n (by simp only;omega) (by omega);have uf:(if n<100000 then max (g.2+1) (n+1) else g.2+1)=uD g.2 n+1:=by unfold uD;split<;>omega
  simp only[uf] at u4;simp at u1 u2 u3 u4;cases ok;·simp -implicitDefEqProofs [uv,AY,wR,wT,eN,hw,u1,u2,u3,lv]
  cases tI;·simp -implicitDefEqProofs [uv,AY,wR,wT,eN,hw,u1,u2,u3,lv]
  simp -implicitDefEqProofs [uv,AY,wR,wT,eN,hw,u1,u2,u3,u4,lv,hlz,bY]
 ·simp -implicitDefEqProofs [uv,AY]
def XI(d:aQ)(hd:bJ d=true)(hwd:bh d<=16777216):ev LI TT 201 [.ptr .own (aH .own ⟨d,[],[],5,1⟩)]=some (.ak [],[.ptr .own (aH .own ⟨d,[],(dw d).1,5,(dw d).2+1⟩)]):=by
 rw[ay (b:=AZ) (rs:=[]) (n:=1) rfl rfl];have u1:=VJ d hd hwd;try simp at u1
 unfold dw;cases hr:cN (gC d) 0 (List.range 5) ([],0) with
 |inl g=>rw[hr] at u1;simp at u1;simp -implicitDefEqProofs [AZ,u1,zw]
 |inr e=>
 rw[hr] at u1;simp at u1;simp -implicitDefEqProofs [AZ,u1,u1,zw,wR,wT];all_goals (repeat' split)<;>first|rfl|omega|(simp_all;done)|(simp_all;omega)|skip
def Wj(d:aQ)(hd:bJ d=true)(hwd:bh d<=16777216):
  aI (aj (ev LI TT) (aq TT) sU) [(1,.ptr .own (bU .af d)),(4,.row .own 4 []),(5,.int .i64 0),(6,.int .i64 0)]=
  (match cN (gC d) 0 (List.range 5) ([],0) with
   |.inl g=>some (.exit 0,[(1,.ptr .own (bU .af d)),(4,.row .own 4 (g.1.map ck)),(5,.int .i64 g.2),(6,.int .i64 5),(14,.bool false)])
   |.inr e=>some (.ret,[(2,.row .own 4 (e.1.1.map ck)),(3,.int .i64 e.1.2),(4,.dead)])):=by
 obtain⟨k0,k1,k2⟩:=fL hd
 have:=Bl (xt:=0) (f:=aj (ev LI TT) (aq TT) sU) (List.range 5) (λi (g:List Bn×Int)=>[(1,.ptr .own (bU .af d)),(4,.row .own 4 (g.1.map ck)),(5,.int .i64 g.2),(6,.int .i64 i)]) (gC d)
  (λg=>[(1,.ptr .own (bU .af d)),(4,.row .own 4 (g.1.map ck)),(5,.int .i64 g.2),(6,.int .i64 5),(14,.bool false)])
  (λe=>(.ret,[(2,.row .own 4 (e.1.1.map ck)),(3,.int .i64 e.1.2),(4,.dead)]))
  (λi g=>(∀b∈g.1,dF b=true)/\g.1.length<=i/\0<=g.2/\g.2<100000) ([],0) (by simp) (λi b g hi hl hg=>?_) (λi b g g' hi hg fD=>(FD d hg).1 g' fD) (λg hg=>?_)
 ·refine yZ ?_ (this.trans ?_);·simp
  ·cases cN (gC d) 0 (List.range 5) ([],0) with
   |inl g=>rfl
   |inr e=>rfl
 ·have ud:i<5:=by simpa using hl
  have eN:(i:Int)<5:=by omega
  have hw:=aU i (by omega);have u1:=OU d i (by omega);have hin:bJ d=true/\(0:Int)<=i/\(i:Int)<=19:=⟨hd,by omega,by omega⟩;rw[au hin] at u1;have Ki:=En d i;have u2:=O1 (cC d i) (by omega);have hrl:=FT (cC d i);have mP:=FU (cC d i);have u3:=XY (cx (cC d i)).2.1 (by omega);have hlz:(g.1.length+1)*48<=140737488355328:=by omega
  unfold gC;generalize cx (cC d i)=rr at u2 u3 hrl mP⊢;obtain⟨n,bd,ok⟩:=rr;simp only at u2 u3 hrl mP⊢;generalize gv bd=br at u3⊢;obtain⟨⟨bk,ba,bb,bt⟩,tI⟩:=br;have Am:max g.2 n=if n<g.2 then g.2 else n:=by split<;>omega
  simp at u1 u2 u3;cases ok;·simp -implicitDefEqProofs [sU,yj,eN,hw,u1,u2,u3,lv]
  cases tI;·simp -implicitDefEqProofs [sU,yj,eN,hw,u1,u2,u3,lv]
  by_cases gq:n<100000;·simp -implicitDefEqProofs [sU,yj,eN,hw,u1,u2,u3,lv,hlz,bY,gq,uD,Am]
  ·simp -implicitDefEqProofs [sU,yj,eN,hw,u1,u2,u3,lv,hlz,bY,gq,uD]
 ·simp -implicitDefEqProofs [sU,yj]
def Yd(d:aQ)(hd:bJ d=true)(hwd:bh d<=16777216):ev LI TT 131 [.agg (bU .af d)]=some (.ak [.row .own 4 ((dw d).1.map ck),.int .i64 (dw d).2],[.dead]):=by
 rw[ay (b:=Ck) (rs:=[.t 2,.t 3]) (n:=1) rfl rfl];have u1:=Wj d hd hwd;try simp at u1
 unfold dw;cases hr:cN (gC d) 0 (List.range 5) ([],0) with
 |inl g=>rw[hr] at u1;simp at u1;simp -implicitDefEqProofs [Ck,u1,zw]
 |inr e=>
 rw[hr] at u1;simp at u1;simp -implicitDefEqProofs [Ck,u1,u1,zw];all_goals (repeat' split)<;>first|rfl|omega|(simp_all;done)|(simp_all;omega)|skip
end M
