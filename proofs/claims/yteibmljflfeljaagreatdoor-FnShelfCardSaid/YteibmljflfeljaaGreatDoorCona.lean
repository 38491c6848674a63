/- What the functions come to in the machine; no conditions. -/
import Derived.Test.YteibmljflfeljaaGreatDoorTab
import Derived.Test.YteibmljflfeljaaGreatDoorMc
set_option linter.defProp false
set_option linter.unusedSectionVars false
set_option linter.unusedVariables false
set_option linter.unusedSimpArgs false
namespace M
open Go
end M
namespace M
open Go
@[simp] def ank(x:Int)(lo:Int)(hi:Int):ev LI TT 42 [.int .i64 x,.int .i64 lo,.int .i64 hi]=some (.bool ((decide (lo<=x/\x<=hi))),[.dead,.dead,.dead]):=by rw[au (b:=H7) (rs:=[.t 6]) (n:=3) rfl rfl];simp -implicitDefEqProofs [H7];try (by_cases h1:lo<=x<;>by_cases h2:x<=hi<;>simp[h1,h2])
@[simp] def anf(x:Int)(lo:Int)(hi:Int):ev LI TT 38 [.int .i64 x,.int .i64 lo,.int .i64 hi]=some (.bool ((decide (lo<=x/\x<=hi))),[.dead,.dead,.dead]):=by rw[au (b:=Gc) (rs:=[.t 6]) (n:=3) rfl rfl];simp -implicitDefEqProofs [Gc];try (by_cases h1:lo<=x<;>by_cases h2:x<=hi<;>simp[h1,h2])
def XT(s:ag)(hb:s.length<=9223372036854775807):aI (ak (ev LI TT) (aq TT) CM) [(0,.str ⟨s.toArray⟩),(3,.int .i64 0)]=if bq qW (s)=true then some (.exit 0,[(0,.str ⟨s.toArray⟩),(3,.int .i64 (s).length),(8,.bool false)]) else some (.ret,[(2,.bool false)]):=by
 refine gJ (f:=ak (ev LI TT) (aq TT) CM) (s) (λi=>[(0,.str ⟨s.toArray⟩),(3,.int .i64 i)]) qW _ _ (λi b hi hl=>?_) ?_;·have hw:=aU i (by first|omega|(simp at hl;omega));obtain⟨_,rfl⟩:=aJ.1 hi;unfold qW;simp -implicitDefEqProofs [CM,Nt,hl,hw];all_goals (repeat' split)<;>first|rfl|omega|simp_all<;>omega|skip
 ·simp -implicitDefEqProofs [CM,Nt]
def Kb(s:ag)(hb:s.length<=9223372036854775807):ev LI TT 98 [.str ⟨s.toArray⟩]=some (.bool ((dX s)),[.dead]):=by
 rw[au (b:=Hw) (rs:=[.t 2]) (n:=1) rfl rfl];unfold dX;have u1:=XT s hb;try simp at u1
 simp -implicitDefEqProofs [Hw,u1];all_goals (repeat' split)<;>first|rfl|omega|simp_all<;>omega|skip
def Xm(s:ag)(hb:s.length<=9223372036854775807):aI (ak (ev LI TT) (aq TT) BI) [(0,.str ⟨s.toArray⟩),(3,.int .i64 0)]=if bq qW (s)=true then some (.exit 0,[(0,.str ⟨s.toArray⟩),(3,.int .i64 (s).length),(7,.bool false)]) else some (.ret,[(2,.bool false)]):=by
 refine gJ (f:=ak (ev LI TT) (aq TT) BI) (s) (λi=>[(0,.str ⟨s.toArray⟩),(3,.int .i64 i)]) qW _ _ (λi b hi hl=>?_) ?_;·have hw:=aU i (by first|omega|(simp at hl;omega));obtain⟨_,rfl⟩:=aJ.1 hi;unfold qW;simp -implicitDefEqProofs [BI,LX,hl,hw];all_goals (repeat' split)<;>first|rfl|omega|simp_all<;>omega|skip
 ·simp -implicitDefEqProofs [BI,LX]
def J4(s:ag)(hb:s.length<=9223372036854775807):ev LI TT 93 [.str ⟨s.toArray⟩]=some (.bool ((dX s)),[.dead]):=by
 rw[au (b:=FZ) (rs:=[.t 2]) (n:=1) rfl rfl];unfold dX;have u1:=Xm s hb;try simp at u1
 simp -implicitDefEqProofs [FZ,u1];all_goals (repeat' split)<;>first|rfl|omega|simp_all<;>omega|skip
def Xo(s:ag)(lo:UInt8)(hb:s.length<=9223372036854775807):aI (ak (ev LI TT) (aq TT) BK) [(0,.str ⟨s.toArray⟩),(1,.int .u8 (lo.toNat:Int)),(5,.int .i64 0)]=if bq (iw lo.toNat) (s)=true then some (.exit 0,[(0,.str ⟨s.toArray⟩),(1,.int .u8 (lo.toNat:Int)),(5,.int .i64 (s).length),(9,.bool false)]) else some (.ret,[(4,.bool false)]):=by
 refine gJ (f:=ak (ev LI TT) (aq TT) BK) (s) (λi=>[(0,.str ⟨s.toArray⟩),(1,.int .u8 (lo.toNat:Int)),(5,.int .i64 i)]) (iw lo.toNat) _ _ (λi b hi hl=>?_) ?_;·have hw:=aU i (by first|omega|(simp at hl;omega));obtain⟨_,rfl⟩:=aJ.1 hi;unfold iw;simp -implicitDefEqProofs [BK,LZ,hl,hw];all_goals (repeat' split)<;>first|rfl|omega|simp_all<;>omega|skip
 ·simp -implicitDefEqProofs [BK,LZ]
def Qg(s:ag)(lo:UInt8)(hb:s.length<=9223372036854775807):ev LI TT 143 [.str ⟨s.toArray⟩,.int .u8 (lo.toNat:Int)]=some (.bool ((bq (iw lo.toNat) s)),[.dead,.dead]):=by
 rw[au (b:=F3) (rs:=[.t 4]) (n:=2) rfl rfl];have u1:=Xo s lo hb;try simp at u1
 simp -implicitDefEqProofs [F3,u1];all_goals (repeat' split)<;>first|rfl|omega|simp_all<;>omega|skip
end M
namespace M
open Go
def fQ(b:UInt8):Bool:=decide ¬(b.toNat:Int)=32
def XU(s:ag)(hb:s.length<=9223372036854775807):aI (ak (ev LI TT) (aq TT) CN) [(0,.str ⟨s.toArray⟩),(3,.int .i64 0),(4,.int .i64 s.length)]=some (.exit 0,(λ(i:Nat)=>[(0,.str ⟨s.toArray⟩),(3,.int .i64 i),(4,.int .i64 s.length),(15,.bool false)]) (eE fQ (s))):=by
 refine TO (f:=ak (ev LI TT) (aq TT) CN) (s) (λi=>[(0,.str ⟨s.toArray⟩),(3,.int .i64 i),(4,.int .i64 s.length)]) fQ (λ(i:Nat)=>[(0,.str ⟨s.toArray⟩),(3,.int .i64 i),(4,.int .i64 s.length),(15,.bool false)]) (λi b hi hl=>?_) ?_;·have hw:=aU i (by first|omega|(simp at hl;omega));obtain⟨_,rfl⟩:=aJ.1 hi;simp -implicitDefEqProofs [CN,Nu,hl,hw,fQ];all_goals (repeat' split)<;>first|rfl|omega|simp_all<;>omega|skip
 ·simp -implicitDefEqProofs [CN,Nu]
def XV(s:ag)(k:Nat)(hk:k<=s.length)(hb:s.length<=9223372036854775807):aI (ak (ev LI TT) (aq TT) CO) [(0,.str ⟨s.toArray⟩),(3,.int .i64 k),(4,.int .i64 ((s.length - 0:Nat):Int))]=some (.exit 2,(λ(i:Nat)=>[(0,.str ⟨s.toArray⟩),(3,.int .i64 k),(4,.int .i64 ((s.length - i:Nat):Int)),(27,.bool false)]) (eE fQ ((s.drop k).reverse))):=by
 refine TO (f:=ak (ev LI TT) (aq TT) CO) ((s.drop k).reverse) (λi=>[(0,.str ⟨s.toArray⟩),(3,.int .i64 k),(4,.int .i64 ((s.length - i:Nat):Int))]) fQ (λ(i:Nat)=>[(0,.str ⟨s.toArray⟩),(3,.int .i64 k),(4,.int .i64 ((s.length - i:Nat):Int)),(27,.bool false)]) (λi b hi hl=>?_) ?_
 ·have hw:=aU i (by first|omega|(simp at hl;omega));obtain⟨_,rfl⟩:=aJ.1 hi;simp at hl;obtain⟨m,hm⟩:∃m,s.length - i=m+1:=⟨s.length - i - 1,by omega⟩;have e1:s.length - (i+1)=m:=by omega
  have e2:IntKind.i64.wrap (m:Int)=m:=bO (by omega) (by omega);have e3:m<s.length:=by omega
  have e4:((s.drop k).reverse)[i]=s[m]:=by simp;congr 1;omega
  have e5:(k:Int)<(m:Int)+1:=by omega
  rw[e4,hm,e1];simp -implicitDefEqProofs [CO,Nv,hl,hw,fQ,e2,e3,e5];try (rw[cz e3];simp[e2])
  all_goals (repeat' split)<;>first|rfl|omega|simp_all<;>omega|skip
 ·simp only[Jy,mA,show s.length - (s.length - k)=k by omega];simp -implicitDefEqProofs [CO,Nv]
end M
namespace M
open Go
def I6(c:bg):∃(x:Int) (c':bg),ev LI TT 122 [.ptr .own (aR c)]=some (.int .i64 x,[.ptr .own (aR c')])/\0<=x/\x<=255:=by
 obtain⟨code,i,h,hi,hl⟩:=c;by_cases hlt:i<code.length
 ·have hw:=aU i (by omega);have H:∃(x h':Int),ev LI TT 122 [.ptr .own [.row .sl 1 (code.map eU),.int .i64 i,.int .i64 h]]=some (.int .i64 x,[.ptr .own [.row .sl 1 (code.map eU),.int .i64 (i+1),.int .i64 h']])/\0<=x/\x<=255:=by rw[au (b:=y7) (rs:=[.t 2]) (n:=1) rfl rfl];simp -implicitDefEqProofs [y7,hlt,hw,PN];omega
  obtain⟨x,h',e,b⟩:=H;exact⟨x,⟨code,i+1,h',hlt,hl⟩,e,b⟩
 ·have H:∃(x h':Int),ev LI TT 122 [.ptr .own [.row .sl 1 (code.map eU),.int .i64 i,.int .i64 h]]=some (.int .i64 x,[.ptr .own [.row .sl 1 (code.map eU),.int .i64 i,.int .i64 h']])/\0<=x/\x<=255:=by rw[au (b:=y7) (rs:=[.t 2]) (n:=1) rfl rfl];simp -implicitDefEqProofs [y7,hlt,PN];omega
  obtain⟨x,h',e,b⟩:=H;exact⟨x,⟨code,i,h',hi,hl⟩,e,b⟩
noncomputable def gU(c:bg):Int:=(I6 c).choose
noncomputable def dV(c:bg):bg:=(I6 c).choose_spec.choose
def Ae(c:bg):0<=gU c/\gU c<=255:=(I6 c).choose_spec.choose_spec.2
@[simp] def anj(c:bg):ev LI TT 122 [.ptr .own (aR c)]=some (.int .i64 (gU c),[.ptr .own (aR (dV c))]):=(I6 c).choose_spec.choose_spec.1
def Vz(a n:Int)(ha:0<=a)(hn:0<n):0<=a.tmod n/\a.tmod n<n:=by rw[DV ha];exact⟨Int.emod_nonneg _ (by omega),Int.emod_lt_of_pos _ hn⟩
def I5(c:bg)(n:Int)(hn:0<n)(hn':n<=9223372036854775807):∃(x:Int) (c':bg),ev LI TT 58 [.ptr .own (aR c),.int .i64 n]=some (.int .i64 x,[.ptr .own (aR c'),.dead])/\0<=x/\x<n:=by
 rw[au (b:=vT) (rs:=[.t 4]) (n:=2) rfl rfl];have h0:¬n<=0:=by omega
 have h1:¬n=0:=by omega
 by_cases h:n<=256;·refine⟨(gU c).tmod n,dV c,?_,Vz _ _ (Ae c).1 hn⟩;simp -implicitDefEqProofs [vT,h,h0,h1]
 ·have b1:=Ae c;have b2:=Ae (dV c);have b3:=Ae (dV (dV c));have b4:=Ae (dV (dV (dV c)));have w1:=bO (n:=gU c*16777216) (by omega) (by omega);have w2:=bO (n:=gU (dV c)*65536) (by omega) (by omega);have w3:=bO (n:=gU (dV (dV c))*256) (by omega) (by omega);have w4:=bO (n:=gU c*16777216+gU (dV c)*65536) (by omega) (by omega);have w5:=bO (n:=gU c*16777216+gU (dV c)*65536+gU (dV (dV c))*256) (by omega) (by omega);have w6:=bO (n:=gU c*16777216+gU (dV c)*65536+gU (dV (dV c))*256+gU (dV (dV (dV c)))) (by omega) (by omega);refine⟨(gU c*16777216+gU (dV c)*65536+gU (dV (dV c))*256+gU (dV (dV (dV c)))).tmod n,dV (dV (dV (dV c))),?_,Vz _ _ (by omega) hn⟩;simp -implicitDefEqProofs [vT,h,h0,h1,w1,w2,w3,w4,w5,w6]
def aml(c:bg)(n:Int)(hn:n<=0):ev LI TT 58 [.ptr .own (aR c),.int .i64 n]=some (.int .i64 0,[.ptr .own (aR c),.dead]):=by rw[au (b:=vT) (rs:=[.t 4]) (n:=2) rfl rfl];simp -implicitDefEqProofs [vT,hn]
noncomputable def kO(c:bg)(n:Int):Int:=if h:0<n/\n<=9223372036854775807 then (I5 c n h.1 h.2).choose else 0
noncomputable def jm(c:bg)(n:Int):bg:=if h:0<n/\n<=9223372036854775807 then (I5 c n h.1 h.2).choose_spec.choose else c
def uf(c:bg)(n:Int)(h1:0<n)(h2:n<=9223372036854775807):0<=kO c n/\kO c n<n:=by unfold kO;rw[lu ⟨h1,h2⟩];exact(I5 c n h1 h2).choose_spec.choose_spec.2
def Ai(c:bg)(n:Int)(h2:n<=9223372036854775807):ev LI TT 58 [.ptr .own (aR c),.int .i64 n]=some (.int .i64 (kO c n),[.ptr .own (aR (jm c n)),.dead]):=by
 unfold kO jm;by_cases h1:0<n;·rw[lu ⟨h1,h2⟩,lu ⟨h1,h2⟩];exact(I5 c n h1 h2).choose_spec.choose_spec.1
 ·rw[rj (λh=>h1 h.1),rj (λh=>h1 h.1)];exact aml c n (by omega)
def ZU(c:bg)(n:Int)(h2:n<=9223372036854775807):ev LI TT 129 [.ptr .own (aR c),.int .i64 n]=some (.bool (decide (kO c n=0)),[.ptr .own (aR (jm c n)),.dead]):=by rw[au (b:=Ic) (rs:=[.t 4]) (n:=2) rfl rfl];simp -implicitDefEqProofs [Ic,Ai c n h2];all_goals (repeat' split)<;>first|rfl|omega|simp_all<;>omega|skip
def QI(c:bg)(l:List ag)(h1:0<l.length)(h2:l.length<=9223372036854775807):ev LI TT 63 [.ptr .own (aR c),.row .af 1 (l.map eS)]=some (.str ⟨(l.getD (kO c l.length).toNat []).toArray⟩,[.ptr .own (aR (jm c l.length)),.dead]):=by
 rw[au (b:=Ig) (rs:=[.t 4]) (n:=2) rfl rfl];have b:=uf c l.length (by omega) (by omega);have b2:(kO c l.length).toNat<l.length:=by omega
 simp -implicitDefEqProofs [Ig,Ai c l.length (by omega),b,b2];all_goals (repeat' split)<;>first|rfl|omega|simp_all<;>omega|skip
def ZV(c:bg)(l:List Int)(h1:0<l.length)(h2:l.length<=9223372036854775807):ev LI TT 59 [.ptr .own (aR c),.row .af 1 (l.map eI)]=some (.int .i64 (l.getD (kO c l.length).toNat 0),[.ptr .own (aR (jm c l.length)),.dead]):=by
 rw[au (b:=Ie) (rs:=[.t 4]) (n:=2) rfl rfl];have b:=uf c l.length (by omega) (by omega);have b2:(kO c l.length).toNat<l.length:=by omega
 simp -implicitDefEqProofs [Ie,Ai c l.length (by omega),b,b2];all_goals (repeat' split)<;>first|rfl|omega|simp_all<;>omega|skip
def X4(code:List UInt8)(hl:code.length<=1048576)(h:Int):∃h':Int,aI (ak (ev LI TT) (aq TT) y8) [(0,.row .sl 1 (code.map eU)),(3,.int .i64 h),(4,.int .i64 0),(100000,.row .sl 1 (code.map eU))]=some (.exit 0,[(0,.row .sl 1 (code.map eU)),(3,.int .i64 h'),(4,.int .i64 (min code.length 4000:Nat)),(15,.bool false),(100000,.row .sl 1 (code.map eU))]):=by
 refine Exists.elim (afY (f:=ak (ev LI TT) (aq TT) y8) (min code.length 4000) (λi (h:Int)=>[(0,.row .sl 1 (code.map eU)),(3,.int .i64 h),(4,.int .i64 i),(100000,.row .sl 1 (code.map eU))]) (λ_ _=>True) (λh'=>[(0,.row .sl 1 (code.map eU)),(3,.int .i64 h'),(4,.int .i64 (min code.length 4000:Nat)),(15,.bool false),(100000,.row .sl 1 (code.map eU))]) h trivial (λi g hi _=>?_) (λg _=>?_)) λg h=>⟨g,h.2⟩
 ·have h1:i<code.length:=by omega
  have h2:(i:Int)<4000:=by omega
  have hw:=aU i (by omega);simp -implicitDefEqProofs [y8,Ia,h1,h2,hw]
 ·by_cases h1:code.length<=4000
  ·have:min code.length 4000=code.length:=by omega
   rw[this];simp -implicitDefEqProofs [y8,Ia]
  ·have:min code.length 4000=4000:=by omega
   rw[this];have h2:4000<code.length:=by omega
   have h3:(4000:Int)<code.length:=by omega
   simp -implicitDefEqProofs [y8,Ia,h2,h3]
def V5(code:List UInt8)(hl:code.length<=1048576):∃c:bg,ev LI TT 19 [.row .sl 1 (code.map eU)]=some (.ptr .own (aR c),[.dead]):=by have hw:=bO (n:=18850+code.length) (by omega) (by omega);obtain⟨h',e⟩:=X4 code hl (18850+code.length);refine⟨⟨code,0,h',oq _,by omega⟩,?_⟩;rw[au (b:=Ib) (rs:=[.t 2]) (n:=1) rfl rfl];simp -implicitDefEqProofs [Ib,hw,e,aR,B8]
end M
namespace M
open Go
def T5(b:UInt8):fQ b=true↔b≠32:=by
 unfold fQ
 have:((b.toNat:Int)=32)↔b=32:=by
  constructor;·intro h;exact tP.1 (by have e:(32:UInt8).toNat=32:=rfl;omega)
  ·rintro rfl;rfl
 simp[this]
def VB(s:ag):Lib.trimLeftB s 32=s.drop (eE fQ s):=by
 refine Lib.trimLeftB_drop s 32 _ (IX _ _) (λj b hj hb=>?_) λb hb=>(T5 b).1 (VI _ _ _ hb);have:=VJ _ _ _ _ hj hb;by_cases h:b=32;·exact h
 ·rw[(T5 b).2 h] at this;cases this
def al1(s:ag):Lib.trimRightB s 32=s.take (s.length - eE fQ s.reverse):=by have h:=VB s.reverse;unfold Lib.trimLeftB at h;unfold Lib.trimRightB;rw[h,List.drop_reverse,WB]
def al2(s:ag):(s.drop (eE fQ s)).take (s.length - eE fQ (s.drop (eE fQ s)).reverse - eE fQ s)=gw s:=by rw[al3,VB,al1,mA];congr 1;omega
def Kc(s:ag)(hb:s.length<=9223372036854775807):ev LI TT 139 [.str ⟨s.toArray⟩]=some (.str ⟨(gw s).toArray⟩,[.dead]):=by
 rw[au (b:=Hx) (rs:=[.t 2]) (n:=1) rfl rfl];have h1:=IX fQ s;have h2:=IX fQ (s.drop (eE fQ s)).reverse;simp only[Jy,mA] at h2;have h3:=al2 s;have u1:=XU s hb;try simp at u1
 have u2:=XV s (eE fQ s) (IX _ _) hb;try simp at u2
 simp -implicitDefEqProofs [Hx,u1,u2,(by omega:(eE fQ s:Int)<=((s.length - eE fQ (s.drop (eE fQ s)).reverse:Nat):Int)),(by omega:((s.length - eE fQ (s.drop (eE fQ s)).reverse:Nat):Int)<=s.length),Lib.extract_mk,h3];all_goals (repeat' split)<;>first|rfl|omega|simp_all<;>omega|skip
def Qe(s:ag)(hb:s.length<=9223372036854775807):ev LI TT 144 [.str ⟨s.toArray⟩]=some (.str ⟨(gw s).toArray⟩,[.dead]):=by
 rw[au (b:=F1) (rs:=[.t 2]) (n:=1) rfl rfl];have u1:=aaf s hb;try simp at u1
 simp -implicitDefEqProofs [F1,u1];all_goals (repeat' split)<;>first|rfl|omega|simp_all<;>omega|skip
def XW(s:ag)(hb:s.length<=9223372036854775807):aI (ak (ev LI TT) (aq TT) CP) [(0,.str ⟨s.toArray⟩),(3,.int .i64 0)]=if bq (iw 32) (s)=true then some (.exit 0,[(0,.str ⟨s.toArray⟩),(3,.int .i64 (s).length),(7,.bool false)]) else some (.ret,[(2,.bool false)]):=by
 refine gJ (f:=ak (ev LI TT) (aq TT) CP) (s) (λi=>[(0,.str ⟨s.toArray⟩),(3,.int .i64 i)]) (iw 32) _ _ (λi b hi hl=>?_) ?_;·have hw:=aU i (by first|omega|(simp at hl;omega));obtain⟨_,rfl⟩:=aJ.1 hi;unfold iw;simp -implicitDefEqProofs [CP,Nw,hl,hw];all_goals (repeat' split)<;>first|rfl|omega|simp_all<;>omega|skip
 ·simp -implicitDefEqProofs [CP,Nw]
def Ke(s:ag)(hb:s.length<=9223372036854775807):ev LI TT 83 [.str ⟨s.toArray⟩]=some (.bool ((fU s)),[.dead]):=by
 rw[au (b:=vH) (rs:=[.t 2]) (n:=1) rfl rfl];unfold fU;have u1:=XW s hb;try simp at u1
 have u2:=Kc s hb;try simp at u2
 by_cases g1:bq (iw 32) s=true;rotate_left;·simp -implicitDefEqProofs [vH,u1,u2,g1]
 by_cases g2:1<=(s.length:Int);rotate_left;·simp -implicitDefEqProofs [vH,u1,u2,g1,eq_false g2]
 by_cases g3:(s.length:Int)<=60;rotate_left;·simp -implicitDefEqProofs [vH,u1,u2,g1,eq_true g2,eq_false g3]
 simp -implicitDefEqProofs [vH,u1,u2,g1,eq_true g2,eq_true g3];all_goals (repeat' split)<;>first|rfl|omega|simp_all<;>omega|skip
def J5(s:ag)(hb:s.length<=9223372036854775807):ev LI TT 94 [.str ⟨s.toArray⟩]=some (.bool ((fU s)),[.dead]):=by
 rw[au (b:=u0) (rs:=[.t 2]) (n:=1) rfl rfl];unfold fU;have e32:(32:UInt8).toNat=32:=rfl;have u1:=Qg s 32 hb;try simp at u1
 have u2:=Qe s hb;try simp at u2
 by_cases g1:1<=(s.length:Int);rotate_left;·simp -implicitDefEqProofs [u0,u1,u2,eq_false g1]
 by_cases g2:(s.length:Int)<=60;rotate_left;·simp -implicitDefEqProofs [u0,u1,u2,eq_true g1,eq_false g2]
 by_cases g3:bq (iw 32) s=true;rotate_left;·simp -implicitDefEqProofs [u0,u1,u2,eq_true g1,eq_true g2,g3]
 simp -implicitDefEqProofs [u0,u1,u2,eq_true g1,eq_true g2,g3];all_goals (repeat' split)<;>first|rfl|omega|simp_all<;>omega|skip
def X9(s:ag)(hb:s.length<=9223372036854775807):aI (ak (ev LI TT) (aq TT) Dh) [(0,.str ⟨s.toArray⟩),(3,.int .i64 0)]=if bq (iw 33) (s)=true then some (.exit 0,[(0,.str ⟨s.toArray⟩),(3,.int .i64 (s).length),(7,.bool false)]) else some (.ret,[(2,.bool false)]):=by
 refine gJ (f:=ak (ev LI TT) (aq TT) Dh) (s) (λi=>[(0,.str ⟨s.toArray⟩),(3,.int .i64 i)]) (iw 33) _ _ (λi b hi hl=>?_) ?_;·have hw:=aU i (by first|omega|(simp at hl;omega));obtain⟨_,rfl⟩:=aJ.1 hi;unfold iw;simp -implicitDefEqProofs [Dh,NZ,hl,hw];all_goals (repeat' split)<;>first|rfl|omega|simp_all<;>omega|skip
 ·simp -implicitDefEqProofs [Dh,NZ]
def Kg(s:ag)(hb:s.length<=9223372036854775807):ev LI TT 79 [.str ⟨s.toArray⟩]=some (.bool ((ij s)),[.dead]):=by
 rw[au (b:=vW) (rs:=[.t 2]) (n:=1) rfl rfl];unfold ij;have u1:=X9 s hb;try simp at u1
 by_cases g1:bq (iw 33) s=true;rotate_left;·simp -implicitDefEqProofs [vW,u1,g1]
 by_cases g2:1<=(s.length:Int);rotate_left;·simp -implicitDefEqProofs [vW,u1,g1,eq_false g2]
 by_cases g3:(s.length:Int)<=60;rotate_left;·simp -implicitDefEqProofs [vW,u1,g1,eq_true g2,eq_false g3]
 obtain⟨b,hb0⟩:∃b,s[0]?=some b:=⟨s[0]'(by omega),by simp⟩;simp -implicitDefEqProofs [vW,u1,g1,eq_true g2,eq_true g3,hb0];all_goals (repeat' split)<;>first|rfl|omega|simp_all<;>omega|skip
def Qn(s:ag)(hb:s.length<=9223372036854775807):ev LI TT 92 [.str ⟨s.toArray⟩]=some (.bool ((ij s)),[.dead]):=by
 rw[au (b:=xO) (rs:=[.t 2]) (n:=1) rfl rfl];unfold ij;have e33:(33:UInt8).toNat=33:=rfl;have u1:=Qg s 33 hb;try simp at u1
 by_cases g1:1<=(s.length:Int);rotate_left;·simp -implicitDefEqProofs [xO,u1,eq_false g1]
 by_cases g2:(s.length:Int)<=60;rotate_left;·simp -implicitDefEqProofs [xO,u1,eq_true g1,eq_false g2]
 obtain⟨b,hb0⟩:∃b,s[0]?=some b:=⟨s[0]'(by omega),by simp⟩;by_cases h47:(b.toNat:Int)=47;all_goals
 simp -implicitDefEqProofs [xO,u1,eq_true g1,eq_true g2,hb0,h47];all_goals (repeat' split)<;>first|rfl|omega|simp_all<;>omega|skip
@[simp] def ani(t:Int):ev LI TT 91 [.int .i64 t]=some (.bool ((decide (0<=t/\t<=1000000))),[.dead]):=by rw[au (b:=Gf) (rs:=[.t 2]) (n:=1) rfl rfl];simp -implicitDefEqProofs [Gf];all_goals (repeat' split)<;>first|rfl|omega|simp_all<;>omega|skip
def Eo(n:Int):ev LI TT 33 [.int .i64 n]=some (.str ⟨(cy n).toArray⟩,[.dead]):=by
 rw[au (b:=Bv) (rs:=[.t 2]) (n:=1) rfl rfl];unfold cy;by_cases hn:0<=n/\n<=1000000;rotate_left
 ·have hf:(decide (0<=n) && decide (n<=1000000))=false:=by simp;omega
  simp -implicitDefEqProofs [Bv,hn,hf]
 obtain⟨k,rfl⟩:∃k:Nat,n=k:=⟨n.toNat,by omega⟩;have u1:=uj k (by omega);try simp at u1
 simp -implicitDefEqProofs [Bv,u1,hn];all_goals (repeat' split)<;>first|rfl|omega|simp_all<;>omega|skip
end M
namespace M
open Go
def XG(s:ag)(hb:s.length<=1073741824):aI (ak (ev LI TT) (aq TT) vr) [(0,.str ⟨s.toArray⟩),(3,.row .own 1 (([]).map eU)),(4,.int .i64 0)]=some (.exit 0,[(0,.str ⟨s.toArray⟩),(3,.row .own 1 ((((s).flatMap (λb=>[nP b]))).map eU)),(4,.int .i64 (s).length),(10,.bool false)]):=by
 refine oO (f:=ak (ev LI TT) (aq TT) vr) (s) (λb=>[nP b]) (λi out=>[(0,.str ⟨s.toArray⟩),(3,.row .own 1 ((out).map eU)),(4,.int .i64 i)]) (λout=>[(0,.str ⟨s.toArray⟩),(3,.row .own 1 ((out).map eU)),(4,.int .i64 (s).length),(10,.bool false)]) (λi b out hi hl hout=>?_) (λout hout=>?_)
 ·have hw:=aU i (by first|omega|(simp at hl;omega));obtain⟨_,rfl⟩:=aJ.1 hi;have hlo:out.length=i:=by rw[hout];exact xj _ _ _ (by omega)
  have hx:=s[i].toNat_lt;unfold nP;by_cases h1:65<=(s[i]).toNat;rotate_left
  ·have h1':¬(65:Int)<=(s[i]).toNat:=by omega
   simp -implicitDefEqProofs [vr,Cy,hl,hw,h1,h1',hlo,bJ];omega
  by_cases h2:(s[i]).toNat<=90;rotate_left
  ·have h1':(65:Int)<=(s[i]).toNat:=by omega
   have gY:¬((s[i]).toNat:Int)<=90:=by omega
   have KZ:90<((s[i]).toNat:Int):=by omega
   simp -implicitDefEqProofs [vr,Cy,hl,hw,h1,h1',h2,gY,KZ,hlo,bJ];omega
  have h1':(65:Int)<=(s[i]).toNat:=by omega
  have gY:((s[i]).toNat:Int)<=90:=by omega
  have h3:=TP s[i] ⟨h1,h2⟩;have h4:IntKind.u8.wrap ((s[i]).toNat+32)=(s[i]).toNat+32:=VZ (by omega) (by omega);simp -implicitDefEqProofs [vr,Cy,hl,hw,h1,h1',h2,gY,hlo,bJ,h3,h4];omega
 ·simp -implicitDefEqProofs [vr,Cy]
def Qw(s:ag)(hb:s.length<=1073741824):ev LI TT 138 [.str ⟨s.toArray⟩]=some (.str ⟨(cK s).toArray⟩,[.dead]):=by
 rw[au (b:=Hl) (rs:=[.t 2]) (n:=1) rfl rfl];have hl:(cK s).length=s.length:=by simp[cK]
 have e:s.flatMap (λb=>[nP b])=cK s:=AD nP s;have u1:=XG s hb;try simp at u1
 simp -implicitDefEqProofs [Hl,u1,e,hl,rowAt,(by omega:s.length<=9223372036854775807)];all_goals (repeat' split)<;>first|rfl|omega|simp_all<;>omega|skip
def ais(s:ag)(i:Nat)(h:i<s.length)(x:UInt8)(hx:x=nP s[i]):(cK (s.take i)++s.drop i).set i x=cK (s.take (i+1))++s.drop (i+1):=by
 subst hx;rw[DM _ _ (by simp[cK];omega),nr h];have:i - (cK (s.take i)).length=0:=by simp[cK];omega
 rw[this,pQ h];simp only[DN,cK,jg,bn,jh,mz,fM,kI]
def U6(s:ag)(i:Nat)(h:i<s.length)(hx:nP s[i]=s[i]):cK (s.take i)++s.drop i=cK (s.take (i+1))++s.drop (i+1):=by rw[pQ h,nr h];simp only[cK,hx,jg,bn,jh,mz,fM,kI]
def aaE(l:ag)(i:Nat)(x:Int)(b:UInt8)(hx:x=(b.toNat:Int)):(l.map eU).modify i (λe=>e.set 0 (X.int .u8 x))=(l.set i b).map eU:=by
 subst hx;apply gy;intro j;rw[tR,cZ,cZ,ru];by_cases h:i=j
 ·subst h;by_cases h2:i<l.length;·simp[h2]
  ·simp[h2,jG (Nat.le_of_not_lt h2)]
 ·simp only[h,dQ];cases l[j]?<;>rfl
def Xf(s:ag)(hb:s.length<=1073741824):aI (ak (ev LI TT) (aq TT) uV) [(3,.row .own 1 ((cK (s.take 0)++s.drop 0).map eU)),(6,.str ⟨s.toArray⟩),(8,.ref 3 []),(9,.int .i64 s.length),(10,.int .i64 0)]=some (.exit 0,[(3,.row .own 1 ((cK s).map eU)),(6,.str ⟨s.toArray⟩),(8,.ref 3 []),(9,.int .i64 s.length),(10,.int .i64 (s).length),(11,.bool false)]):=by
 refine TN (f:=ak (ev LI TT) (aq TT) uV) (s) (λi=>[(3,.row .own 1 ((cK (s.take i)++s.drop i).map eU)),(6,.str ⟨s.toArray⟩),(8,.ref 3 []),(9,.int .i64 s.length),(10,.int .i64 i)]) _ (λi b hi hl=>?_) ?_
 ·have hw:=aU i (by first|omega|(simp at hl;omega));obtain⟨_,rfl⟩:=aJ.1 hi;have hk:(cK (s.take i)++s.drop i).length=s.length:=by simp[cK];omega
  have hx:=s[i].toNat_lt;have hg:(cK (s.take i)++s.drop i)[i]?=some s[i]:=by rw[iM (by simp[cK];omega)];simp[cK,mq (OV hl)]
  have hg':∀h,(cK (s.take i)++s.drop i)[i]'h=s[i]:=λh=>by rw[cz h] at hg;exact iL hg
  generalize hq:cK (s.take i)++s.drop i=q at hk hg hg'⊢;have uK:i<q.length:=by omega
  by_cases h1:65<=(s[i]).toNat;rotate_left
  ·have h1':¬(65:Int)<=(s[i]).toNat:=by omega
   have e:=U6 s i hl (by unfold nP;rw[aF (by omega)]);rw[hq] at e;simp -implicitDefEqProofs [uV,Bt,hl,hw,hg,hg',uK,h1',<-e]
  by_cases h2:(s[i]).toNat<=90;rotate_left
  ·have h1':(65:Int)<=(s[i]).toNat:=by omega
   have KZ:90<((s[i]).toNat:Int):=by omega
   have gY:¬((s[i]).toNat:Int)<=90:=by omega
   have e:=U6 s i hl (by unfold nP;rw[aF (by omega)]);rw[hq] at e;simp -implicitDefEqProofs [uV,Bt,hl,hw,hg,hg',uK,h1',gY,KZ,<-e]
  have h1':(65:Int)<=(s[i]).toNat:=by omega
  have gY:((s[i]).toNat:Int)<=90:=by omega
  have h3:=TP s[i] ⟨h1,h2⟩;have h4:IntKind.u8.wrap ((s[i]).toNat+32)=(s[i]).toNat+32:=VZ (by omega) (by omega);have e:=ais s i hl (s[i]+32) (by unfold nP;rw[ax ⟨h1,h2⟩]);rw[hq] at e;have e2:=aaE q i _ (s[i]+32) (show ((s[i]).toNat:Int)+32=_ by rw[h3];rfl);rw[e] at e2;simp -implicitDefEqProofs [uV,Bt,hl,hw,hg,hg',uK,h1',gY,h4,e2];all_goals (repeat' split)<;>first|rfl|omega|simp_all<;>omega|skip
 ·simp only[wA,O8,lz];simp -implicitDefEqProofs [uV,Bt]
def Zh(s:ag)(hb:s.length<=1073741824):ev LI TT 156 [.str ⟨s.toArray⟩]=some (.str ⟨(cK s).toArray⟩,[.dead]):=by
 rw[au (b:=FN) (rs:=[.t 2]) (n:=1) rfl rfl];have hl:(cK s).length=s.length:=by simp[cK]
 have e0:cK (s.take 0)++s.drop 0=s:=by simp[cK]
 have u1:=Xf s hb;try simp at u1
 simp -implicitDefEqProofs [FN,u1,hl,rowAt,(by omega:s.length<=9223372036854775807)];all_goals (repeat' split)<;>first|rfl|omega|simp_all<;>omega|skip
@[simp] def anm(x:Int)(y:Int):ev LI TT 230 [.int .i64 x,.int .i64 y]=some (.int .i64 ((if x<y then x else y)),[.dead,.dead]):=by rw[au (b:=H9) (rs:=[.t 4]) (n:=2) rfl rfl];simp -implicitDefEqProofs [H9];all_goals (repeat' split)<;>first|rfl|omega|simp_all<;>omega|skip
@[simp] def anl(x:Int)(y:Int):ev LI TT 165 [.int .i64 x,.int .i64 y]=some (.int .i64 ((if y<x then x else y)),[.dead,.dead]):=by rw[au (b:=H8) (rs:=[.t 4]) (n:=2) rfl rfl];simp -implicitDefEqProofs [H8];all_goals (repeat' split)<;>first|rfl|omega|simp_all<;>omega|skip
end M
namespace M
open Go
def XJ(n:Nat)(out:ag)(hn:out.length+n<=9223372036854775807):aI (ak (ev LI TT) (aq TT) Nl) [(0,.int .i64 n),(3,.str ⟨out.toArray⟩)]=some (.exit 0,[(0,.int .i64 0),(3,.str ⟨(qy n out).toArray⟩),(10,.bool false)]):=by
 have hs:∀s,ak (ev LI TT) (aq TT) Nl s=ak (ev LI TT) (aq TT) Hp s:=λ_=>rfl;induction n using Nat.strongRecOn generalizing out with
 |ind n ih=>
  rw[cW,hs];unfold qy;by_cases h:n=0;·subst h;simp -implicitDefEqProofs [Hp]
  ·have hp:0<n:=by omega
   have:=ih (n / 10) (by omega) (UInt8.ofNat (48+n%10)::out) (by rw[cw];omega);have e1:((n:Int)).tmod 10=((n%10:Nat):Int):=by rw[DV (by omega)];omega
   have e4:((n:Int)).tdiv 10=((n / 10:Nat):Int):=by rw[WI (by omega)];omega
   have e2:IntKind.i64.wrap (48+((n%10:Nat):Int))=((48+n%10:Nat):Int):=by rw[bO (by omega) (by omega)];omega
   have e3:IntKind.u8.wrap ((48+n%10:Nat):Int)=((48+n%10:Nat):Int):=Ot (by omega) (by omega);have e5:=VH (48+n%10) (by omega);have e6:IntKind.i64.wrap ((n / 10:Nat):Int)=((n / 10:Nat):Int):=bO (by omega) (by omega);simp only[h,dite_false];rw[<-this];simp -implicitDefEqProofs [Hp,hp,ct,e1,e2,e3,e4,e5,e6,-Int.natCast_emod,-Int.natCast_ediv,-Int.natCast_add,-UInt8.ofNat_add,eX,(by omega:1+out.length<=9223372036854775807)]
def oy(n:Int):ev LI TT 35 [.int .i64 n]=some (.str ⟨(cy n).toArray⟩,[.dead]):=by
 rw[au (b:=yz) (rs:=[.t 2]) (n:=1) rfl rfl];unfold cy;by_cases hn:0<=n/\n<=1000000;rotate_left
 ·have hf:(decide (0<=n) && decide (n<=1000000))=false:=by simp;omega
  simp -implicitDefEqProofs [yz,hn,hf]
 obtain⟨k,rfl⟩:∃k:Nat,n=k:=⟨n.toNat,by omega⟩;by_cases h:k=0;·subst h;simp -implicitDefEqProofs [yz,ER]
 have h1:=XJ k [] (by simp;omega);rw[TR k [] h,lz] at h1;simp -implicitDefEqProofs [yz,hn,h,h1];all_goals (repeat' split)<;>first|rfl|omega|simp_all<;>omega|skip
def mT(n:Int):(cy n).length<=7:=by
 unfold cy;split;·exact oA _ (by omega)
 ·simp
def XH(s:ag)(hb:s.length<=7)(hd:bq gF s=true)(g:Nat)(hinv:g<10^0):aI (ak (ev LI TT) (aq TT) nZ) [(0,.str ⟨s.toArray⟩),(4,.int .i64 (g:Nat)),(5,.int .i64 0)]=some (.exit 0,[(0,.str ⟨s.toArray⟩),(4,.int .i64 ((foldI (λ_ g b=>10*g+b.toNat - 48) 0 (s) g):Nat)),(5,.int .i64 (s).length),(16,.bool false)]):=by
 refine fP (f:=ak (ev LI TT) (aq TT) nZ) (s) (λi (g:Nat)=>[(0,.str ⟨s.toArray⟩),(4,.int .i64 (g:Nat)),(5,.int .i64 i)]) (λ_ g b=>10*g+b.toNat - 48) (λg=>[(0,.str ⟨s.toArray⟩),(4,.int .i64 (g:Nat)),(5,.int .i64 (s).length),(16,.bool false)]) (λi (g:Nat)=>g<10^i) g hinv (λi b g hi hl hinv=>?_) (λi b g hi hinv=>?_) (λg hinv=>?_)
 ·have hw:=aU i (by first|omega|(simp at hl;omega));obtain⟨_,rfl⟩:=aJ.1 hi;have hx:=dY.1 hd s[i] (cq hl);simp only[gF,bp] at hx;have hp:10^i<=10^6:=WH (by omega) (by omega);have h1:¬((s[i]).toNat:Int)<48:=by omega
  have h2:¬57<((s[i]).toNat:Int):=by omega
  have e1:IntKind.i64.wrap (10*(g:Int))=10*g:=bO (by omega) (by omega);have e0:IntKind.i64.wrap ((s[i]).toNat:Int)=(s[i]).toNat:=bO (by omega) (by omega);have e2:IntKind.i64.wrap (10*(g:Int)+(s[i]).toNat)=10*g+(s[i]).toNat:=bO (by omega) (by omega);have e3:IntKind.i64.wrap (10*(g:Int)+(s[i]).toNat - 48)=((10*g+(s[i]).toNat - 48:Nat):Int):=by rw[bO (by omega) (by omega)];omega
  simp -implicitDefEqProofs [nZ,vE,hl,hw,h1,h2,e0,e1,e2,e3]
 ·obtain⟨hl,rfl⟩:=aJ.1 hi;have hx:=dY.1 hd s[i] (cq hl);simp only[gF,bp] at hx;rw[Jj];omega
 ·simp -implicitDefEqProofs [nZ,vE]
def XI(s:ag)(hb:s.length<=7)(hd:¬bq gF s=true):aI (ak (ev LI TT) (aq TT) nZ) [(0,.str ⟨s.toArray⟩),(4,.int .i64 0),(5,.int .i64 0)]=some (.ret,[(2,.int .i64 0),(3,.bool false)]):=by
 have key:=Mn (xt:=0) (f:=ak (ev LI TT) (aq TT) nZ) s (λi (g:Nat)=>[(0,.str ⟨s.toArray⟩),(4,.int .i64 (g:Int)),(5,.int .i64 i)]) (λb g=>if gF b=true then .inl (10*g+b.toNat - 48) else .inr (.ret,[(2,.int .i64 0),(3,.bool false)])) (λg=>[(0,.str ⟨s.toArray⟩),(4,.int .i64 (g:Int)),(5,.int .i64 s.length),(16,.bool false)]) (λi g=>g<10^i) 0 (by decide) (λi b g hi hl hinv=>?_) (λi b g g' hi hinv hg=>?_) (λg hg=>?_)
 ·have hr:∀(r:ag) (g:Nat),¬bq gF r=true->o8 (λ(b:UInt8) (g:Nat)=>if gF b=true then (.inl (10*g+b.toNat - 48):Nat ⊕ (Ex×ah)) else .inr (.ret,[(2,.int .i64 0),(3,.bool false)])) r g=.inr (.ret,[(2,.int .i64 0),(3,.bool false)]):=by
   intro r;induction r with
   |nil=>intro g h;exact absurd rfl h
   |cons b r ih=>
    intro g h;simp only[o8];by_cases hb:gF b=true;·simp only[hb,dh];exact ih _ λh'=>h (by rw[dY] at h'⊢;intro x hx;rcases b9.1 hx with rfl|hx;exact hb;exact h' x hx)
    ·simp[hb]
  rw[hr s 0 hd] at key;simpa [lv] using key
 ·have hw:=aU i (by omega);obtain⟨_,rfl⟩:=aJ.1 hi;by_cases h:gF s[i]=true
  ·have hx:=h;simp only[gF,bp] at hx;have hp:10^i<=10^6:=WH (by omega) (by omega);have h1:¬((s[i]).toNat:Int)<48:=by omega
   have h2:¬57<((s[i]).toNat:Int):=by omega
   have e1:IntKind.i64.wrap (10*(g:Int))=10*g:=bO (by omega) (by omega);have e0:IntKind.i64.wrap ((s[i]).toNat:Int)=(s[i]).toNat:=bO (by omega) (by omega);have e2:IntKind.i64.wrap (10*(g:Int)+(s[i]).toNat)=10*g+(s[i]).toNat:=bO (by omega) (by omega);have e3:IntKind.i64.wrap (10*(g:Int)+(s[i]).toNat - 48)=((10*g+(s[i]).toNat - 48:Nat):Int):=by rw[bO (by omega) (by omega)];omega
   simp -implicitDefEqProofs [nZ,vE,hl,hw,h,h1,h2,e0,e1,e2,e3]
  ·have hx:=h;simp only[gF,bp] at hx;by_cases h1:((s[i]).toNat:Int)<48;·simp -implicitDefEqProofs [nZ,vE,hl,hw,h,h1,lv]
   ·have h2:57<((s[i]).toNat:Int):=by omega
    simp -implicitDefEqProofs [nZ,vE,hl,hw,h,h1,h2,lv]
 ·obtain⟨hl,rfl⟩:=aJ.1 hi;split at hg
  ·rename_i hx;simp only[gF,bp] at hx;injection hg with hg
   rw[Jj];omega
  ·cases hg
 ·simp -implicitDefEqProofs [nZ,vE]
def KO{β γ:Type}(go:γ->β->γ):∀(l:List β) (i:Nat) (g:γ),foldI (λ_ g b=>go g b) i l g=l.foldl go g
 |[],_,_=>rfl
 |b::l,i,g=>by rw[foldI,KO go l,ou]
def wQ(s:ag)(hb:s.length<=9223372036854775807):ev LI TT 190 [.str ⟨s.toArray⟩]=some (.av [.int .i64 ((((bz s).getD 0:Nat):Int)),.bool ((bz s).isSome)],[.dead]):=by
 rw[au (b:=tc) (rs:=[.t 2,.t 3]) (n:=1) rfl rfl];by_cases h7:7<s.length
 ·have AK:7<(s.length:Int):=by omega
  have hn:¬s=[]:=by rintro rfl;simp at h7
  simp -implicitDefEqProofs [tc,T6 s h7,AK,hn]
 have AK:¬7<(s.length:Int):=by omega
 rw[agD s (by omega)];by_cases h0:s=[];·subst h0;simp -implicitDefEqProofs [tc]
 by_cases hd:bq gF s=true;rotate_left;·have u1:=XI s (by omega) hd;simp -implicitDefEqProofs [tc,AK,h0,hd,u1]
 have u1:=XH s (by omega) hd 0 (by decide);rw[show foldI (λ_ (g:Nat) (b:UInt8)=>10*g+b.toNat - 48) 0 s 0=mc s from KO _ s 0 0] at u1;simp only[Int.ofNat_zero] at u1;have u2:=oy (mc s);by_cases ht:cy (mc s)=s;rotate_left;·simp -implicitDefEqProofs [tc,AK,h0,hd,u1,u2,eq_false ht]
 simp -implicitDefEqProofs [tc,AK,h0,hd,u1,u2,eq_true ht];all_goals (repeat' split)<;>first|rfl|omega|simp_all<;>omega|skip
end M
namespace M
open Go
def jT(w:ag):List ag:=if gw w≠[] then [gw w] else []
def Ul(s:ag)(i:Nat)(h:i<(s.map some++[none]).length):(∃hi:i<s.length,(s.map some++[none])[i]=some s[i])\/(i=s.length/\(s.map some++[none])[i]=none):=by
 by_cases hi:i<s.length;·refine .inl ⟨hi,?_⟩;rw[List.getElem_append_left (by simpa using hi)];simp
 ·simp at h;obtain rfl:i=s.length:=by omega
  refine .inr ⟨rfl,?_⟩;rw[List.getElem_append_right (by simp)];simp
def Vc(w:ag):(jT w).length<=1:=by unfold jT;split<;>simp
def Si(c:UInt8)(f:ag->List ag)(hf:∀w,(f w).length<=1)(s:ag)(i:Nat)(g:List ag×Nat)(b:Option UInt8)(h:g.2<=i/\g.1.length<=i):(gb c f s i g b).2<=i+1/\(gb c f s i g b).1.length<=i+1:=by
 unfold gb;have:=hf ((s.take i).drop g.2);split
 ·split;·simp;omega
  ·omega
 ·simp;omega
def XR(s:ag)(hb:s.length<=1073741824)(g:List ag×Nat)(hinv:g.2<=0/\g.1.length<=0):aI (ak (ev LI TT) (aq TT) qQ) [(0,.str ⟨s.toArray⟩),(3,.row .own 1 ((g).1.map eS)),(4,.int .i64 ((g).2:Nat)),(5,.int .i64 0)]=some (.exit 0,[(0,.str ⟨s.toArray⟩),(3,.row .own 1 (((foldI (gb 44 jT s) 0 (s.map some++[none]) g)).1.map eS)),(4,.int .i64 (((foldI (gb 44 jT s) 0 (s.map some++[none]) g)).2:Nat)),(5,.int .i64 (s.map some++[none]).length),(11,.bool false)]):=by
 refine fP (f:=ak (ev LI TT) (aq TT) qQ) (s.map some++[none]) (λi (g:List ag×Nat)=>[(0,.str ⟨s.toArray⟩),(3,.row .own 1 ((g).1.map eS)),(4,.int .i64 ((g).2:Nat)),(5,.int .i64 i)]) (gb 44 jT s) (λg=>[(0,.str ⟨s.toArray⟩),(3,.row .own 1 ((g).1.map eS)),(4,.int .i64 ((g).2:Nat)),(5,.int .i64 (s.map some++[none]).length),(11,.bool false)]) (λi (g:List ag×Nat)=>g.2<=i/\g.1.length<=i) g hinv (λi b g hi hl hinv=>?_) (λi b g hi hinv=>?_) (λg hinv=>?_)
 ·have hw:=aU i (by first|omega|(simp at hl;omega));obtain⟨_,rfl⟩:=aJ.1 hi;have hlz:(g.1.length+1)*16<=140737488355328:=by simp at hl;omega
  have AJ:∀b:UInt8,((b.toNat:Int)=44)↔b=44:=λb=>⟨λh=>tP.1 (by have e:(44:UInt8).toNat=44:=rfl;omega),λh=>by subst h;rfl⟩;rcases Ul s i hl with ⟨hi',e⟩|⟨rfl,e⟩
  ·rw[e];have k1:(i:Int)<=s.length:=by omega
   have k2:i<=s.length:=by omega
   have hc:=Kc ((s.drop g.2).take (i - g.2)) (by simp;omega);by_cases hx:s[i]=44;rotate_left;·have hx':=mt (AJ s[i]).1 hx;simp -implicitDefEqProofs [qQ,vG,k1,k2,hi',hw,gb,hx,hx']
   have hx':=(AJ s[i]).2 hx;have e3:(s.take i).drop g.2=(s.drop g.2).take (i - g.2):=zP ..;by_cases ht:gw ((s.drop g.2).take (i - g.2))=[];·simp -implicitDefEqProofs [qQ,vG,k1,k2,hi',hw,gb,eq_true hx,hx',hinv,hc,Lib.extract_mk,jT,e3,eq_true ht]
   ·simp -implicitDefEqProofs [qQ,vG,k1,k2,hi',hw,gb,eq_true hx,hx',hinv,hc,Lib.extract_mk,jT,e3,eq_false ht,bJ,hlz]
  rw[e];have hc:=Kc ((s.drop g.2).take (s.length - g.2)) (by simp;omega);have e3:(s.take s.length).drop g.2=(s.drop g.2).take (s.length - g.2):=zP ..;by_cases ht:gw ((s.drop g.2).take (s.length - g.2))=[];·simp only[gb,e3,jT,eq_true ht];simp -implicitDefEqProofs [qQ,vG,hw,hinv,hc,Lib.extract_mk,eq_true ht]
  simp only[gb,e3,jT,eq_false ht];simp -implicitDefEqProofs [qQ,vG,hl,hw,hinv,hc,Lib.extract_mk,eq_false ht,bJ,hlz]
 ·exact Si 44 jT Vc s i g b hinv
 ·have Le:¬((s.length:Int)+1<=s.length):=by omega
  simp -implicitDefEqProofs [qQ,vG,Le]
def QC(s:ag)(hb:s.length<=1073741824):ev LI TT 137 [.str ⟨s.toArray⟩]=some (.row .own 1 ((jE s).map eS),[.dead]):=by rw[au (b:=Hu) (rs:=[.t 2]) (n:=1) rfl rfl];have u1:=XR s hb ([],0) ⟨by omega,by simp⟩;rw[R1,show (bA 44 s).flatMap jT=jE s from (VX s).symm] at u1;simp at u1;simp -implicitDefEqProofs [Hu,u1];all_goals (repeat' split)<;>first|rfl|omega|simp_all<;>omega|skip
def Xk(s:ag)(ws:List ag)(hb:∀w∈ws,w.length<=1073741824)(hl0:ws.length<=1073741825):aI (ak (ev LI TT) (aq TT) xK) [(3,.row .own 1 (([]).map eS)),(8,.row .own 1 (ws.map eS)),(9,.int .i64 ws.length),(10,.int .i64 0)]=some (.exit 0,[(3,.row .own 1 ((((ws).flatMap jT)).map eS)),(8,.row .own 1 (ws.map eS)),(9,.int .i64 ws.length),(10,.int .i64 (ws).length),(11,.bool false)]):=by
 refine oO (f:=ak (ev LI TT) (aq TT) xK) (ws) jT (λi out=>[(3,.row .own 1 ((out).map eS)),(8,.row .own 1 (ws.map eS)),(9,.int .i64 ws.length),(10,.int .i64 i)]) (λout=>[(3,.row .own 1 ((out).map eS)),(8,.row .own 1 (ws.map eS)),(9,.int .i64 ws.length),(10,.int .i64 (ws).length),(11,.bool false)]) (λi b out hi hl hout=>?_) (λout hout=>?_)
 ·have hw:=aU i (by first|omega|(simp at hl;omega));obtain⟨_,rfl⟩:=aJ.1 hi;have hlo:out.length<=i:=by rw[hout];exact E6 jT Vc ws i
  have hlz:(out.length+1)*16<=140737488355328:=by omega
  have hc:=Qe ws[i] (by have:=hb _ (cq hl);omega);unfold jT;by_cases ht:gw ws[i]=[];·simp -implicitDefEqProofs [xK,FW,hl,hw,hc,eq_true ht]
  simp -implicitDefEqProofs [xK,FW,hl,hw,hc,eq_false ht,bJ,hlz]
 ·simp -implicitDefEqProofs [xK,FW]
def Zt(s:ag)(hb:s.length<=1073741824):ev LI TT 155 [.str ⟨s.toArray⟩]=some (.row .own 1 ((jE s).map eS),[.dead]):=by
 rw[au (b:=FX) (rs:=[.t 2]) (n:=1) rfl rfl];rw[VX s,show (λw=>if gw w≠[] then [gw w] else [])=jT from rfl];have u1:=uk s 44 (by omega);try simp at u1
 have u2:=Xk s (bA 44 s) (λw hw=>by have:=pK 44 s w hw;omega) (by have:=Ve 44 s;omega);try simp at u2
 simp -implicitDefEqProofs [FX,u1,u2];all_goals (repeat' split)<;>first|rfl|omega|simp_all<;>omega|skip
def Yc(l:List ag)(hl0:l.length<=1073741824)(hb:∀w∈l,w.length<=1073741824):aI (ak (ev LI TT) (aq TT) Dj) [(0,.row .af 1 (l.map eS)),(3,.int .i64 0)]=if bq dX (l)=true then some (.exit 0,[(0,.row .af 1 (l.map eS)),(3,.int .i64 (l).length),(7,.bool false)]) else some (.ret,[(2,.bool false)]):=by
 refine gJ (f:=ak (ev LI TT) (aq TT) Dj) (l) (λi=>[(0,.row .af 1 (l.map eS)),(3,.int .i64 i)]) dX _ _ (λi b hi hl=>?_) ?_
 ·have hw:=aU i (by first|omega|(simp at hl;omega));obtain⟨_,rfl⟩:=aJ.1 hi;have u1:=Kb l[i] (by have:=hb _ (cq hl);omega);try simp at u1
  simp -implicitDefEqProofs [Dj,N0,hl,hw,u1];all_goals (repeat' split)<;>first|rfl|omega|simp_all<;>omega|skip
 ·simp -implicitDefEqProofs [Dj,N0]
def QJ(l:List ag)(hl0:l.length<=1073741824)(hb:∀w∈l,w.length<=1073741824):ev LI TT 80 [.row .af 1 (l.map eS)]=some (.bool ((bq dX l && decide ((l.length:Int)<=4))),[.dead]):=by
 rw[au (b:=Ip) (rs:=[.t 2]) (n:=1) rfl rfl];have u1:=Yc l hl0 hb;try simp at u1
 simp -implicitDefEqProofs [Ip,u1];all_goals (repeat' split)<;>first|rfl|omega|simp_all<;>omega|skip
def Xt(l:List ag)(hl0:l.length<=1073741824)(hb:∀w∈l,w.length<=1073741824):aI (ak (ev LI TT) (aq TT) BN) [(0,.row .af 1 (l.map eS)),(5,.row .af 1 (l.map eS)),(6,.int .i64 l.length),(7,.int .i64 0)]=if bq dX (l)=true then some (.exit 0,[(0,.row .af 1 (l.map eS)),(5,.row .af 1 (l.map eS)),(6,.int .i64 l.length),(7,.int .i64 (l).length),(8,.bool false)]) else some (.ret,[(2,.bool false)]):=by
 refine gJ (f:=ak (ev LI TT) (aq TT) BN) (l) (λi=>[(0,.row .af 1 (l.map eS)),(5,.row .af 1 (l.map eS)),(6,.int .i64 l.length),(7,.int .i64 i)]) dX _ _ (λi b hi hl=>?_) ?_
 ·have hw:=aU i (by first|omega|(simp at hl;omega));obtain⟨_,rfl⟩:=aJ.1 hi;have u1:=J4 l[i] (by have:=hb _ (cq hl);omega);try simp at u1
  simp -implicitDefEqProofs [BN,L1,hl,hw,u1];all_goals (repeat' split)<;>first|rfl|omega|simp_all<;>omega|skip
 ·simp -implicitDefEqProofs [BN,L1]
def ZB(l:List ag)(hl0:l.length<=1073741824)(hb:∀w∈l,w.length<=1073741824):ev LI TT 109 [.row .af 1 (l.map eS)]=some (.bool ((bq dX l && decide ((l.length:Int)<=4))),[.dead]):=by
 rw[au (b:=Gk) (rs:=[.t 2]) (n:=1) rfl rfl];have u1:=Xt l hl0 hb;try simp at u1
 simp -implicitDefEqProofs [Gk,u1];all_goals (repeat' split)<;>first|rfl|omega|simp_all<;>omega|skip
end M
namespace M
open Go
def jd(g:Nat×Nat)(b:UInt8):Nat×Nat:=((g.1+b.toNat)%65521,(g.2+(g.1+b.toNat)%65521)%65521)
def IG(g:Nat×Nat)(b:UInt8):(jd g b).1<65521/\(jd g b).2<65521:=⟨tN _ (by decide),tN _ (by decide)⟩
def Vo(g:Nat×Nat)(b:UInt8)(h:g.1<65521/\g.2<65521):(IntKind.i64.wrap (↑g.1+IntKind.i64.wrap ↑b.toNat)).tmod 65521=↑(jd g b).1/\
  (IntKind.i64.wrap (↑g.2+(IntKind.i64.wrap (↑g.1+IntKind.i64.wrap ↑b.toNat)).tmod 65521)).tmod 65521=↑(jd g b).2:=by
 have hb:=b.toNat_lt;have e1:IntKind.i64.wrap (↑g.1+IntKind.i64.wrap ↑b.toNat)=((g.1+b.toNat:Nat):Int):=by rw[bO (n:=(b.toNat:Int)) (by omega) (by omega),bO (by omega) (by omega)];omega
 have e2:(((g.1+b.toNat:Nat):Int)).tmod 65521=↑(jd g b).1:=by rw[DV (by omega)];unfold jd;omega
 have h1:=(IG g b).1;have e3:IntKind.i64.wrap (↑g.2+(↑(jd g b).1:Int))=((g.2+(jd g b).1:Nat):Int):=by rw[bO (by omega) (by omega)];omega
 rw[e1,e2,e3];refine⟨rfl,?_⟩;rw[DV (by omega)];unfold jd;omega
def jc(s:ag):Nat×Nat:=foldI (λ_ g b=>jd g b) 0 s (1,0)
def KP{γ β:Type}{go:Nat->γ->β->γ}{I:γ->Prop}(h:∀i g b,I g->I (go i g b)):∀(l:List β) (i:Nat) (g:γ),I g->I (foldI go i l g)
 |[],_,_,hg=>hg
 |b::l,i,g,hg=>KP h l (i+1) _ (h i g b hg)
def N3(s:ag):(jc s).1<65521/\(jc s).2<65521:=KP (I:=λg=>g.1<65521/\g.2<65521) (λ_ g b _=>IG g b) s 0 _ (by simp)
def jC(s:ag):Nat:=65521*(jc s).2+(jc s).1
def Ds(s:ag):jC s<10^10:=by have:=N3 s;unfold jC;omega
def XS(s:ag)(hb:s.length<=9223372036854775807)(g:Nat×Nat)(hinv:g.1<65521/\g.2<65521):aI (ak (ev LI TT) (aq TT) CL) [(0,.str ⟨s.toArray⟩),(3,.int .i64 (g).1),(4,.int .i64 (g).2),(5,.int .i64 0)]=some (.exit 0,[(0,.str ⟨s.toArray⟩),(3,.int .i64 ((foldI (λ_ g b=>jd g b) 0 (s) g)).1),(4,.int .i64 ((foldI (λ_ g b=>jd g b) 0 (s) g)).2),(5,.int .i64 (s).length),(9,.bool false)]):=by
 refine fP (f:=ak (ev LI TT) (aq TT) CL) (s) (λi (g:Nat×Nat)=>[(0,.str ⟨s.toArray⟩),(3,.int .i64 (g).1),(4,.int .i64 (g).2),(5,.int .i64 i)]) (λ_ g b=>jd g b) (λg=>[(0,.str ⟨s.toArray⟩),(3,.int .i64 (g).1),(4,.int .i64 (g).2),(5,.int .i64 (s).length),(9,.bool false)]) (λi (g:Nat×Nat)=>g.1<65521/\g.2<65521) g hinv (λi b g hi hl hinv=>?_) (λi b g hi hinv=>?_) (λg hinv=>?_);·have hw:=aU i (by first|omega|(simp at hl;omega));obtain⟨_,rfl⟩:=aJ.1 hi;skip;simp -implicitDefEqProofs [CL,Ns,hl,hw];exact Vo g s[i] hinv
 ·exact IG _ _
 ·simp -implicitDefEqProofs [CL,Ns]
def ZQ(s:ag)(hb:s.length<=9223372036854775807):ev LI TT 76 [.str ⟨s.toArray⟩]=some (.int .i64 (jC s),[.dead]):=by rw[au (b:=Hv) (rs:=[.t 2]) (n:=1) rfl rfl];have h:=XS s hb (1,0) (by simp);have h2:=N3 s;have e1:IntKind.i64.wrap (65521*((jc s).2:Int))=65521*(jc s).2:=bO (by omega) (by omega);have e2:IntKind.i64.wrap (65521*((jc s).2:Int)+(jc s).1)=65521*(jc s).2+(jc s).1:=bO (by omega) (by omega);rw[show foldI (λ_ g b=>jd g b) 0 s (1,0)=jc s from rfl] at h;simp at h;simp -implicitDefEqProofs [Hv,h,e1,e2,jC];all_goals (repeat' split)<;>first|rfl|omega|simp_all<;>omega|skip
def Xl(s:ag)(hb:s.length<=9223372036854775807)(g:Nat×Nat)(hinv:g.1<65521/\g.2<65521):aI (ak (ev LI TT) (aq TT) BH) [(0,.str ⟨s.toArray⟩),(3,.int .i64 (g).1),(4,.int .i64 (g).2),(5,.int .i64 0)]=some (.exit 0,[(0,.str ⟨s.toArray⟩),(3,.int .i64 ((foldI (λ_ g b=>jd g b) 0 (s) g)).1),(4,.int .i64 ((foldI (λ_ g b=>jd g b) 0 (s) g)).2),(5,.int .i64 (s).length),(9,.bool false)]):=by
 refine fP (f:=ak (ev LI TT) (aq TT) BH) (s) (λi (g:Nat×Nat)=>[(0,.str ⟨s.toArray⟩),(3,.int .i64 (g).1),(4,.int .i64 (g).2),(5,.int .i64 i)]) (λ_ g b=>jd g b) (λg=>[(0,.str ⟨s.toArray⟩),(3,.int .i64 (g).1),(4,.int .i64 (g).2),(5,.int .i64 (s).length),(9,.bool false)]) (λi (g:Nat×Nat)=>g.1<65521/\g.2<65521) g hinv (λi b g hi hl hinv=>?_) (λi b g hi hinv=>?_) (λg hinv=>?_);·have hw:=aU i (by first|omega|(simp at hl;omega));obtain⟨_,rfl⟩:=aJ.1 hi;skip;simp -implicitDefEqProofs [BH,LW,hl,hw];exact Vo g s[i] hinv
 ·exact IG _ _
 ·simp -implicitDefEqProofs [BH,LW]
def Zu(s:ag)(hb:s.length<=9223372036854775807):ev LI TT 131 [.str ⟨s.toArray⟩]=some (.int .i64 (jC s),[.dead]):=by rw[au (b:=FY) (rs:=[.t 2]) (n:=1) rfl rfl];have h:=Xl s hb (1,0) (by simp);have h2:=N3 s;have e1:IntKind.i64.wrap (65521*((jc s).2:Int))=65521*(jc s).2:=bO (by omega) (by omega);have e2:IntKind.i64.wrap (65521*((jc s).2:Int)+(jc s).1)=65521*(jc s).2+(jc s).1:=bO (by omega) (by omega);rw[show foldI (λ_ g b=>jd g b) 0 s (1,0)=jc s from rfl] at h;simp at h;simp -implicitDefEqProofs [FY,h,e1,e2,jC];all_goals (repeat' split)<;>first|rfl|omega|simp_all<;>omega|skip
def W8(n:Nat)(out:ag)(hn:out.length+n<=9223372036854775807):aI (ak (ev LI TT) (aq TT) NG) [(0,.int .i64 n),(3,.str ⟨out.toArray⟩)]=some (.exit 0,[(0,.int .i64 0),(3,.str ⟨(qy n out).toArray⟩),(7,.bool false)]):=by
 have hs:∀s,ak (ev LI TT) (aq TT) NG s=ak (ev LI TT) (aq TT) HJ s:=λ_=>rfl;induction n using Nat.strongRecOn generalizing out with
 |ind n ih=>
  rw[cW,hs];unfold qy;by_cases h:n=0;·subst h;simp -implicitDefEqProofs [HJ]
  ·have hp:0<n:=by omega
   have:=ih (n / 10) (by omega) (UInt8.ofNat (48+n%10)::out) (by rw[cw];omega);have e1:((n:Int)).tmod 10=((n%10:Nat):Int):=by rw[DV (by omega)];omega
   have e4:((n:Int)).tdiv 10=((n / 10:Nat):Int):=by rw[WI (by omega)];omega
   have e2:IntKind.i64.wrap (48+((n%10:Nat):Int))=((48+n%10:Nat):Int):=by rw[bO (by omega) (by omega)];omega
   have e3:IntKind.u8.wrap ((48+n%10:Nat):Int)=((48+n%10:Nat):Int):=Ot (by omega) (by omega);have e5:=VH (48+n%10) (by omega);have e6:IntKind.i64.wrap ((n / 10:Nat):Int)=((n / 10:Nat):Int):=bO (by omega) (by omega);simp only[h,dite_false];rw[<-this];simp -implicitDefEqProofs [HJ,hp,ct,e1,e2,e3,e4,e5,e6,-Int.natCast_emod,-Int.natCast_ediv,-Int.natCast_add,-UInt8.ofNat_add,eX,(by omega:1+out.length<=9223372036854775807)]
def Kf(n:Nat)(hk:n<=9223372036854775800):ev LI TT 75 [.int .i64 (n:Int)]=some (.str ⟨(aL n).toArray⟩,[.dead]):=by
 rw[au (b:=CW) (rs:=[.t 2]) (n:=1) rfl rfl];by_cases h:n=0;·subst h;simp -implicitDefEqProofs [CW,ER]
 have h1:=W8 n [] (by simp;omega);rw[TR n [] h,lz] at h1;simp -implicitDefEqProofs [CW,h,h1];all_goals (repeat' split)<;>first|rfl|omega|simp_all<;>omega|skip
def qJ(n:Nat)(b:ag):ag:=aL (jC (aL n++32::(aL b.length++10::b)))++32::(aL n++32::(aL b.length++10::b))
def cM(n:Int)(b:ag):ag:=if 1<=n/\n<=100000/\b.length<=2000 then qJ n.toNat b else []
def J8(n:Int)(b:ag)(hb:b.length<=9223372036854775807):ev LI TT 24 [.int .i64 n,.str ⟨b.toArray⟩]=some (.str ⟨(cM n b).toArray⟩,[.dead,.dead]):=by
 rw[au (b:=yB) (rs:=[.t 4]) (n:=2) rfl rfl];by_cases h1:¬(1<=n/\n<=100000)
 ·have h1':¬(1<=n/\n<=100000/\b.length<=2000):=by omega
  simp -implicitDefEqProofs [yB,h1,cM,h1']
 by_cases h2:2000<b.length
 ·have h1':¬(1<=n/\n<=100000/\b.length<=2000):=by omega
  have gY:(2000:Int)<b.length:=by omega
  simp -implicitDefEqProofs [yB,h1,cM,h1',h2,gY]
 obtain⟨m,rfl⟩:∃m:Nat,n=m:=⟨n.toNat,by omega⟩;have l1:=p8 5 m (by omega);have l2:=p8 5 b.length (by omega);have l3:=p8 17 (jC (aL m++32::(aL b.length++10::b))) (OW (Ds _) (by decide));have k1:=Kf m (by omega);have k2:=Kf b.length (by omega);have k4:=Kf (jC (aL m++32::(aL b.length++10::b))) (by have:=Ds (aL m++32::(aL b.length++10::b));omega);have k3:=ZQ (aL m++32::(aL b.length++10::b)) (by simp;omega);have gY:¬(2000<(b.length:Int)):=by omega
 have h3:1<=m/\m<=100000:=by omega
 have h4:b.length<=2000:=by omega
 simp -implicitDefEqProofs [yB,gY,h3,h4,k1,k2,k3,k4,eX,cM,qJ];repeat rw[ax (by omega)]
def J2(n:Int)(b:ag)(hb:b.length<=9223372036854775807):ev LI TT 67 [.int .i64 n,.str ⟨b.toArray⟩]=some (.str ⟨(cM n b).toArray⟩,[.dead,.dead]):=by
 rw[au (b:=xG) (rs:=[.t 4]) (n:=2) rfl rfl];by_cases h1:¬(1<=n/\n<=100000)
 ·have h1':¬(1<=n/\n<=100000/\b.length<=2000):=by omega
  simp -implicitDefEqProofs [xG,h1,cM,h1']
 by_cases h2:2000<b.length
 ·have h1':¬(1<=n/\n<=100000/\b.length<=2000):=by omega
  have gY:(2000:Int)<b.length:=by omega
  simp -implicitDefEqProofs [xG,h1,cM,h1',h2,gY]
 obtain⟨m,rfl⟩:∃m:Nat,n=m:=⟨n.toNat,by omega⟩;have l1:=p8 5 m (by omega);have l2:=p8 5 b.length (by omega);have l3:=p8 17 (jC (aL m++32::(aL b.length++10::b))) (OW (Ds _) (by decide));have k1:=uj m (by omega);have k2:=uj b.length (by omega);have k4:=uj (jC (aL m++32::(aL b.length++10::b))) (by have:=Ds (aL m++32::(aL b.length++10::b));omega);have k3:=Zu (aL m++32::(aL b.length++10::b)) (by simp;omega);have gY:¬(2000<(b.length:Int)):=by omega
 have h3:1<=m/\m<=100000:=by omega
 have h4:b.length<=2000:=by omega
 simp -implicitDefEqProofs [xG,gY,h3,h4,k1,k2,k3,k4,eX,cM,qJ];repeat rw[ax (by omega)]
end M
namespace M
open Go
def X5(fs:List aK)(n:ag)(hb:fs.length<=9223372036854775807):aI (ak (ev LI TT) (aq TT) C9) [(0,.row .af 2 (fs.map aS)),(1,.str ⟨n.toArray⟩),(5,.int .i64 0)]=(cL (λf=>decide (f.name=n)) 0 (fs)).elim (some (.exit 0,[(0,.row .af 2 (fs.map aS)),(1,.str ⟨n.toArray⟩),(5,.int .i64 (fs).length),(9,.bool false)])) λx=>some (.ret,(λ(i:Nat) b=>[(4,.int .i64 i)]) x.1 x.2):=by
 refine vg (f:=ak (ev LI TT) (aq TT) C9) (fs) (λi=>[(0,.row .af 2 (fs.map aS)),(1,.str ⟨n.toArray⟩),(5,.int .i64 i)]) (λf=>decide (f.name=n)) (λ(i:Nat) b=>[(4,.int .i64 i)]) _ (λi b hi hl=>?_) ?_;·have hw:=aU i (by first|omega|(simp at hl;omega));obtain⟨_,rfl⟩:=aJ.1 hi;simp -implicitDefEqProofs [C9,NW,hl,hw]
 ·simp -implicitDefEqProofs [C9,NW]
def wR(fs:List aK)(n:ag)(hb:fs.length<=9223372036854775807):ev LI TT 169 [.row .af 2 (fs.map aS),.str ⟨n.toArray⟩]=some (.int .i64 (fY (fo fs n)),[.dead,.dead]):=by
 rw[au (b:=Da) (rs:=[.t 4]) (n:=2) rfl rfl];have h:=X5 fs n hb;rw[show cL (λf=>decide (f.name=n)) 0 fs=fo fs n from rfl] at h;simp at h;cases g:fo fs n with
 |none=>rw[g] at h;simp at h;simp -implicitDefEqProofs [Da,h,fY]
 |some x=>
 rw[g] at h;simp at h;simp -implicitDefEqProofs [Da,h,fY];all_goals (repeat' split)<;>first|rfl|omega|simp_all<;>omega|skip
def Et(fs:List aK)(n:ag)(hb:fs.length<=9223372036854775807):ev LI TT 136 [.row .af 2 (fs.map aS),.str ⟨n.toArray⟩]=some (.av [.str ⟨((dW fs n).getD []).toArray⟩,.bool (dW fs n).isSome],[.dead,.dead]):=by
 rw[au (b:=Cw) (rs:=[.t 4,.t 5]) (n:=2) rfl rfl];have h:=wR fs n hb;unfold dW;cases g:fo fs n with
 |none=>rw[g] at h;simp[fY] at h;simp -implicitDefEqProofs [Cw,h]
 |some x=>
 obtain⟨i,b⟩:=x;rw[g] at h;obtain⟨h1,h2,h3⟩:=qa g;simp at h2;simp[fY] at h;have hi:i<fs.length:=(aJ.1 h2).1;obtain⟨_,rfl⟩:=aJ.1 h2;simp -implicitDefEqProofs [Cw,h,hi];all_goals (repeat' split)<;>first|rfl|omega|simp_all<;>omega|skip
def Zx(f:aK)(n:ag):ev LI TT 158 [.agg (aS f),.ptr .af [.str ⟨n.toArray⟩]]=some (.bool (decide (f.name=n)),[.dead,.dead]):=by rw[au (b:=Ga) (rs:=[.t 3]) (n:=2) rfl rfl];simp -implicitDefEqProofs [Ga];all_goals (repeat' split)<;>first|rfl|omega|simp_all<;>omega|skip
def Ye(fs:List aK)(n:ag)(hb:fs.length<=9223372036854775807):aI (ak (ev LI TT) (aq TT) DF) [(0,.row .af 2 (fs.map aS)),(1,.fn 158 [.ptr .af [.str ⟨n.toArray⟩]]),(7,.int .i64 fs.length),(8,.int .i64 0)]=(cL (λf=>decide (f.name=n)) 0 (fs)).elim (some (.exit 0,[(0,.row .af 2 (fs.map aS)),(1,.fn 158 [.ptr .af [.str ⟨n.toArray⟩]]),(7,.int .i64 fs.length),(8,.int .i64 (fs).length),(9,.bool false)])) λx=>some (.ret,(λ(i:Nat) b=>[(4,.int .i64 i)]) x.1 x.2):=by
 refine vg (f:=ak (ev LI TT) (aq TT) DF) (fs) (λi=>[(0,.row .af 2 (fs.map aS)),(1,.fn 158 [.ptr .af [.str ⟨n.toArray⟩]]),(7,.int .i64 fs.length),(8,.int .i64 i)]) (λf=>decide (f.name=n)) (λ(i:Nat) b=>[(4,.int .i64 i)]) _ (λi b hi hl=>?_) ?_;·have hw:=aU i (by first|omega|(simp at hl;omega));obtain⟨_,rfl⟩:=aJ.1 hi;have ho:aq TT 158=true:=rfl;have hf:=Zx fs[i] n;simp at hf;simp -implicitDefEqProofs [DF,Ow,hl,hw,ho,mN,hf]
 ·simp -implicitDefEqProofs [DF,Ow]
def Z5(fs:List aK)(n:ag)(hb:fs.length<=9223372036854775807):ev LI TT 157 [.row .af 2 (fs.map aS),.fn 158 [.ptr .af [.str ⟨n.toArray⟩]]]=some (.int .i64 (fY (fo fs n)),[.dead,.dead]):=by
 rw[au (b:=DH) (rs:=[.t 4]) (n:=2) rfl rfl];have h:=Ye fs n hb;rw[show cL (λf=>decide (f.name=n)) 0 fs=fo fs n from rfl] at h;simp at h;cases g:fo fs n with
 |none=>rw[g] at h;simp at h;simp -implicitDefEqProofs [DH,h,fY]
 |some x=>
 rw[g] at h;simp at h;simp -implicitDefEqProofs [DH,h,fY];all_goals (repeat' split)<;>first|rfl|omega|simp_all<;>omega|skip
def Ql(fs:List aK)(n:ag)(hb:fs.length<=9223372036854775807):ev LI TT 114 [.row .af 2 (fs.map aS),.str ⟨n.toArray⟩]=some (.int .i64 (fY (fo fs n)),[.dead,.dead]):=by rw[au (b:=Gb) (rs:=[.t 4]) (n:=2) rfl rfl];have h:=Z5 fs n hb;simp -implicitDefEqProofs [Gb,h,jz,gj];all_goals (repeat' split)<;>first|rfl|omega|simp_all<;>omega|skip
def P7(fs:List aK)(n:ag)(hb:fs.length<=9223372036854775807):ev LI TT 54 [.row .af 2 (fs.map aS),.str ⟨n.toArray⟩]=some (.av [.str ⟨((dW fs n).getD []).toArray⟩,.bool (dW fs n).isSome],[.dead,.dead]):=by
 rw[au (b:=Bp) (rs:=[.t 4,.t 5]) (n:=2) rfl rfl];have h:=Ql fs n hb;unfold dW;cases g:fo fs n with
 |none=>rw[g] at h;simp[fY] at h;simp -implicitDefEqProofs [Bp,h]
 |some x=>
 obtain⟨i,b⟩:=x;rw[g] at h;obtain⟨h1,h2,h3⟩:=qa g;simp at h2;simp[fY] at h;have hi:i<fs.length:=(aJ.1 h2).1;obtain⟨_,rfl⟩:=aJ.1 h2;simp -implicitDefEqProofs [Bp,h,hi];all_goals (repeat' split)<;>first|rfl|omega|simp_all<;>omega|skip
end M
namespace M
open Go
def B9:(⟨#[99,111,110,116,101,110,116,45,108,101,110,103,116,104]⟩:ByteArray)=⟨dK.toArray⟩:=rfl
def XC(fs:List aK)(hb:wL aP fs<=1073741824):aI (ak (ev LI TT) (aq TT) qM) [(0,.row .af 2 (fs.map aS)),(3,.int .i64 0)]=if bq (jJ fs) (fs.zipIdx)=true then some (.exit 0,[(0,.row .af 2 (fs.map aS)),(3,.int .i64 (fs.zipIdx).length),(7,.bool false)]) else some (.ret,[(2,.bool false)]):=by
 refine gJ (f:=ak (ev LI TT) (aq TT) qM) (fs.zipIdx) (λi=>[(0,.row .af 2 (fs.map aS)),(3,.int .i64 i)]) (jJ fs) _ _ (λi b hi hl=>?_) ?_
 ·have hw:=aU i (by have:=bh (w:=aP) fs;simp at hl;omega);obtain⟨_,rfl⟩:=aJ.1 hi;simp only[Je] at hl;have hz:fs.zipIdx[i]'(by simpa using hl)=(fs[i],i):=by simp
  have hm:=I0 (cq hl);have hfl:=bh (w:=aP) fs;rw[hz];have u1:=Kb fs[i].name (by omega);try simp at u1
  have u2:=Ke fs[i].value (by omega);try simp at u2
  have u3:=wR fs fs[i].name (by omega);try simp at u3
  by_cases g1:dX fs[i].name=true;rotate_left;·simp -implicitDefEqProofs [qM,vq,hl,hw,u1,u2,u3,jJ,g1]
  by_cases g2:fU fs[i].value=true;rotate_left;·simp -implicitDefEqProofs [qM,vq,hl,hw,u1,u2,u3,jJ,g1,g2]
  by_cases g3:fY (fo fs fs[i].name)=i;rotate_left;·simp -implicitDefEqProofs [qM,vq,hl,hw,u1,u2,u3,jJ,g1,g2,eq_false g3]
  by_cases hcl:fs[i].name=dK;·simp -implicitDefEqProofs [qM,vq,hl,hw,u1,u2,u3,g1,g2,eq_true g3,jJ,B9,eq_true hcl]
  simp -implicitDefEqProofs [qM,vq,hl,hw,u1,u2,u3,jJ,g1,g2,eq_true g3,B9,eq_false hcl];all_goals (repeat' split)<;>first|rfl|omega|simp_all<;>omega|skip
 ·simp -implicitDefEqProofs [qM,vq]
def Qu(fs:List aK)(hb:wL aP fs<=1073741824):ev LI TT 135 [.row .af 2 (fs.map aS)]=some (.bool ((j9 fs)),[.dead]):=by
 rw[au (b:=Hf) (rs:=[.t 2]) (n:=1) rfl rfl];unfold j9;have hfl:=bh (w:=aP) fs;have u1:=XC fs hb;try simp at u1
 simp -implicitDefEqProofs [Hf,u1];all_goals (repeat' split)<;>first|rfl|omega|simp_all<;>omega|skip
def Xd(fs:List aK)(hb:wL aP fs<=1073741824):aI (ak (ev LI TT) (aq TT) qq) [(0,.row .af 2 (fs.map aS)),(5,.row .af 2 (fs.map aS)),(6,.int .i64 fs.length),(7,.int .i64 0)]=if bq (jJ fs) (fs.zipIdx)=true then some (.exit 0,[(0,.row .af 2 (fs.map aS)),(5,.row .af 2 (fs.map aS)),(6,.int .i64 fs.length),(7,.int .i64 (fs.zipIdx).length),(8,.bool false)]) else some (.ret,[(2,.bool false)]):=by
 refine gJ (f:=ak (ev LI TT) (aq TT) qq) (fs.zipIdx) (λi=>[(0,.row .af 2 (fs.map aS)),(5,.row .af 2 (fs.map aS)),(6,.int .i64 fs.length),(7,.int .i64 i)]) (jJ fs) _ _ (λi b hi hl=>?_) ?_
 ·have hw:=aU i (by have:=bh (w:=aP) fs;simp at hl;omega);obtain⟨_,rfl⟩:=aJ.1 hi;simp only[Je] at hl;have hz:fs.zipIdx[i]'(by simpa using hl)=(fs[i],i):=by simp
  have hm:=I0 (cq hl);have hfl:=bh (w:=aP) fs;rw[hz];have u1:=J4 fs[i].name (by omega);try simp at u1
  have u2:=J5 fs[i].value (by omega);try simp at u2
  have u3:=Ql fs fs[i].name (by omega);try simp at u3
  by_cases g1:dX fs[i].name=true;rotate_left;·simp -implicitDefEqProofs [qq,uU,hl,hw,u1,u2,u3,jJ,g1]
  by_cases g2:fU fs[i].value=true;rotate_left;·simp -implicitDefEqProofs [qq,uU,hl,hw,u1,u2,u3,jJ,g1,g2]
  by_cases hcl:fs[i].name=dK;·simp -implicitDefEqProofs [qq,uU,hl,hw,u1,u2,u3,g1,g2,jJ,B9,eq_true hcl]
  by_cases g3:fY (fo fs fs[i].name)=i;rotate_left;·simp -implicitDefEqProofs [qq,uU,hl,hw,u1,u2,u3,g1,g2,jJ,B9,eq_false hcl,eq_false g3]
  simp -implicitDefEqProofs [qq,uU,hl,hw,u1,u2,u3,jJ,g1,g2,B9,eq_false hcl,eq_true g3];all_goals (repeat' split)<;>first|rfl|omega|simp_all<;>omega|skip
 ·simp -implicitDefEqProofs [qq,uU]
def Zd(fs:List aK)(hb:wL aP fs<=1073741824):ev LI TT 154 [.row .af 2 (fs.map aS)]=some (.bool ((j9 fs)),[.dead]):=by
 rw[au (b:=FL) (rs:=[.t 2]) (n:=1) rfl rfl];unfold j9;have hfl:=bh (w:=aP) fs;have u1:=Xd fs hb;try simp at u1
 simp -implicitDefEqProofs [FL,u1];all_goals (repeat' split)<;>first|rfl|omega|simp_all<;>omega|skip
def aaO(fs:List aK)(i:Nat)(h:i<fs.length)(v:ag):(fs.map aS).modify i (λe=>e.set 1 (X.str ⟨v.toArray⟩))=(fs.set i ⟨fs[i].name,v⟩).map aS:=by
 apply gy;intro j;rw[tR,cZ,cZ,ru];by_cases hij:i=j;·subst hij;simp[h]
 ·simp only[hij,dQ];cases fs[j]?<;>rfl
def RT(fs:List aK):eC (fs.map aS)=true:=by induction fs<;>simp_all[eC,scalar]
def Qy(fs:List aK)(n:ag)(v:ag)(hb:fs.length<=1073741824):ev LI TT 125 [.row .af 2 (fs.map aS),.str ⟨n.toArray⟩,.str ⟨v.toArray⟩]=some (.row .own 2 ((sZ fs n v).map aS),[.dead,.dead,.dead]):=by
 rw[au (b:=CH) (rs:=[.t 6]) (n:=3) rfl rfl];unfold sZ;have hk:fs.length*32<=140737488355328:=by omega
 have hk2:(fs.length+1)*32<=140737488355328:=by omega
 have hsc:=RT fs;have u1:=wR fs n (by omega);try simp at u1
 cases g:fo fs n with
 |none=>rw[g] at u1;simp[fY] at u1;simp -implicitDefEqProofs [CH,u1,rowAt,hk,hk2,hsc,bJ]
 |some x=>
 obtain⟨i,f⟩:=x;obtain⟨hi,rfl,_⟩:=JN g;rw[g] at u1;simp[fY] at u1;simp -implicitDefEqProofs [CH,u1,hk,hk2,hsc,hi,rowAt,aaO fs i hi v,-List.map_set];all_goals (repeat' split)<;>first|rfl|omega|simp_all<;>omega|skip
def J9(r:bU)(hb:bH r<=1073741824):ev LI TT 78 [.agg (ga .af r)]=some (.bool ((fy r)),[.dead]):=by
 rw[au (b:=vF) (rs:=[.t 2]) (n:=1) rfl rfl];have hw:bH r=wL aP r.fields+r.body.length:=rfl;unfold fy;have u1:=Qu r.fields (by omega);try simp at u1
 by_cases g1:100<=r.status;rotate_left;·simp -implicitDefEqProofs [vF,u1,eq_false g1]
 by_cases g2:r.status<=599;rotate_left;·simp -implicitDefEqProofs [vF,u1,eq_true g1,eq_false g2]
 by_cases g3:j9 r.fields=true;rotate_left;·simp -implicitDefEqProofs [vF,u1,eq_true g1,eq_true g2,g3]
 simp -implicitDefEqProofs [vF,u1,eq_true g1,eq_true g2,g3];all_goals (repeat' split)<;>first|rfl|omega|simp_all<;>omega|skip
def P9(r:bU)(hb:bH r<=1073741824):ev LI TT 110 [.agg (ga .af r)]=some (.bool ((fy r)),[.dead]):=by
 rw[au (b:=uW) (rs:=[.t 2]) (n:=1) rfl rfl];have hw:bH r=wL aP r.fields+r.body.length:=rfl;unfold fy;have u1:=Zd r.fields (by omega);try simp at u1
 by_cases g1:100<=r.status;rotate_left;·simp -implicitDefEqProofs [uW,u1,eq_false g1]
 by_cases g2:r.status<=599;rotate_left;·simp -implicitDefEqProofs [uW,u1,eq_true g1,eq_false g2]
 by_cases g3:(r.body.length:Int)<=120;rotate_left;·simp -implicitDefEqProofs [uW,u1,eq_true g1,eq_true g2,eq_false g3]
 simp -implicitDefEqProofs [uW,u1,eq_true g1,eq_true g2,eq_true g3];all_goals (repeat' split)<;>first|rfl|omega|simp_all<;>omega|skip
def ZZ(fs:List aK)(hb:fs.length<=1073741824):ev LI TT 140 [.row .af 2 (fs.map aS)]=some (.row .own 2 (fs.map aS),[.dead]):=by rw[au (b:=Io) (rs:=[.t 2]) (n:=1) rfl rfl];simp -implicitDefEqProofs [Io,RT fs,rowAt,(by omega:fs.length*32<=140737488355328)];all_goals (repeat' split)<;>first|rfl|omega|simp_all<;>omega|skip
def QK(r:bU)(hb:r.fields.length<=1073741824):ev LI TT 86 [.agg (ga .af r)]=some (.agg (ga .own r),[.dead]):=by
 rw[au (b:=Iq) (rs:=[.c 2 3 true 34]) (n:=1) rfl rfl];have u1:=ZZ r.fields hb;try simp at u1
 simp -implicitDefEqProofs [Iq,u1];all_goals (repeat' split)<;>first|rfl|omega|simp_all<;>omega|skip
def Zw(r:bU)(hb:r.fields.length<=1073741824):ev LI TT 133 [.agg (ga .af r)]=some (.agg (ga .own r),[.dead]):=by
 rw[au (b:=F8) (rs:=[.c 2 3 true 34]) (n:=1) rfl rfl];have u1:=afB r.fields hb;try simp at u1
 simp -implicitDefEqProofs [F8,u1];all_goals (repeat' split)<;>first|rfl|omega|simp_all<;>omega|skip
end M
namespace M
open Go
def I2(s:ag):(jE s).length<=s.length+1:=by unfold jE;have h1:=Po (λw:ag=>decide (w≠[])) ((bA 44 s).map gw);have h2:=Ve 44 s;simp only[cV] at h1;omega
def DA(s:ag):∀w∈jE s,w.length<=s.length:=by intro w hw;unfold jE at hw;obtain⟨x,hx,rfl⟩:=bw.1 (List.mem_filter.1 hw).1;have h1:=pK 44 s x hx;have h2:=VC x;omega
def XY(ws:List ag)(hl0:ws.length<=1073741825)(hb:∀w∈ws,w.length<=1073741824):aI (ak (ev LI TT) (aq TT) CR) [(5,.row .own 1 ((jR cK ws 0).map eS)),(6,.int .i64 0)]=some (.exit 0,[(5,.row .own 1 ((jR cK ws (ws).length).map eS)),(6,.int .i64 (ws).length),(17,.bool false)]):=by
 refine TN (f:=ak (ev LI TT) (aq TT) CR) (ws) (λi=>[(5,.row .own 1 ((jR cK ws i).map eS)),(6,.int .i64 i)]) _ (λi b hi hl=>?_) ?_
 ·have hw:=aU i (by first|omega|(simp at hl;omega));obtain⟨_,rfl⟩:=aJ.1 hi;have h1:=af5 cK ws i hl;have h2:=af6 cK ws i hl;have u1:=Qw ws[i] (hb _ (cq hl));try simp at u1
  simp -implicitDefEqProofs [CR,Ny,hl,hw,u1,h1,h2,rowAt,-List.map_set]
 ·simp -implicitDefEqProofs [CR,Ny,rowAt]
def Ev(fs:List aK)(hb:wL aP fs<=1073741824):ev LI TT 82 [.row .af 2 (fs.map aS)]=some (.row .own 1 ((dB fs).map eS),[.dead]):=by
 rw[au (b:=Hz) (rs:=[.t 2]) (n:=1) rfl rfl];have hfl:=bh (w:=aP) fs;have hg:=uE fs ju;have u1:=Et fs ju (by omega);try simp at u1
 have u2:=QC ((dW fs ju).getD []) (by omega);try simp at u2
 have u3:=XY (jE ((dW fs ju).getD [])) (by have:=I2 ((dW fs ju).getD []);omega) (λw hw=>by have:=DA _ w hw;omega);try simp at u3
 rw[af7,af3,show (jE ((dW fs ju).getD [])).map cK=dB fs from rfl] at u3;simp -implicitDefEqProofs [Hz,u1,u2,u3];all_goals (repeat' split)<;>first|rfl|omega|simp_all<;>omega|skip
def Xn(ws:List ag)(hl0:ws.length<=1073741825)(hb:∀w∈ws,w.length<=1073741824):aI (ak (ev LI TT) (aq TT) BJ) [(5,.row .own 1 (([]).map eS)),(14,.row .own 1 (ws.map eS)),(15,.int .i64 ws.length),(16,.int .i64 0)]=some (.exit 0,[(5,.row .own 1 ((((ws).flatMap (λw=>[cK w]))).map eS)),(14,.row .own 1 (ws.map eS)),(15,.int .i64 ws.length),(16,.int .i64 (ws).length),(17,.bool false)]):=by
 refine oO (f:=ak (ev LI TT) (aq TT) BJ) (ws) (λw=>[cK w]) (λi out=>[(5,.row .own 1 ((out).map eS)),(14,.row .own 1 (ws.map eS)),(15,.int .i64 ws.length),(16,.int .i64 i)]) (λout=>[(5,.row .own 1 ((out).map eS)),(14,.row .own 1 (ws.map eS)),(15,.int .i64 ws.length),(16,.int .i64 (ws).length),(17,.bool false)]) (λi b out hi hl hout=>?_) (λout hout=>?_)
 ·have hw:=aU i (by first|omega|(simp at hl;omega));obtain⟨_,rfl⟩:=aJ.1 hi;have hlo:out.length=i:=by rw[hout];exact xj _ _ _ (by omega)
  have hlz:(i+1)*16<=140737488355328:=by omega
  have u1:=Zh ws[i] (hb _ (cq hl));try simp at u1
  simp -implicitDefEqProofs [BJ,LY,hl,hw,u1,hlo,hlz,bJ]
 ·simp -implicitDefEqProofs [BJ,LY]
def Qf(fs:List aK)(hb:wL aP fs<=1073741824):ev LI TT 112 [.row .af 2 (fs.map aS)]=some (.row .own 1 ((dB fs).map eS),[.dead]):=by
 rw[au (b:=F2) (rs:=[.t 2]) (n:=1) rfl rfl];have hfl:=bh (w:=aP) fs;have hg:=uE fs ju;have u1:=P7 fs ju (by omega);try simp at u1
 have u2:=Zt ((dW fs ju).getD []) (by omega);try simp at u2
 have u3:=Xn (jE ((dW fs ju).getD [])) (by have:=I2 ((dW fs ju).getD []);omega) (λw hw=>by have:=DA _ w hw;omega);try simp at u3
 rw[AD,show (jE ((dW fs ju).getD [])).map cK=dB fs from rfl] at u3;simp -implicitDefEqProofs [F2,u1,u2,u3];all_goals (repeat' split)<;>first|rfl|omega|simp_all<;>omega|skip
def IY(fs:List aK):(dB fs).length<=wL aP fs+1:=by have h1:=I2 ((dW fs ju).getD []);have h2:=uE fs ju;simp[dB];omega
end M
namespace M
open Go
def Yd(ps:List (ag×ag))(hb:ps.length<=9223372036854775807):aI (ak (ev LI TT) (aq TT) DE) [(0,.row .af 1 (ps.map λx=>eS x.1)),(1,.row .af 1 (ps.map λx=>eS x.2)),(12,.int .i64 ps.length),(13,.int .i64 0)]=if bq xd (ps)=true then some (.exit 0,[(0,.row .af 1 (ps.map λx=>eS x.1)),(1,.row .af 1 (ps.map λx=>eS x.2)),(12,.int .i64 ps.length),(13,.int .i64 ps.length),(14,.bool false)]) else some (.ret,[(4,.bool false)]):=by
 refine gJ (f:=ak (ev LI TT) (aq TT) DE) (ps) (λi=>[(0,.row .af 1 (ps.map λx=>eS x.1)),(1,.row .af 1 (ps.map λx=>eS x.2)),(12,.int .i64 ps.length),(13,.int .i64 i)]) xd _ _ (λi b hi hl=>?_) ?_;·have hw:=aU i (by first|omega|(simp at hl;omega));obtain⟨_,rfl⟩:=aJ.1 hi;simp -implicitDefEqProofs [DE,Ov,hl,hw,xd];first|done|(split<;>simp_all)
 ·simp -implicitDefEqProofs [DE,Ov]
def Ki(a b:List ag)(hb:a.length<=9223372036854775807):ev LI TT 111 [.row .af 1 (a.map eS),.row .af 1 (b.map eS)]=some (.bool (decide (a=b)),[.dead,.dead]):=by
 rw[au (b:=I7) (rs:=[.t 4]) (n:=2) rfl rfl];simp -implicitDefEqProofs [I7];by_cases h:a.length=b.length;·obtain⟨ps,rfl,rfl⟩:=WS h;have h1:=Yd ps (by simpa using hb);have h2:=PK ps;simp at h1;cases h3:bq xd ps<;>rw[h3] at h1 h2<;>simp[h1,Jo,<-h2]
 ·have:¬a=b:=λe=>h (by rw[e]);simp[this];omega
def WT:∀{a b:List ag},(∀x∈a.zip b,¬(decide (x.1≠x.2))=true)->a.length=b.length->a=b
 |[],[],_,_=>rfl
 |x::a,y::b,h,hl=>by have h1:=h (x,y) (by simp);simp at h1;have h2:a=b:=WT (λz hz=>h z (by simp only[List.zip_cons_cons];exact bY _ hz)) (by simpa using hl);rw[h1,h2]
def amO{a b:List ag}{x:ag×ag}(hx:x∈a.zip b)(h:x.1≠x.2):a≠b:=by
 rintro rfl
 have:∀{l:List ag} {x:ag×ag},x∈l.zip l->x.1=x.2:=by
  intro l;induction l with
  |nil=>intro x h;simp at h
  |cons y l ih=>
   intro x h;simp only[List.zip_cons_cons,b9] at h;rcases h with rfl|h;·rfl
   ·exact ih h
 exact h (this hx)
def Yb(a b:List ag)(hb:a.length<=9223372036854775807)(iR:b.length<=9223372036854775807):aI (ak (ev LI TT) (aq TT) zi) [(0,.row .af 1 (a.map eS)),(1,.row .af 1 (b.map eS)),(5,.int .i64 0)]=(cL (λx=>decide (x.1≠x.2)) 0 (a.zip b)).elim (some (.exit 0,[(0,.row .af 1 (a.map eS)),(1,.row .af 1 (b.map eS)),(5,.int .i64 (a.zip b).length),(15,.bool false)])) λx=>some (.ret,(λ(i:Nat) b=>[(4,.bool false)]) x.1 x.2):=by
 refine vg (f:=ak (ev LI TT) (aq TT) zi) (a.zip b) (λi=>[(0,.row .af 1 (a.map eS)),(1,.row .af 1 (b.map eS)),(5,.int .i64 i)]) (λx=>decide (x.1≠x.2)) (λ(i:Nat) b=>[(4,.bool false)]) _ (λi b hi hl=>?_) ?_
 ·have hw:=aU i (by first|omega|(simp at hl;omega));obtain⟨_,rfl⟩:=aJ.1 hi;have ha:i<a.length:=by simp at hl;omega
  have hb':i<b.length:=by simp at hl;omega
  simp -implicitDefEqProofs [zi,Im,hl,hw,ha,hb']
 ·have hz:(a.zip b).length=min a.length b.length:=by simp
  rw[hz];by_cases hh:a.length<=b.length;·rw[mq hh];simp -implicitDefEqProofs [zi,Im]
  have h1:b.length<=a.length:=by omega
  have h2:(b.length:Int)<a.length:=by omega
  have h3:b.length<a.length:=by omega
  rw[Nat.min_eq_right h1];simp -implicitDefEqProofs [zi,Im,h2,h3]
def Kh(a b:List ag)(hb:a.length<=9223372036854775807)(iR:b.length<=9223372036854775807):ev LI TT 81 [.row .af 1 (a.map eS),.row .af 1 (b.map eS)]=some (.bool (decide (a=b)),[.dead,.dead]):=by
 rw[au (b:=zj) (rs:=[.t 4]) (n:=2) rfl rfl];have h:=Yb a b hb iR;cases g:cL (λx:ag×ag=>decide (x.1≠x.2)) 0 (a.zip b) with
 |some x=>obtain⟨i,x⟩:=x;obtain⟨_,h1,h2⟩:=qa g;have h3:¬a=b:=amO (mo h1) (by simpa using h2);rw[g] at h;simp only[Option.elim] at h;simp -implicitDefEqProofs [zj,h,h3]
 |none=>
 have h1:=E3.1 g;rw[g] at h;simp only[Option.elim] at h;try simp at h
 by_cases hl:a.length=b.length
 ·have h2:=WT h1 hl;subst h2;try simp at h
  simp -implicitDefEqProofs [zj,h]
 have h3:¬a=b:=λe=>hl (by rw[e]);have h4:¬(a.length:Int)=b.length:=by omega
 simp -implicitDefEqProofs [zj,h,h3,h4];all_goals (repeat' split)<;>first|rfl|omega|simp_all<;>omega|skip
end M
namespace M
open Go
def XK(o:Ob)(hb:wL wS o.values<=1073741824):aI (ak (ev LI TT) (aq TT) CE) [(1,.ptr .own (aW .af o)),(3,.int .i64 0)]=if bq fU (o.values)=true then some (.exit 0,[(1,.ptr .own (aW .af o)),(3,.int .i64 (o.values).length),(49,.bool false)]) else some (.ret,[(2,.bool false)]):=by
 refine gJ (f:=ak (ev LI TT) (aq TT) CE) (o.values) (λi=>[(1,.ptr .own (aW .af o)),(3,.int .i64 i)]) fU _ _ (λi b hi hl=>?_) ?_
 ·have hw:=aU i (by have:=bh (w:=wS) o.values;omega);obtain⟨_,rfl⟩:=aJ.1 hi;have hm:=zy (cq hl);have u1:=Ke o.values[i] (by omega);try simp at u1
  simp -implicitDefEqProofs [CE,Nn,hl,hw,u1];all_goals (repeat' split)<;>first|rfl|omega|simp_all<;>omega|skip
 ·simp -implicitDefEqProofs [CE,Nn]
def Ah(o:Ob)(hb:bG o<=1073741824):ev LI TT 26 [.agg (aW .af o)]=some (.bool ((dw o)),[.dead]):=by
 rw[au (b:=mZ) (rs:=[.t 2]) (n:=1) rfl rfl];have hw:bG o=o.path.length+wL wS o.names+wL wS o.values+bH o.resp:=rfl;have dr:bH o.resp=wL aP o.resp.fields+o.resp.body.length:=rfl;have hn:=bh (w:=wS) o.names;have hv:=bh (w:=wS) o.values;have hvl:=IY o.resp.fields;unfold dw nS;have u1:=J9 o.resp (by omega);try simp at u1
 have u2:=Kg o.path (by omega);try simp at u2
 have u3:=QJ o.names (by omega) (λw hw=>by have:=zy hw;omega);try simp at u3
 have u4:=Ev o.resp.fields (by omega);try simp at u4
 have u5:=Kh o.names (dB o.resp.fields) (by omega) (by omega);try simp at u5
 have u6:=XK o (by omega);try simp at u6
 by_cases g1:fy o.resp=true;rotate_left;·simp -implicitDefEqProofs [mZ,u1,u2,u3,u4,u5,u6,g1]
 by_cases g2:ij o.path=true;rotate_left;·simp -implicitDefEqProofs [mZ,u1,u2,u3,u4,u5,u6,g1,g2]
 by_cases g3:0<=o.t;rotate_left;·simp -implicitDefEqProofs [mZ,u1,u2,u3,u4,u5,u6,g1,g2,eq_false g3]
 by_cases g4:o.t<=1000000;rotate_left;·simp -implicitDefEqProofs [mZ,u1,u2,u3,u4,u5,u6,g1,g2,eq_true g3,eq_false g4]
 by_cases g5:bq dX o.names=true;rotate_left;·simp -implicitDefEqProofs [mZ,u1,u2,u3,u4,u5,u6,g1,g2,eq_true g3,eq_true g4,g5]
 by_cases g6:(o.names.length:Int)<=4;rotate_left;·simp -implicitDefEqProofs [mZ,u1,u2,u3,u4,u5,u6,g1,g2,eq_true g3,eq_true g4,g5,eq_false g6]
 by_cases g7:o.names=dB o.resp.fields;rotate_left;·simp -implicitDefEqProofs [mZ,u1,u2,u3,u4,u5,u6,g1,g2,eq_true g3,eq_true g4,g5,eq_true g6,eq_false g7]
 by_cases g8:o.values.length=o.names.length;rotate_left
 ·have kf:¬(o.values.length:Int)=o.names.length:=by omega
  simp -implicitDefEqProofs [mZ,u1,u2,u3,u4,u5,u6,g1,g2,eq_true g3,eq_true g4,g5,eq_true g6,eq_true g7,eq_false g8,eq_false kf]
 have kf:(o.values.length:Int)=o.names.length:=by omega
 simp -implicitDefEqProofs [mZ,u1,u2,u3,u4,u5,u6,g1,g2,eq_true g3,eq_true g4,g5,eq_true g6,eq_true g7,eq_true g8,eq_true kf];all_goals (repeat' split)<;>first|rfl|omega|simp_all<;>omega|skip
def Xg(o:Ob)(hb:wL wS o.values<=1073741824):aI (ak (ev LI TT) (aq TT) Bw) [(1,.ptr .own (aW .af o)),(5,.az 1 [] 0 2),(6,.row .af 1 (o.values.map eS)),(7,.int .i64 o.values.length),(8,.int .i64 0)]=if bq fU (o.values)=true then some (.exit 0,[(1,.ptr .own (aW .af o)),(5,.az 1 [] 0 2),(6,.row .af 1 (o.values.map eS)),(7,.int .i64 o.values.length),(8,.int .i64 (o.values).length),(9,.bool false)]) else some (.ret,[(2,.bool false)]):=by
 refine gJ (f:=ak (ev LI TT) (aq TT) Bw) (o.values) (λi=>[(1,.ptr .own (aW .af o)),(5,.az 1 [] 0 2),(6,.row .af 1 (o.values.map eS)),(7,.int .i64 o.values.length),(8,.int .i64 i)]) fU _ _ (λi b hi hl=>?_) ?_
 ·have hw:=aU i (by have:=bh (w:=wS) o.values;omega);obtain⟨_,rfl⟩:=aJ.1 hi;have hm:=zy (cq hl);have u1:=J5 o.values[i] (by omega);try simp at u1
  simp -implicitDefEqProofs [Bw,LH,hl,hw,u1];all_goals (repeat' split)<;>first|rfl|omega|simp_all<;>omega|skip
 ·simp -implicitDefEqProofs [Bw,LH]
def Ep(o:Ob)(hb:bG o<=1073741824):ev LI TT 52 [.agg (aW .af o)]=some (.bool ((dw o)),[.dead]):=by
 rw[au (b:=mM) (rs:=[.t 2]) (n:=1) rfl rfl];have hw:bG o=o.path.length+wL wS o.names+wL wS o.values+bH o.resp:=rfl;have dr:bH o.resp=wL aP o.resp.fields+o.resp.body.length:=rfl;have hn:=bh (w:=wS) o.names;have hv:=bh (w:=wS) o.values;have hvl:=IY o.resp.fields;unfold dw nS;have u1:=P9 o.resp (by omega);try simp at u1
 have u2:=Qn o.path (by omega);try simp at u2
 have u3:=ZB o.names (by omega) (λw hw=>by have:=zy hw;omega);try simp at u3
 have u4:=Qf o.resp.fields (by omega);try simp at u4
 have u5:=Ki o.names (dB o.resp.fields) (by omega);try simp at u5
 have u6:=Xg o (by omega);try simp at u6
 by_cases g1:bq fU o.values=true;rotate_left;·simp -implicitDefEqProofs [mM,u1,u2,u3,u4,u5,u6,g1]
 by_cases g2:ij o.path=true;rotate_left;·simp -implicitDefEqProofs [mM,u1,u2,u3,u4,u5,u6,g1,g2]
 by_cases g3:0<=o.t;rotate_left;·simp -implicitDefEqProofs [mM,u1,u2,u3,u4,u5,u6,g1,g2,eq_false g3]
 by_cases g4:o.t<=1000000;rotate_left;·simp -implicitDefEqProofs [mM,u1,u2,u3,u4,u5,u6,g1,g2,eq_true g3,eq_false g4]
 by_cases g8:o.values.length=o.names.length;rotate_left
 ·have kf:¬(o.values.length:Int)=o.names.length:=by omega
  simp -implicitDefEqProofs [mM,u1,u2,u3,u4,u5,u6,g1,g2,eq_true g3,eq_true g4,eq_false g8,eq_false kf]
 have kf:(o.values.length:Int)=o.names.length:=by omega
 by_cases h5:bq dX o.names=true;rotate_left;·simp -implicitDefEqProofs [mM,u1,u2,u3,u4,u5,u6,g1,g2,eq_true g3,eq_true g4,eq_true g8,eq_true kf,h5]
 by_cases h6:(o.names.length:Int)<=4;rotate_left;·simp -implicitDefEqProofs [mM,u1,u2,u3,u4,u5,u6,g1,g2,eq_true g3,eq_true g4,eq_true g8,eq_true kf,h5,eq_false h6]
 by_cases h7:fy o.resp=true;rotate_left;·simp -implicitDefEqProofs [mM,u1,u2,u3,u4,u5,u6,g1,g2,eq_true g3,eq_true g4,eq_true g8,eq_true kf,h5,eq_true h6,h7]
 simp -implicitDefEqProofs [mM,u1,u2,u3,u4,u5,u6,g1,g2,eq_true g3,eq_true g4,eq_true g8,eq_true kf,h5,eq_true h6,h7];all_goals (repeat' split)<;>first|rfl|omega|simp_all<;>omega|skip
def Es(b:Bn)(hb:aO b<=1073741824):ev LI TT 43 [.agg (aY b)]=some (.bool ((dn b)),[.dead]):=by
 rw[au (b:=qK) (rs:=[.t 2]) (n:=1) rfl rfl];have hw:aO b=b.a.length+b.b.length:=rfl;unfold dn;have u1:=Kg b.a (by omega);try simp at u1
 have u2:=Kb b.a (by omega);try simp at u2
 have u3:=Ke b.b (by omega);try simp at u3
 by_cases g1:0<=b.t;rotate_left;·simp -implicitDefEqProofs [qK,u1,u2,u3,eq_false g1]
 by_cases g2:b.t<=1000000;rotate_left;·simp -implicitDefEqProofs [qK,u1,u2,u3,eq_true g1,eq_false g2]
 by_cases h1:b.kind=1;·by_cases h2:ij b.a=true<;>simp -implicitDefEqProofs [qK,u1,u2,u3,eq_true g1,eq_true g2,h1,h2]
 by_cases h2:b.kind=2;·by_cases h3:ij b.a=true<;>simp -implicitDefEqProofs [qK,u1,u2,u3,eq_true g1,eq_true g2,h2,h3]
 by_cases h3:b.kind=3;·by_cases h4:dX b.a=true<;>simp -implicitDefEqProofs [qK,u1,u2,u3,eq_true g1,eq_true g2,h3,h4]
 simp -implicitDefEqProofs [qK,u1,u2,u3,eq_true g1,eq_true g2,h1,h2,h3];all_goals (repeat' split)<;>first|rfl|omega|simp_all<;>omega|skip
def En(b:Bn)(hb:aO b<=1073741824):ev LI TT 36 [.agg (aY b)]=some (.bool ((dn b)),[.dead]):=by
 rw[au (b:=qp) (rs:=[.t 2]) (n:=1) rfl rfl];have hw:aO b=b.a.length+b.b.length:=rfl;unfold dn;have u1:=Qn b.a (by omega);try simp at u1
 have u2:=J4 b.a (by omega);try simp at u2
 have u3:=J5 b.b (by omega);try simp at u3
 by_cases g1:0<=b.t;rotate_left;·simp -implicitDefEqProofs [qp,u1,u2,u3,eq_false g1]
 by_cases g2:b.t<=1000000;rotate_left;·simp -implicitDefEqProofs [qp,u1,u2,u3,eq_true g1,eq_false g2]
 by_cases h1:b.kind=1;·by_cases h2:ij b.a=true<;>simp -implicitDefEqProofs [qp,u1,u2,u3,eq_true g1,eq_true g2,h1,h2]
 by_cases h2:b.kind=2;·by_cases h3:ij b.a=true<;>simp -implicitDefEqProofs [qp,u1,u2,u3,eq_true g1,eq_true g2,h2,h3]
 by_cases h3:b.kind=3;·by_cases h4:dX b.a=true<;>simp -implicitDefEqProofs [qp,u1,u2,u3,eq_true g1,eq_true g2,h3,h4]
 simp -implicitDefEqProofs [qp,u1,u2,u3,eq_true g1,eq_true g2,h1,h2,h3];all_goals (repeat' split)<;>first|rfl|omega|simp_all<;>omega|skip
@[simp] def ang(t:Int):ev LI TT 95 [.int .i64 t]=some (.bool ((decide (0<=t/\t<=19))),[.dead]):=by rw[au (b:=Gd) (rs:=[.t 2]) (n:=1) rfl rfl];simp -implicitDefEqProofs [Gd];all_goals (repeat' split)<;>first|rfl|omega|simp_all<;>omega|skip
@[simp] def anh(t:Int):ev LI TT 37 [.int .i64 t]=some (.bool ((decide (5<=t/\t<=19))),[.dead]):=by rw[au (b:=Ge) (rs:=[.t 2]) (n:=1) rfl rfl];simp -implicitDefEqProofs [Ge];all_goals (repeat' split)<;>first|rfl|omega|simp_all<;>omega|skip
def XA(d:aV)(hb:d.pending.length<=9223372036854775807):aI (ak (ev LI TT) (aq TT) Cu) [(1,.ptr .own (bW .af d)),(3,.int .i64 0)]=if bq nU (d.pending)=true then some (.exit 0,[(1,.ptr .own (bW .af d)),(3,.int .i64 (d.pending).length),(8,.bool false)]) else some (.ret,[(2,.bool false)]):=by
 refine gJ (f:=ak (ev LI TT) (aq TT) Cu) (d.pending) (λi=>[(1,.ptr .own (bW .af d)),(3,.int .i64 i)]) nU _ _ (λi b hi hl=>?_) ?_;·have hw:=aU i (by first|omega|(simp at hl;omega));obtain⟨_,rfl⟩:=aJ.1 hi;simp -implicitDefEqProofs [Cu,Ng,hl,hw,nU];all_goals (repeat' split)<;>first|rfl|omega|simp_all<;>omega|skip
 ·simp -implicitDefEqProofs [Cu,Ng]
def uh(d:aV)(hb:d.pending.length<=9223372036854775807):ev LI TT 41 [.agg (bW .af d)]=some (.bool ((cg d)),[.dead]):=by
 rw[au (b:=G6) (rs:=[.t 2]) (n:=1) rfl rfl];unfold cg;have u1:=XA d hb;try simp at u1
 simp -implicitDefEqProofs [G6,u1];all_goals (repeat' split)<;>first|rfl|omega|simp_all<;>omega|skip
def Xa(d:aV)(hb:d.pending.length<=9223372036854775807):aI (ak (ev LI TT) (aq TT) Bl) [(1,.ptr .own (bW .af d)),(5,.az 1 [] 0 1),(6,.row .af 2 (d.pending.map eW)),(7,.int .i64 d.pending.length),(8,.int .i64 0)]=if bq nU (d.pending)=true then some (.exit 0,[(1,.ptr .own (bW .af d)),(5,.az 1 [] 0 1),(6,.row .af 2 (d.pending.map eW)),(7,.int .i64 d.pending.length),(8,.int .i64 (d.pending).length),(9,.bool false)]) else some (.ret,[(2,.bool false)]):=by
 refine gJ (f:=ak (ev LI TT) (aq TT) Bl) (d.pending) (λi=>[(1,.ptr .own (bW .af d)),(5,.az 1 [] 0 1),(6,.row .af 2 (d.pending.map eW)),(7,.int .i64 d.pending.length),(8,.int .i64 i)]) nU _ _ (λi b hi hl=>?_) ?_;·have hw:=aU i (by first|omega|(simp at hl;omega));obtain⟨_,rfl⟩:=aJ.1 hi;simp -implicitDefEqProofs [Bl,LC,hl,hw,nU];all_goals (repeat' split)<;>first|rfl|omega|simp_all<;>omega|skip
 ·simp -implicitDefEqProofs [Bl,LC]
def JX(d:aV)(hb:d.pending.length<=9223372036854775807):ev LI TT 39 [.agg (bW .af d)]=some (.bool ((cg d)),[.dead]):=by
 rw[au (b:=FI) (rs:=[.t 2]) (n:=1) rfl rfl];unfold cg;have u1:=Xa d hb;try simp at u1
 simp -implicitDefEqProofs [FI,u1];all_goals (repeat' split)<;>first|rfl|omega|simp_all<;>omega|skip
end M
namespace M
open Go
def Ya(s:ag)(hb:s.length<=1073741824)(g:List ag×Nat)(hinv:g.2<=0/\g.1.length<=0):aI (ak (ev LI TT) (aq TT) vX) [(0,.str ⟨s.toArray⟩),(3,.row .own 1 ((g).1.map eS)),(4,.int .i64 ((g).2:Nat)),(5,.int .i64 0)]=some (.exit 0,[(0,.str ⟨s.toArray⟩),(3,.row .own 1 (((foldI (gb 32 (λw=>[w]) s) 0 (s.map some++[none]) g)).1.map eS)),(4,.int .i64 (((foldI (gb 32 (λw=>[w]) s) 0 (s.map some++[none]) g)).2:Nat)),(5,.int .i64 (s.map some++[none]).length),(10,.bool false)]):=by
 refine fP (f:=ak (ev LI TT) (aq TT) vX) (s.map some++[none]) (λi (g:List ag×Nat)=>[(0,.str ⟨s.toArray⟩),(3,.row .own 1 ((g).1.map eS)),(4,.int .i64 ((g).2:Nat)),(5,.int .i64 i)]) (gb 32 (λw=>[w]) s) (λg=>[(0,.str ⟨s.toArray⟩),(3,.row .own 1 ((g).1.map eS)),(4,.int .i64 ((g).2:Nat)),(5,.int .i64 (s.map some++[none]).length),(10,.bool false)]) (λi (g:List ag×Nat)=>g.2<=i/\g.1.length<=i) g hinv (λi b g hi hl hinv=>?_) (λi b g hi hinv=>?_) (λg hinv=>?_)
 ·have hw:=aU i (by first|omega|(simp at hl;omega));obtain⟨_,rfl⟩:=aJ.1 hi;have hlz:(g.1.length+1)*16<=140737488355328:=by simp at hl;omega
  have AJ:∀b:UInt8,((b.toNat:Int)=32)↔b=32:=λb=>⟨λh=>tP.1 (by have e:(32:UInt8).toNat=32:=rfl;omega),λh=>by subst h;rfl⟩;rcases Ul s i hl with ⟨hi',e⟩|⟨rfl,e⟩
  ·rw[e];have k1:(i:Int)<=s.length:=by omega
   have k2:i<=s.length:=by omega
   have k3:¬i=s.length:=by omega
   have k4:¬(i:Int)=s.length:=by omega
   by_cases hx:s[i]=32;rotate_left;·have hx':=mt (AJ s[i]).1 hx;simp -implicitDefEqProofs [vX,Di,k1,k2,k3,k4,hi',hw,gb,hx,hx']
   have hx':=(AJ s[i]).2 hx;have e3:(s.take i).drop g.2=(s.drop g.2).take (i - g.2):=zP ..;simp -implicitDefEqProofs [vX,Di,k1,k2,k3,k4,hi',hw,gb,eq_true hx,hx',hinv,Lib.extract_mk,e3,bJ,hlz]
  rw[e];have e3:(s.take s.length).drop g.2=(s.drop g.2).take (s.length - g.2):=zP ..;simp only[gb,e3];simp -implicitDefEqProofs [vX,Di,hl,hw,hinv,Lib.extract_mk,bJ,hlz]
 ·exact Si 32 (λw=>[w]) (λ_=>ek 1) s i g b hinv
 ·have Le:¬((s.length:Int)+1<=s.length):=by omega
  simp -implicitDefEqProofs [vX,Di,Le]
def wT(s:ag)(hb:s.length<=1073741824):ev LI TT 189 [.str ⟨s.toArray⟩]=some (.row .own 1 ((bA 32 s).map eS),[.dead]):=by rw[au (b:=Il) (rs:=[.t 2]) (n:=1) rfl rfl];have u1:=Ya s hb ([],0) ⟨by omega,by simp⟩;rw[R1,List.flatMap_singleton' (bA 32 s)] at u1;simp at u1;simp -implicitDefEqProofs [Il,u1];all_goals (repeat' split)<;>first|rfl|omega|simp_all<;>omega|skip
def Ra(c:UInt8):∀(s:ag) (k:Nat),(cL (λb=>decide ((b.toNat:Int)=c.toNat)) k s).map (λx=>(x.1 - k))=(cF c s).map λp=>p.1.length
 |[],k=>rfl
 |b::s,k=>by
  have hb:((b.toNat:Int)=c.toNat)↔b=c:=⟨λh=>tP.1 (by omega),λh=>by subst h;rfl⟩;unfold cL cF;by_cases h:b=c;·simp[hb,h]
  ·have ih:=Ra c s (k+1);simp only[hb,h,O1,fD,dQ];cases hf:cL (λb=>decide ((b.toNat:Int)=c.toNat)) (k+1) s with
   |none=>
    rw[hf] at ih;cases hc:cF c s with
    |none=>rfl
    |some p=>rw[hc] at ih;simp at ih
   |some x=>
    rw[hf] at ih;cases hc:cF c s with
    |none=>rw[hc] at ih;simp at ih
    |some p=>rw[hc] at ih;have hx:=(qa (i:=x.1) (b:=x.2) hf).1;simp at ih⊢;omega
def EL{c:UInt8}:∀{s:ag} {p:ag×ag},cF c s=some p->s=p.1++c::p.2
 |[],p,h=>by cases h
 |b::s,p,h=>by
  unfold cF at h;split at h;·rename_i hb;cases h;simp[hb]
  ·cases hc:cF c s with
   |none=>rw[hc] at h;cases h
   |some q=>rw[hc] at h;cases h;simp[<-EL hc]
def XZ(s:ag)(k:Nat)(hk:k<=s.length)(hb:s.length<=1073741824):aI (ak (ev LI TT) (aq TT) CT) [(0,.str ⟨s.toArray⟩),(1,.int .i64 (k:Nat)),(6,.int .i64 ((k+0:Nat):Int))]=(cL (λb=>decide ((b.toNat:Int)=(10:UInt8).toNat)) 0 (s.drop k)).elim (some (.exit 0,[(0,.str ⟨s.toArray⟩),(1,.int .i64 (k:Nat)),(6,.int .i64 ((k+(s.drop k).length:Nat):Int)),(11,.bool false)])) λx=>some (.ret,(λ(i:Nat) b=>[(4,.str ⟨((s.drop k).take i).toArray⟩),(5,.int .i64 ((k+i+1:Nat):Int))]) x.1 x.2):=by
 refine vg (f:=ak (ev LI TT) (aq TT) CT) (s.drop k) (λi=>[(0,.str ⟨s.toArray⟩),(1,.int .i64 (k:Nat)),(6,.int .i64 ((k+i:Nat):Int))]) (λb=>decide ((b.toNat:Int)=(10:UInt8).toNat)) (λ(i:Nat) b=>[(4,.str ⟨((s.drop k).take i).toArray⟩),(5,.int .i64 ((k+i+1:Nat):Int))]) _ (λi b hi hl=>?_) ?_
 ·have hw:=aU i (by simp at hl;omega);obtain⟨_,rfl⟩:=aJ.1 hi;simp at hl;have h1:k+i<s.length:=by omega
  have h2:=aU (k+i) (by omega);have h3:((k+i:Nat):Int)<s.length:=by omega
  have h4:(10:UInt8).toNat=10:=rfl;have h5:(k:Int)<=((k+i:Nat):Int):=by omega
  have h6:((k+i:Nat):Int)<=s.length:=by omega
  simp at h2 h3 h5 h6;have h7:((k:Int)+(i:Int)).toNat=k+i:=by omega
  have h8:(0:Int)<=(k:Int)+(i:Int):=by omega
  have h9:(s.take (k+i)).drop k=(s.drop k).take i:=by rw[zP];congr 1;omega
  simp -implicitDefEqProofs [CT,Nz,hl,hw,h1,h2,h3,h4,h5,h6,h7,h8,h9,Lib.extract_mk];all_goals (repeat' split)<;>first|rfl|omega|simp_all<;>omega|skip
 ·have hz:k+(s.length - k)=s.length:=by omega
  have fG:(k:Int)+((s.length - k:Nat):Int)=s.length:=by omega
  simp -implicitDefEqProofs [CT,Nz,hz,fG]
def xU(s:ag)(k:Nat):Int:=match cF 10 (s.drop k) with
 |some p=>((s.length - p.2.length:Nat):Int)
 |none=>-1
def xV(s:ag)(k:Nat):ag:=match cF 10 (s.drop k) with
 |some p=>p.1
 |none=>[]
def Ey(s:ag)(k:Nat)(hk:k<=s.length)(hb:s.length<=1073741824):ev LI TT 188 [.str ⟨s.toArray⟩,.int .i64 (k:Int)]=some (.av [.str ⟨(xV s k).toArray⟩,.int .i64 (xU s k)],[.dead,.dead]):=by
 rw[au (b:=CU) (rs:=[.t 4,.t 5]) (n:=2) rfl rfl];have hc:=Ra 10 (s.drop k) 0;unfold xV xU;have u1:=XZ s k hk hb;try simp at u1
 cases g:cL (λb:UInt8=>decide ((b.toNat:Int)=10)) 0 (s.drop k) with
 |none=>
  have h4:(10:UInt8).toNat=10:=rfl;rw[h4] at hc;simp only[Int.cast_ofNat_Int] at hc;rw[g] at u1 hc;cases hq:cF 10 (s.drop k) with
  |some p=>rw[hq] at hc;simp at hc
  |none=>simp at u1;simp -implicitDefEqProofs [CU,u1]
 |some x=>
 have h4:(10:UInt8).toNat=10:=rfl;rw[h4] at hc;simp only[Int.cast_ofNat_Int] at hc;rw[g] at u1 hc;cases hq:cF 10 (s.drop k) with
 |none=>rw[hq] at hc;simp at hc
 |some p=>
 rw[hq] at hc;have he:=EL hq;have hx:x.1=p.1.length:=by simpa using hc
 have ht:(s.drop k).take x.1=p.1:=by rw[hx,he];simp
 have hl:=dz List.length he;simp at hl;have hn:((s.length - p.2.length:Nat):Int)=((k+x.1+1:Nat):Int):=by omega
 simp only[Option.elim,ht] at u1;try simp at u1
 simp -implicitDefEqProofs [CU,u1,hn];all_goals (repeat' split)<;>first|rfl|omega|simp_all<;>omega|skip
def uy{s:ag}{p:ag×ag}(h:cF 10 s=some p):p.2.length<s.length/\s.drop (s.length - p.2.length)=p.2/\p.1.length<s.length:=by
 have he:=EL h;have hl:=dz List.length he;simp at hl;refine⟨by omega,?_,by omega⟩;have:s.length - p.2.length=(p.1++[10]).length:=by simp;omega
 rw[this,he];have e:p.1++10::p.2=(p.1++[10])++p.2:=by simp
 rw[e,wF]
end M
set_option maxHeartbeats 4000000
namespace M
open Go
def oc:ag:=[112,97,116,104]
def n9:ag:=[98,101,108,111,119]
def oa:ag:=[102,105,101,108,100]
def iK(k:Int):ag:=if k=1 then oc else if k=2 then n9 else oa
def nO(w:ag):Int:=if w=oc then 1 else if w=n9 then 2 else if w=oa then 3 else 0
def di(b:Bn):ag:=if dn b=true then [98,97,110]++32::(iK b.kind++32::(cy b.t++32::(b.a++if b.kind=3 then 10::b.b else []))) else []
def Ej{b:Bn}(h:dn b=true):b.kind=1\/b.kind=2\/b.kind=3:=by
 unfold dn at h;by_cases h1:b.kind=1;·exact Or.inl h1
 by_cases h2:b.kind=2;·exact Or.inr (Or.inl h2)
 by_cases h3:b.kind=3;·exact Or.inr (Or.inr h3)
 simp[h1,h2,h3] at h
def VW(k:Int):(iK k).length<=5:=by unfold iK;(repeat' split)<;>simp[oc,n9,oa]
def Er(k:Int)(hk:k=1\/k=2\/k=3):ev LI TT 145 [.int .i64 k]=some (.str ⟨(iK k).toArray⟩,[.dead]):=by
 rw[au (b:=F4) (rs:=[.t 2]) (n:=1) rfl rfl];rcases hk with rfl|rfl|rfl;all_goals
 simp -implicitDefEqProofs [F4,iK,oc,n9,oa,cu,ck,ct,bO];all_goals (repeat' split)<;>first|rfl|omega|simp_all<;>omega|skip
def Qo(b:Bn)(hb:aO b<=1073741824):ev LI TT 46 [.agg (aY b)]=some (.str ⟨(di b).toArray⟩,[.dead]):=by
 rw[au (b:=Cq) (rs:=[.t 2]) (n:=1) rfl rfl];obtain⟨kd,a0,b0,t0⟩:=b;have hw:aO ⟨kd,a0,b0,t0⟩=a0.length+b0.length:=rfl;have l1:=mT t0;unfold di;have u1:=Es ⟨kd,a0,b0,t0⟩ hb;try simp at u1
 have u2:=oy t0;try simp at u2
 by_cases g:dn ⟨kd,a0,b0,t0⟩=true;rotate_left;·simp -implicitDefEqProofs [Cq,u1,u2,g]
 rw[g] at u1;rcases Ej g with h|h|h;all_goals simp only at h
 all_goals subst h
 all_goals
 simp -implicitDefEqProofs [Cq,u1,u2,g,iK,oc,n9,oa,cu,ck,ct,bO,eX,M8];all_goals (try simp only[*,not_false_eq_true,dQ,lz])
 all_goals (repeat rw[ax (by omega)])
 all_goals (try simp)
 all_goals first|done|omega|(refine⟨by omega,by omega,?_⟩;rw[show (⟨#[10]⟩:ByteArray)=⟨([10]:ag).toArray⟩ from rfl,eX,eX];simp;done)|skip
def P4(b:Bn)(hb:aO b<=1073741824):ev LI TT 100 [.agg (aY b)]=some (.str ⟨(di b).toArray⟩,[.dead]):=by
 rw[au (b:=Bj) (rs:=[.t 2]) (n:=1) rfl rfl];obtain⟨kd,a0,b0,t0⟩:=b;have hw:aO ⟨kd,a0,b0,t0⟩=a0.length+b0.length:=rfl;have l1:=mT t0;have l2:=VW kd;unfold di;have u1:=En ⟨kd,a0,b0,t0⟩ hb;try simp at u1
 have u2:=Eo t0;try simp at u2
 by_cases g:dn ⟨kd,a0,b0,t0⟩=true;rotate_left;·simp -implicitDefEqProofs [Bj,u1,u2,g]
 rw[g] at u1;have u3:=Er kd (Ej g);try simp at u3
 by_cases h:kd=3;all_goals (try subst h)
 all_goals
 simp -implicitDefEqProofs [Bj,u1,u2,u3,g,eX];all_goals (try simp only[*,not_false_eq_true,dQ,lz])
 all_goals (repeat rw[ax (by omega)])
 all_goals (try simp)
 all_goals first|done|omega|(refine⟨by omega,by omega,?_⟩;rw[show (⟨#[10]⟩:ByteArray)=⟨([10]:ag).toArray⟩ from rfl,eX,eX];simp;done)|skip
end M
set_option maxHeartbeats 4000000
namespace M
open Go
def fq:List ag:=[oc,n9,oa]
def sO(w:ag)(i:Nat)(g:Int)(b:ag):Int:=if b=w then ((1+i:Nat):Int) else g
def Tw(w:ag):foldI (sO w) 0 fq 0=nO w:=by
 unfold nO sO;simp only[fq,foldI];by_cases h1:w=oc;·subst h1;rfl
 by_cases h2:w=n9;·subst h2;rfl
 by_cases h3:w=oa;·subst h3;rfl
 simp[h1,h2,h3,wC h1,wC h2,wC h3,eq_comm (b:=w)]
def Xw(s w0 w1 w2 w3 v:ag)(g:Int)(hinv:True):aI (ak (ev LI TT) (aq TT) Cp) [(0,.str ⟨s.toArray⟩),(2,.ptr .own [.int .i64 0,.str ⟨#[]⟩,.str ⟨#[]⟩,.int .i64 0]),(6,.ptr .own [.int .i64 g,.str ⟨#[]⟩,.str ⟨v.toArray⟩,.int .i64 0]),(7,.row .own 1 ([w0,w1,w2,w3].map eS)),(8,.row .own 1 (([]::fq).map eS)),(9,.int .i64 ((1+0:Nat):Int))]=some (.exit 0,[(0,.str ⟨s.toArray⟩),(2,.ptr .own [.int .i64 0,.str ⟨#[]⟩,.str ⟨#[]⟩,.int .i64 0]),(6,.ptr .own [.int .i64 (foldI (sO w1) 0 (fq) g),.str ⟨#[]⟩,.str ⟨v.toArray⟩,.int .i64 0]),(7,.row .own 1 ([w0,w1,w2,w3].map eS)),(8,.row .own 1 (([]::fq).map eS)),(9,.int .i64 4),(33,.bool false)]):=by
 refine fP (f:=ak (ev LI TT) (aq TT) Cp) (fq) (λi (g:Int)=>[(0,.str ⟨s.toArray⟩),(2,.ptr .own [.int .i64 0,.str ⟨#[]⟩,.str ⟨#[]⟩,.int .i64 0]),(6,.ptr .own [.int .i64 g,.str ⟨#[]⟩,.str ⟨v.toArray⟩,.int .i64 0]),(7,.row .own 1 ([w0,w1,w2,w3].map eS)),(8,.row .own 1 (([]::fq).map eS)),(9,.int .i64 ((1+i:Nat):Int))]) (sO w1) (λg=>[(0,.str ⟨s.toArray⟩),(2,.ptr .own [.int .i64 0,.str ⟨#[]⟩,.str ⟨#[]⟩,.int .i64 0]),(6,.ptr .own [.int .i64 g,.str ⟨#[]⟩,.str ⟨v.toArray⟩,.int .i64 0]),(7,.row .own 1 ([w0,w1,w2,w3].map eS)),(8,.row .own 1 (([]::fq).map eS)),(9,.int .i64 4),(33,.bool false)]) (λi (g:Int)=>True) g hinv (λi b g hi hl hinv=>?_) (λi b g hi hinv=>?_) (λg hinv=>?_)
 ·have hw:=aU i (by simp[fq] at hl;omega);obtain⟨_,rfl⟩:=aJ.1 hi;have h3:i=0\/i=1\/i=2:=by simp[fq] at hl;omega
  by_cases hq:fq[i]=w1;all_goals rcases h3 with rfl|rfl|rfl
  all_goals simp only[fq,Jw,Pk] at hq
  all_goals
  simp -implicitDefEqProofs [Cp,M7,hl,hw,sO,hq,fq,bO]
 ·trivial
 ·simp -implicitDefEqProofs [Cp,M7,fq]
def W9(s w0 w1 w2 w3 v:ag)(is:Bool)(n:Int)(g:Int)(hinv:True):aI (ak (ev LI TT) (aq TT) Bi) [(0,.str ⟨s.toArray⟩),(2,.ptr .own [.int .i64 0,.str ⟨#[]⟩,.str ⟨#[]⟩,.int .i64 0]),(7,.row .own 1 ([w0,w1,w2,w3].map eS)),(9,.bool is),(10,.ptr .own [.int .i64 g,.str ⟨w3.toArray⟩,.str ⟨v.toArray⟩,.int .i64 n]),(11,.int .i64 ((1+0:Nat):Int))]=some (.exit 0,[(0,.str ⟨s.toArray⟩),(2,.ptr .own [.int .i64 0,.str ⟨#[]⟩,.str ⟨#[]⟩,.int .i64 0]),(7,.row .own 1 ([w0,w1,w2,w3].map eS)),(9,.bool is),(10,.ptr .own [.int .i64 (foldI (sO w1) 0 (fq) g),.str ⟨w3.toArray⟩,.str ⟨v.toArray⟩,.int .i64 n]),(11,.int .i64 4),(38,.bool false)]):=by
 refine fP (f:=ak (ev LI TT) (aq TT) Bi) (fq) (λi (g:Int)=>[(0,.str ⟨s.toArray⟩),(2,.ptr .own [.int .i64 0,.str ⟨#[]⟩,.str ⟨#[]⟩,.int .i64 0]),(7,.row .own 1 ([w0,w1,w2,w3].map eS)),(9,.bool is),(10,.ptr .own [.int .i64 g,.str ⟨w3.toArray⟩,.str ⟨v.toArray⟩,.int .i64 n]),(11,.int .i64 ((1+i:Nat):Int))]) (sO w1) (λg=>[(0,.str ⟨s.toArray⟩),(2,.ptr .own [.int .i64 0,.str ⟨#[]⟩,.str ⟨#[]⟩,.int .i64 0]),(7,.row .own 1 ([w0,w1,w2,w3].map eS)),(9,.bool is),(10,.ptr .own [.int .i64 g,.str ⟨w3.toArray⟩,.str ⟨v.toArray⟩,.int .i64 n]),(11,.int .i64 4),(38,.bool false)]) (λi (g:Int)=>True) g hinv (λi b g hi hl hinv=>?_) (λi b g hi hinv=>?_) (λg hinv=>?_)
 ·have hw:=aU i (by simp[fq] at hl;omega);obtain⟨_,rfl⟩:=aJ.1 hi;have h3:i=0\/i=1\/i=2:=by simp[fq] at hl;omega
  have b1:=Er 1 (by omega);have b2:=Er 2 (by omega);have b3:=Er 3 (by omega);simp only[iK,dh,show ¬((2:Int)=1) by omega,show ¬((3:Int)=1) by omega,show ¬((3:Int)=2) by omega,dQ] at b1 b2 b3;try simp at b1
  try simp at b2
  try simp at b3
  by_cases hq:fq[i]=w1;all_goals rcases h3 with rfl|rfl|rfl
  all_goals simp only[fq,Jw,Pk] at hq
  all_goals
  simp -implicitDefEqProofs [Bi,LB,hl,hw,sO,hq,fq,bO,b1,b2,b3]
 ·trivial
 ·simp -implicitDefEqProofs [Bi,LB,fq]
def zB:Bn:=⟨0,[],[],0⟩
def iA(s:ag):ag×ag:=match cF 10 s with
 |some p=>p
 |none=>(s,[])
def rH(s v:ag)(ws:List ag):Bn×Bool:=match ws with
 |[_,w,t,a]=>if di ⟨nO w,a,v,((bz t).getD 0:Nat)⟩=s then (⟨nO w,a,v,((bz t).getD 0:Nat)⟩,true) else (zB,false)
 |_=>(zB,false)
def eO(s:ag):Bn×Bool:=rH s (iA s).2 (bA 32 (iA s).1)
def PZ{s v:ag}{ws:List ag}(h:ws.length≠4):rH s v ws=(zB,false):=by
 unfold rH;split;·simp at h
 ·rfl
def Gv{ws:List ag}(h:ws.length=4):∃a b c d,ws=[a,b,c,d]:=by
 match ws,h with
 |[a,b,c,d],_=>exact⟨a,b,c,d,rfl⟩
def PW(s:ag):(iA s).1.length<=s.length/\(iA s).2.length<=s.length:=by
 unfold iA;cases h:cF 10 s with
 |none=>simp
 |some p=>have:=dz List.length (EL h);simp at this⊢;omega
def EK:∀(p r:ag),(∀b∈p,b≠10)->cF 10 (p++r)=(cF 10 r).map λq=>(p++q.1,q.2)
 |[],r,_=>by simp
 |b::p,r,h=>by rw[fM,cF,aF (h b (bD ..)),EK p r λx hx=>h x (bY _ hx)];cases cF 10 r<;>simp
def YP(p r:ag)(h:∀b∈p,b≠10):(iA (p++r)).1=p++(iA r).1:=by unfold iA;rw[EK p r h];cases cF 10 r<;>simp
def tH(w r:ag)(h:∀b∈w,b≠32):bA 32 (w++32::r)=w::bA 32 r:=by rw[Dk 32 w _ h];simp[bA]
def I1(k:Int):∀b∈iK k,b≠32/\b≠10:=by unfold iK;(repeat' split)<;>simp[oc,n9,oa]
def YX{s w0 w1 w2 w3 v a:ag}{k:Int}(h:di ⟨k,a,v,0⟩=s)(hs:bA 32 (iA s).1=[w0,w1,w2,w3]):bz w2≠none\/s=[]:=by
 unfold di at h;split at h
 ·left;have e:cy 0=[48]:=by simp[cy,ER]
  rw[e] at h;simp only at h;have e2:s=([98,97,110,32]++(iK k++[32,48,32]))++(a++if k=3 then 10::v else []):=by rw[<-h];simp
  rw[e2,YP _ _ (by intro b hb;simp at hb;rcases hb with rfl|rfl|rfl|rfl|hb|rfl|rfl|rfl<;>first|decide|exact(I1 k b hb).2)] at hs;have e3:[98,97,110,32]++(iK k++[32,48,32])++(iA (a++if k=3 then 10::v else [])).1=[98,97,110]++32::(iK k++32::([48]++32::(iA (a++if k=3 then 10::v else [])).1)):=by simp
  rw[e3,tH _ _ (by decide),tH _ _ (λb hb=>(I1 k b hb).1),tH _ _ (by decide)] at hs;simp only[wE] at hs;obtain⟨_,_,rfl,_⟩:=hs;simp[bz,mc,ER]
 ·right;exact h.symm
def ZE(s:ag)(hb:s.length<=1048576):ev LI TT 187 [.str ⟨s.toArray⟩]=some (.av [.agg (aY ((eO s).1)),.bool ((eO s).2)],[.dead]):=by
 rw[au (b:=qL) (rs:=[.c 2 4 true 44,.t 3]) (n:=1) rfl rfl];have u1:=Ey s 0 (by omega) (by omega);have bl:=PW s;simp only[xV,xU,Jt] at u1;unfold eO
 have hX:∃l v e,iA s=(l,v)/\((e=-1/\v=[]/\l=s/\ev LI TT 188 [.str ⟨s.toArray⟩,.int .i64 0]=some (.av [.str ⟨#[]⟩,.int .i64 (-1)],[.dead,.dead]))\/(∃m:Nat,e=(m:Int)/\m<=s.length/\s.length - m=v.length/\s.drop m=v/\ev LI TT 188 [.str ⟨s.toArray⟩,.int .i64 0]=some (.av [.str ⟨l.toArray⟩,.int .i64 m],[.dead,.dead]))):=by
  unfold iA;cases hc:cF 10 s with
  |none=>rw[hc] at u1;exact⟨s,[],-1,rfl,Or.inl ⟨rfl,rfl,rfl,by simpa using u1⟩⟩
  |some p=>obtain⟨l,v⟩:=p;rw[hc] at u1;obtain⟨d1,d2,d3⟩:=uy hc;exact⟨l,v,_,rfl,Or.inr ⟨s.length - v.length,rfl,by omega,by simp only at d1;omega,d2,by simpa using u1⟩⟩
 clear u1;obtain⟨l,v,e,he,hX⟩:=hX;rw[he] at bl⊢;simp only at bl⊢;have u2:=wT l (by omega);have hm:=pK 32 l;by_cases h4:(bA 32 l).length=4;rotate_left
 ·rw[PZ h4];have si:¬(((bA 32 l).length:Int)=4):=by omega
  try simp at u2
  rcases hX with ⟨rfl,rfl,rfl,u1⟩|⟨m,rfl,k1,k2,k3,u1⟩;·simp -implicitDefEqProofs [qL,u1,u2,si,zB]
  ·have k4:¬((m:Int)<0):=by omega
   have k5:(m:Int)<=s.length:=by omega
   simp -implicitDefEqProofs [qL,u1,u2,si,zB,k1,k2,k3,k4,k5,Lib.extract_mk]
 obtain⟨w0,w1,w2,w3,hw⟩:=Gv h4;rw[hw] at u2 hm⊢;have u3:=wQ w2 (by have:=hm w2 (by simp);omega);have u4:=Qo ⟨nO w1,w3,v,((bz w2).getD 0:Nat)⟩ (by have:=hm w3 (by simp);simp only[aO];omega);have u5:=Xw s w0 w1 w2 w3 v 0 trivial;rw[Tw] at u5;obtain⟨n,hn⟩:∃n,(bz w2).getD 0=n:=⟨_,rfl⟩;unfold rH;simp only[hn] at u3 u4⊢;simp[fq,oc,n9,oa] at u2 u3 u4 u5;by_cases g:di ⟨nO w1,w3,v,(n:Int)⟩=s;all_goals rcases hX with ⟨rfl,rfl,rfl,u1⟩|⟨m,rfl,k1,k2,k3,u1⟩
 ·simp -implicitDefEqProofs [qL,u1,u2,u3,u4,u5,eq_true g,zB]
 ·have k4:¬((m:Int)<0):=by omega
  have k5:(m:Int)<=s.length:=by omega
  simp -implicitDefEqProofs [qL,u1,u2,u3,u4,u5,eq_true g,zB,k1,k2,k3,k4,k5,Lib.extract_mk]
 ·simp -implicitDefEqProofs [qL,u1,u2,u3,u4,u5,eq_false g,zB]
 have k4:¬((m:Int)<0):=by omega
 have k5:(m:Int)<=s.length:=by omega
 simp -implicitDefEqProofs [qL,u1,u2,u3,u4,u5,eq_false g,zB,k1,k2,k3,k4,k5,Lib.extract_mk];all_goals (repeat' split)<;>first|rfl|omega|simp_all<;>omega|skip
def Za(s:ag)(hb:s.length<=1048576):ev LI TT 148 [.str ⟨s.toArray⟩]=some (.av [.agg (aY ((eO s).1)),.bool ((eO s).2)],[.dead]):=by
 rw[au (b:=uT) (rs:=[.c 2 4 true 44,.t 3]) (n:=1) rfl rfl];have u1:=wU s [10] (by omega);have ec:=EO 10 s;have bl:=PW s;unfold eO
 have hX:∃l v k,iA s=(l,v)/\ev LI TT 177 [.str ⟨s.toArray⟩,.str ⟨#[10]⟩]=some (.av [.str ⟨l.toArray⟩,.str ⟨v.toArray⟩,.bool k],[.dead,.dead]):=by
  unfold iA;cases hc:cF 10 s with
  |none=>rw[hc] at ec;simp only at ec;rw[ec] at u1;exact⟨s,[],_,rfl,u1⟩
  |some p=>rw[hc] at ec;simp only at ec;rw[ec] at u1;exact⟨p.1,p.2,_,rfl,u1⟩
 clear u1 ec;obtain⟨l,v,k,he,u1⟩:=hX;have hz:=λw0 w1 w2 w3 v a k=>YX (s:=s) (w0:=w0) (w1:=w1) (w2:=w2) (w3:=w3) (v:=v) (a:=a) (k:=k);rw[he] at bl hz⊢;simp only at bl hz⊢;have u2:=uk l 32 (by omega);have hm:=pK 32 l;by_cases h4:(bA 32 l).length=4;rotate_left
 ·rw[PZ h4];have si:¬(((bA 32 l).length:Int)=4):=by omega
  try simp at u2
  simp -implicitDefEqProofs [uT,u1,u2,si,zB]
 obtain⟨w0,w1,w2,w3,hw⟩:=Gv h4;rw[hw] at u2 hm hz⊢;have u3:=Af w2 (by have:=hm w2 (by simp);omega);have u4:=P4 ⟨nO w1,w3,v,((bz w2).getD 0:Nat)⟩ (by have:=hm w3 (by simp);simp only[aO];omega);have u5:=W9 s w0 w1 w2 w3 v (bz w2).isSome ((bz w2).getD 0:Nat) 0 trivial;rw[Tw] at u5;unfold rH;cases hn:bz w2 with
 |none=>
  rw[hn] at u3 u4 u5
  have g:¬di ⟨nO w1,w3,v,0⟩=s:=by
   intro g;rcases hz _ _ _ _ _ _ _ g rfl with h|h;·exact h hn
   ·subst h;rw[show iA []=([],[]) from rfl] at he;obtain⟨rfl,rfl⟩:=DQ he;simp[bA] at h4
  simp[fq,oc,n9,oa] at u2 u3 u4 u5 g;simp -implicitDefEqProofs [uT,u1,u2,u3,u4,u5,hn,eq_false g,zB]
 |some n=>
 rw[hn] at u3 u4 u5;simp[fq,oc,n9,oa] at u2 u3 u4 u5;by_cases g:di ⟨nO w1,w3,v,(n:Int)⟩=s;·simp -implicitDefEqProofs [uT,u1,u2,u3,u4,u5,hn,eq_true g,zB]
 simp -implicitDefEqProofs [uT,u1,u2,u3,u4,u5,hn,eq_false g,zB];all_goals (repeat' split)<;>first|rfl|omega|simp_all<;>omega|skip
end M
set_option maxHeartbeats 4000000
namespace M
open Go
def ahH(l:List ag)(k:Nat)(n:Nat)(h:∀s∈l,s.length<=n):(l.getD k []).length<=n:=by
 rw[ji];cases hk:l[k]? with
 |none=>simp
 |some s=>exact h s (mo hk)
def eM(c:bg)(l:List ag)(n:Nat)(h1:0<l.length)(h2:l.length<=1000)(h:∀s∈l,s.length<=n):∃(c':bg) (s:ag),s.length<=n/\ev LI TT 63 [.ptr .own (aR c),.row .af 1 (l.map eS)]=some (.str ⟨s.toArray⟩,[.ptr .own (aR c'),.dead]):=
 ⟨_,_,ahH _ _ n h,QI c l h1 (by omega)⟩
def fL(c:bg)(m:Int)(h1:0<m)(h2:m<=9223372036854775807):∃(c':bg) (n:Int),0<=n/\n<m/\ev LI TT 58 [.ptr .own (aR c),.int .i64 m]=some (.int .i64 n,[.ptr .own (aR c'),.dead]):=
 ⟨_,_,(uf c m h1 h2).1,(uf c m h1 h2).2,Ai c m h2⟩
def DB(c:bg)(m:Int)(h2:m<=9223372036854775807):∃(c':bg) (b:Bool),ev LI TT 129 [.ptr .own (aR c),.int .i64 m]=some (.bool b,[.ptr .own (aR c'),.dead]):=
 ⟨_,_,ZU c m h2⟩
def wm(c:bg)(l:List Int)(h1:0<l.length)(h2:l.length<=1000):∃(c':bg) (s:Int),s∈l/\ev LI TT 59 [.ptr .own (aR c),.row .af 1 (l.map eI)]=some (.int .i64 s,[.ptr .own (aR c'),.dead]):=by refine⟨_,_,?_,ZV c l h1 (by omega)⟩;have b:=uf c l.length (by omega) (by omega);rw[ji,cz (by omega)];exact cq _
def V9(c:bg):∃(c':bg) (n:Int),bI n/\ev LI TT 62 [.ptr .own (aR c)]=some (.int .i64 n,[.ptr .own (aR c')]):=by
 obtain⟨c1,b,u1⟩:=DB c 15 (by omega);cases b;·obtain⟨c2,n,h1,h2,u2⟩:=fL c1 40 (by omega) (by omega);refine⟨c2,n,(by unfold bI;omega),?_⟩;rw[au (b:=zh) (rs:=[.t 2]) (n:=1) rfl rfl];simp -implicitDefEqProofs [zh,u1,u2]
 ·obtain⟨c2,n,hn,u2⟩:=wm c1 [-1,1000000,1000001,9223372036854775807,-9223372036854775808] (by simp) (by simp);refine⟨c2,n,(by unfold bI;simp at hn;omega),?_⟩;simp at u2;rw[au (b:=zh) (rs:=[.t 2]) (n:=1) rfl rfl];simp -implicitDefEqProofs [zh,u1,u2,cu,ck]
def V3(c:bg)(t:Int):∃(c':bg) (b:Bn),aO b<=100/\ev LI TT 99 [.ptr .own (aR c),.int .i64 t]=some (.agg (aY b),[.ptr .own (aR c'),.dead]):=by
 obtain⟨c1,k,h1,h2,u1⟩:=fL c 3 (by omega) (by omega);by_cases g0:k=0;·subst g0;obtain⟨c2,s,hs,u2⟩:=eM c1 [[47],[47,97],[47,97,47,98],[47,98]] 4 (by simp) (by simp) (by simp);refine⟨c2,⟨1,s,[],t⟩,(by simp[aO];omega),?_⟩;simp at u2;rw[au (b:=tj) (rs:=_) (n:=2) rfl rfl];simp -implicitDefEqProofs [tj,u1,u2,cu,ck,ct]
 by_cases g1:k=1;·subst g1;obtain⟨c2,s,hs,u2⟩:=eM c1 [[47],[47,97],[47,98,47,99]] 4 (by simp) (by simp) (by simp);refine⟨c2,⟨2,s,[],t⟩,(by simp[aO];omega),?_⟩;simp at u2;rw[au (b:=tj) (rs:=_) (n:=2) rfl rfl];simp -implicitDefEqProofs [tj,u1,u2,cu,ck,ct]
 ·obtain⟨c2,s,hs,u2⟩:=eM c1 [[101,116,97,103],[120,45,97]] 4 (by simp) (by simp) (by simp);obtain⟨c3,s3,hs3,u3⟩:=eM c2 [[97],[98],[49]] 4 (by simp) (by simp) (by simp);refine⟨c3,⟨3,s,s3,t⟩,(by simp[aO];omega),?_⟩;simp at u2 u3;rw[au (b:=tj) (rs:=_) (n:=2) rfl rfl];simp -implicitDefEqProofs [tj,u1,u2,u3,g0,g1,cu,ck,ct]
def V2(c:bg):∃(c':bg) (b:Bn),aO b<=200/\ev LI TT 44 [.ptr .own (aR c)]=some (.agg (aY b),[.ptr .own (aR c')]):=by
 obtain⟨c1,k1,_,_,u1⟩:=fL c 40 (by omega) (by omega);obtain⟨c2,⟨kd,a,b,t⟩,hb,u2⟩:=V3 c1 k1;obtain⟨c3,k,h1,h2,u3⟩:=fL c2 15 (by omega) (by omega);simp at u2;simp only[aO] at hb;by_cases g0:k=0;·subst g0;obtain⟨c4,n,h4,h5,u4⟩:=fL c3 6 (by omega) (by omega);have hw:IntKind.i64.wrap (n - 1)=n - 1:=bO (by omega) (by omega);refine⟨c4,⟨n - 1,a,b,t⟩,(by simp only[aO];omega),?_⟩;rw[au (b:=ni) (rs:=_) (n:=1) rfl rfl];simp -implicitDefEqProofs [ni,u1,u2,u3,u4,hw]
 by_cases g1:k=1;·subst g1;obtain⟨c4,n,h4,u4⟩:=V9 c3;refine⟨c4,⟨kd,a,b,n⟩,(by simp only[aO];omega),?_⟩;rw[au (b:=ni) (rs:=_) (n:=1) rfl rfl];simp -implicitDefEqProofs [ni,u1,u2,u3,u4]
 by_cases g2:k=2;·subst g2;obtain⟨c4,x,hx,u4⟩:=eM c3 [[],[65],[47,32]] 2 (by simp) (by simp) (by simp);simp at u4;refine⟨c4,⟨kd,x,b,t⟩,(by simp only[aO];omega),?_⟩;rw[au (b:=ni) (rs:=_) (n:=1) rfl rfl];simp -implicitDefEqProofs [ni,u1,u2,u3,u4,cu,ck,ct]
 by_cases g3:k=3;·subst g3;obtain⟨c4,x,hx,u4⟩:=eM c3 [[],[113],[32,113]] 2 (by simp) (by simp) (by simp);simp at u4;refine⟨c4,⟨kd,a,x,t⟩,(by simp only[aO];omega),?_⟩;rw[au (b:=ni) (rs:=_) (n:=1) rfl rfl];simp -implicitDefEqProofs [ni,u1,u2,u3,u4,cu,ck,ct]
 refine⟨c3,⟨kd,a,b,t⟩,(by simp only[aO];omega),?_⟩;rw[au (b:=ni) (rs:=_) (n:=1) rfl rfl];simp -implicitDefEqProofs [ni,u1,u2,u3,g0,g1,g2,g3]
def YU(b:Bn):(di b).length<=aO b+30:=by
 unfold di;have l1:=mT b.t;have l2:=VW b.kind;simp only[aO];split;·split<;>simp<;>omega
 ·simp
end M
set_option maxHeartbeats 4000000
namespace M
open Go
def Dv:List ag:=[[32],[44],[97],[90],[55],[45],[61],[120],[58],[1],[64],[91]]
def ai0(k:Nat)(h:k<12):∃b,Dv.getD k []=[b]:=by
 have:k=0\/k=1\/k=2\/k=3\/k=4\/k=5\/k=6\/k=7\/k=8\/k=9\/k=10\/k=11:=by omega
 rcases this with rfl|rfl|rfl|rfl|rfl|rfl|rfl|rfl|rfl|rfl|rfl|rfl<;>exact⟨_,rfl⟩
def amm(c:bg):∃(c':bg) (t:ag),t.length<=100/\ev LI TT 192 [.ptr .own (aR c)]=some (.str ⟨t.toArray⟩,[.ptr .own (aR c')]):=by
 obtain⟨⟨⟨c',i⟩,out⟩,⟨hs,hi⟩,e⟩:=af0 (f:=ak (ev LI TT) (aq TT) HZ)
  (λ(g:(bg×Nat)×ag)=>[(0,.az 100000 [] 0 0),(3,.row .own 1 (g.2.map eU)),(4,.int .i64 g.1.2),(100000,.ptr .own (aR g.1.1))])
  (λg=>200 - g.1.2) (λg=>g.2.length=g.1.2/\g.1.2<=20)
  (λg=>[(0,.az 100000 [] 0 0),(3,.row .own 1 (g.2.map eU)),(4,.int .i64 g.1.2),(9,.bool false),(100000,.ptr .own (aR g.1.1))])
  (λg hg=>by
   obtain⟨⟨c,i⟩,out⟩:=g;obtain⟨h1,h2⟩:=hg;simp only at h1 h2;have b:=uf c 14 (by omega) (by omega);have e1:=Ai c 14 (by omega);obtain⟨v,hv⟩:∃v,kO c 14=v:=⟨_,rfl⟩;rw[hv] at e1 b;have e2:=QI (jm c 14) Dv (by decide) (by decide);have b2:=uf (jm c 14) 12 (by omega) (by omega);obtain⟨x,hx⟩:=ai0 (kO (jm c 14) 12).toNat (by omega);have e3:(kO (jm c 14) Dv.length)=kO (jm c 14) 12:=rfl;have e4:(jm (jm c 14) Dv.length)=jm (jm c 14) 12:=rfl;rw[e3,e4,hx] at e2;simp[Dv] at e2;by_cases h:(i:Int)<v;·right;have hw:=aU i (by omega);refine⟨((jm (jm c 14) 12,i+1),out++[x]),⟨by simp[h1],by simp only;omega⟩,by simp only;omega,?_⟩;simp -implicitDefEqProofs [HZ,NV,e1,e2,h,hw,bJ,h1,(by omega:i+1<=140737488355328)]
   ·left;refine⟨((jm c 14,i),out),⟨h1,h2⟩,?_⟩;simp -implicitDefEqProofs [HZ,NV,e1,h])
  ((c,0),[]) ⟨rfl,by simp⟩
 refine⟨c',out,by simp only at hs hi;omega,?_⟩;rw[au (b:=H6) (rs:=[.t 2]) (n:=1) rfl rfl];have hu:qX (out.map eU)=some out:=Oi out;simp only at hs hi;simp at e;simp -implicitDefEqProofs [H6,e,hu,(by omega:out.length<=9223372036854775807)]
end M
set_option maxHeartbeats 4000000
namespace M
open Go
def qx{xt:Nat}{γ:Type}{f:ah->cB}(st:γ->ah)(μ:γ->Nat)(Inv:γ->Prop)(E:γ->ah)
  (h:∀g,Inv g->(∃g',Inv g'/\f (st g)=some (.exit xt,E g'))\/∃g',Inv g'/\μ g'<μ g/\f (st g)=some (.normal,st g'))(g:γ)(hg:Inv g):∃g',Inv g'/\aI f (st g)=some (.exit xt,E g'):=by
 suffices H:∀n g,μ g=n->Inv g->∃g',Inv g'/\aI f (st g)=some (.exit xt,E g') from H _ g rfl hg
 intro n;induction n using Nat.strongRecOn with
 |ind n ih=>
  intro g hn hI;rcases h g hI with ⟨g',h1,h2⟩|⟨g',h1,h2,h3⟩;·exact⟨g',h1,by rw[cW,h2];rfl⟩
  ·obtain⟨g2,h4,h5⟩:=ih _ (by omega) g' rfl h1;exact⟨g2,h4,by rw[cW,h3];exact h5⟩
def TM{f:ah->cB}{s s':ah}(h:f s=f s'):aI f s=aI f s':=by rw[cW,h,<-cW]
def Oo{l:List aK}{m:Nat}(h:∀f∈l,aP f<=100)(hl:l.length<=m):wL aP l<=m*101:=by
 have:wL aP l<=l.length*101:=by
  clear hl;induction l with
  |nil=>simp[wL]
  |cons a l ih=>have h1:=ih λf hf=>h f (bY _ hf);have h2:=h a bD;simp only[wL,cw,bn,nk] at h1⊢;omega
 have:l.length*101<=m*101:=oo _ hl;omega
def Ou(c:bg):∃(c':bg) (f:aK),aP f<=100/\ev LI TT 172 [.ptr .own (aR c)]=some (.agg (aS f),[.ptr .own (aR c')]):=by
 obtain⟨c1,k,h1,h2,u1⟩:=fL c 9 (by omega) (by omega);by_cases g0:k=0;·subst g0;obtain⟨c2,s,hs,u2⟩:=eM c1 [[109,97,120,45,97,103,101,61,53],[109,97,120,45,97,103,101,61,50,48],[110,111,45,115,116,111,114,101],[110,111,45,99,97,99,104,101],[112,114,105,118,97,116,101],[109,97,120,45,97,103,101,61,57,44,32,109,117,115,116,45,114,101,118,97,108,105,100,97,116,101],[109,97,120,45,97,103,101,61,120],[77,65,88,45,65,71,69,61,51]] 30 (by simp) (by simp) (by simp);refine⟨c2,⟨[99,97,99,104,101,45,99,111,110,116,114,111,108],s⟩,(by simp[aP];omega),?_⟩;simp at u2;rw[au (b:=ja) (rs:=_) (n:=1) rfl rfl];simp -implicitDefEqProofs [ja,u1,u2,cu,ck,ct]
 by_cases g1:k=1;·subst g1;obtain⟨c2,s,hs,u2⟩:=eM c1 [[97],[98]] 30 (by simp) (by simp) (by simp);refine⟨c2,⟨[101,116,97,103],s⟩,(by simp[aP];omega),?_⟩;simp at u2;rw[au (b:=ja) (rs:=_) (n:=1) rfl rfl];simp -implicitDefEqProofs [ja,u1,u2,cu,ck,ct]
 by_cases g2:k=2;·subst g2;obtain⟨c2,s,hs,u2⟩:=eM c1 [[108,97,110,103],[108,97,110,103,44,32,107,105,110,100],[42]] 30 (by simp) (by simp) (by simp);refine⟨c2,⟨[118,97,114,121],s⟩,(by simp[aP];omega),?_⟩;simp at u2;rw[au (b:=ja) (rs:=_) (n:=1) rfl rfl];simp -implicitDefEqProofs [ja,u1,u2,cu,ck,ct]
 by_cases g3:k=3;·subst g3;obtain⟨c2,s,hs,u2⟩:=eM c1 [[100,101],[101,110]] 30 (by simp) (by simp) (by simp);refine⟨c2,⟨[108,97,110,103],s⟩,(by simp[aP];omega),?_⟩;simp at u2;rw[au (b:=ja) (rs:=_) (n:=1) rfl rfl];simp -implicitDefEqProofs [ja,u1,u2,cu,ck,ct]
 by_cases g4:k=4;·subst g4;obtain⟨c2,s,hs,u2⟩:=eM c1 [[120],[121]] 30 (by simp) (by simp) (by simp);refine⟨c2,⟨[107,105,110,100],s⟩,(by simp[aP];omega),?_⟩;simp at u2;rw[au (b:=ja) (rs:=_) (n:=1) rfl rfl];simp -implicitDefEqProofs [ja,u1,u2,cu,ck,ct]
 by_cases g5:k=5;·subst g5;obtain⟨c2,s,hs,u2⟩:=eM c1 [[48],[51],[57,48],[120]] 30 (by simp) (by simp) (by simp);refine⟨c2,⟨[97,103,101],s⟩,(by simp[aP];omega),?_⟩;simp at u2;rw[au (b:=ja) (rs:=_) (n:=1) rfl rfl];simp -implicitDefEqProofs [ja,u1,u2,cu,ck,ct]
 by_cases g6:k=6;·subst g6;obtain⟨c2,s,hs,u2⟩:=eM c1 [[97],[98]] 30 (by simp) (by simp) (by simp);refine⟨c2,⟨[105,102,45,110,111,110,101,45,109,97,116,99,104],s⟩,(by simp[aP];omega),?_⟩;simp at u2;rw[au (b:=ja) (rs:=_) (n:=1) rfl rfl];simp -implicitDefEqProofs [ja,u1,u2,cu,ck,ct]
 ·obtain⟨c2,s,hs,u2⟩:=eM c1 [[120,45,97],[120,45,98],[100,97,116,101]] 30 (by simp) (by simp) (by simp);obtain⟨c3,v,hv,u3⟩:=eM c2 [[49],[116,119,111,32,119,111,114,100,115],[113]] 30 (by simp) (by simp) (by simp);refine⟨c3,⟨s,v⟩,(by simp[aP];omega),?_⟩;simp at u2 u3;rw[au (b:=ja) (rs:=_) (n:=1) rfl rfl];simp -implicitDefEqProofs [ja,u1,u2,u3,g0,g1,g2,g3,g4,g5,g6,cu,ck,ct]
def V6(c:bg):∃(c':bg) (fs:List aK),fs.length<=5/\(∀f∈fs,aP f<=100)/\ev LI TT 167 [.ptr .own (aR c)]=some (.row .own 2 (fs.map aS),[.ptr .own (aR c')]):=by
 obtain⟨⟨⟨c',i⟩,out⟩,⟨h1,h2,h3⟩,e⟩:=qx (xt:=0) (f:=ak (ev LI TT) (aq TT) Db)
  (λ(g:(bg×Nat)×List aK)=>[(0,.az 100000 [] 0 0),(3,.row .own 2 (g.2.map aS)),(4,.int .i64 g.1.2),(100000,.ptr .own (aR g.1.1))])
  (λg=>20 - g.1.2) (λg=>g.2.length<=g.1.2/\g.1.2<=5/\∀f∈g.2,aP f<=100)
  (λg=>[(0,.az 100000 [] 0 0),(3,.row .own 2 (g.2.map aS)),(4,.int .i64 g.1.2),(10,.bool false),(100000,.ptr .own (aR g.1.1))])
  (λg hg=>by
   obtain⟨⟨c,i⟩,out⟩:=g;obtain⟨h1,h2,h3⟩:=hg;simp only at h1 h2 h3;obtain⟨c1,v,hv0,hv,e1⟩:=fL c 5 (by omega) (by omega);by_cases h:(i:Int)<v
   ·right;have hw:=aU i (by omega);obtain⟨c2,f,hf,e2⟩:=Ou c1;have e3:=wR out f.name (by omega);try simp at e2
    try simp at e3
    have h8:(out.length+1)*32<=140737488355328:=by omega
    by_cases ha:fY (fo out f.name)<0
    ·refine⟨((c2,i+1),out++[f]),⟨by simp;omega,by simp only;omega,λx hx=>?_⟩,by simp only;omega,?_⟩
     ·rcases dy.1 hx with hx|hx;·exact h3 x hx
      ·simp at hx;rw[hx];exact hf
     ·simp -implicitDefEqProofs [Db,Ih,e1,e2,e3,h,hw,ha,bJ,h8]
    ·refine⟨((c2,i+1),out),⟨by simp only;omega,by simp only;omega,h3⟩,by simp only;omega,?_⟩;simp -implicitDefEqProofs [Db,Ih,e1,e2,e3,h,hw,ha,bJ,h8]
   ·left;refine⟨((c1,i),out),⟨h1,h2,h3⟩,?_⟩;simp -implicitDefEqProofs [Db,Ih,e1,h])
  ((c,0),[]) ⟨by simp,by simp,by simp⟩
 refine⟨c',out,by simp only at h1 h2;omega,h3,?_⟩;rw[au (b:=Ii) (rs:=_) (n:=1) rfl rfl];simp at e;simp -implicitDefEqProofs [Ii,e]
def amn(c:bg):∃(c':bg) (fs:List aK),fs.length<=10/\(∀f∈fs,aP f<=100)/\ev LI TT 130 [.ptr .own (aR c)]=some (.row .own 2 (fs.map aS),[.ptr .own (aR c')]):=by
 obtain⟨c1,fs,h1,h2,u1⟩:=V6 c;obtain⟨c2,k,k1,k2,u2⟩:=fL c1 15 (by omega) (by omega);try simp at u1
 by_cases g0:k=0
 ·subst g0;obtain⟨c3,f,hf,u3⟩:=Ou c2;obtain⟨c4,f2,jr,u4⟩:=Ou c3;refine⟨c4,fs++[f,f2],by simp;omega,λx hx=>?_,?_⟩
  ·rcases dy.1 hx with hx|hx;·exact h2 x hx
   ·simp at hx;rcases hx with rfl|rfl<;>assumption
  ·simp at u3 u4;have h8:(fs.length+2)*32<=140737488355328:=by omega
   rw[au (b:=pF) (rs:=_) (n:=1) rfl rfl];simp -implicitDefEqProofs [pF,u1,u2,u3,u4,bJ,h8]
 by_cases g1:k=1
 ·subst g1;obtain⟨c3,n,hn,u3⟩:=eM c2 [[],[65],[99,111,110,116,101,110,116,45,108,101,110,103,116,104]] 30 (by simp) (by simp) (by simp);obtain⟨c4,v,hv,u4⟩:=eM c3 [[],[32,97],[49]] 30 (by simp) (by simp) (by simp);refine⟨c4,fs++[⟨n,v⟩],by simp;omega,λx hx=>?_,?_⟩
  ·rcases dy.1 hx with hx|hx;·exact h2 x hx
   ·simp at hx;rw[hx];simp[aP];omega
  ·simp at u3 u4;have h8:(fs.length+1)*32<=140737488355328:=by omega
   rw[au (b:=pF) (rs:=_) (n:=1) rfl rfl];simp -implicitDefEqProofs [pF,u1,u2,u3,u4,bJ,h8,cu,ck,ct]
 by_cases g2:k=2
 ·subst g2
  obtain⟨⟨c',out⟩,⟨m1,m2⟩,e⟩:=qx (xt:=1) (f:=ak (ev LI TT) (aq TT) tC)
   (λ(g:bg×List aK)=>[(0,.az 100000 [] 0 0),(3,.row .own 2 (g.2.map aS)),(100000,.ptr .own (aR g.1))])
   (λg=>20 - g.2.length) (λg=>g.2.length<=9/\∀f∈g.2,aP f<=100)
   (λg=>[(0,.az 100000 [] 0 0),(3,.row .own 2 (g.2.map aS)),(36,.bool false),(100000,.ptr .own (aR g.1))])
   (λg hg=>by
    obtain⟨c,out⟩:=g;obtain⟨h1,h2⟩:=hg;simp only at h1 h2;obtain⟨c',v,v0,v1,e1⟩:=fL c 2 (by omega) (by omega);have hw:IntKind.i64.wrap (8+v)=8+v:=bO (by omega) (by omega);by_cases h:(out.length:Int)<8+v
    ·right;have e2:=oy (out.length:Int);have hl:=mT (out.length:Int);have h8:(out.length+1)*32<=140737488355328:=by omega
     have hx:1+(cy (out.length:Int)).length<=9223372036854775807:=by omega
     have hs:(⟨#[110]⟩:ByteArray)++⟨(cy (out.length:Int)).toArray⟩=⟨(110::cy (out.length:Int)).toArray⟩:=by rw[show (⟨#[110]⟩:ByteArray)=⟨([110]:ag).toArray⟩ from rfl,eX];simp
     refine⟨(c',out++[⟨110::cy (out.length:Int),[118]⟩]),⟨by simp;omega,λx hx=>?_⟩,by simp;omega,?_⟩
     ·rcases dy.1 hx with hx|hx;·exact h2 x hx
      ·simp at hx;rw[hx];simp[aP];omega
     ·simp -implicitDefEqProofs [tC,Dc,e1,e2,h,hw,bJ,h8,hx,hs]
    ·left;refine⟨(c',out),⟨h1,h2⟩,?_⟩;simp -implicitDefEqProofs [tC,Dc,e1,h,hw])
   (c2,fs) ⟨by simp only;omega,h2⟩
  have hst:ak (ev LI TT) (aq TT) tC [(0,.az 100000 [] 0 0),(3,.row .own 2 (fs.map aS)),(29,.bool true),(100000,.ptr .own (aR c2))]=ak (ev LI TT) (aq TT) tC [(0,.az 100000 [] 0 0),(3,.row .own 2 (fs.map aS)),(100000,.ptr .own (aR c2))]:=by
   obtain⟨c',v,v0,v1,e1⟩:=fL c2 2 (by omega) (by omega);have hw:IntKind.i64.wrap (8+v)=8+v:=bO (by omega) (by omega);by_cases h:(fs.length:Int)<8+v
   ·have e2:=oy (fs.length:Int);have hl:=mT (fs.length:Int);have h8:(fs.length+1)*32<=140737488355328:=by omega
    have hx:1+(cy (fs.length:Int)).length<=9223372036854775807:=by omega
    simp -implicitDefEqProofs [tC,Dc,e1,e2,h,hw,bJ,h8,hx]
   ·simp -implicitDefEqProofs [tC,Dc,e1,h,hw]
  have uQ:=TM hst;rw[e] at uQ;refine⟨c',out,by simp only at m1;omega,m2,?_⟩;try simp at uQ
  rw[au (b:=pF) (rs:=_) (n:=1) rfl rfl];simp -implicitDefEqProofs [pF,u1,u2,uQ]
 ·refine⟨c2,fs,by omega,h2,?_⟩;rw[au (b:=pF) (rs:=_) (n:=1) rfl rfl];simp -implicitDefEqProofs [pF,u1,u2,g0,g1,g2]
def V7(c:bg):∃(c':bg) (t:ag),t.length<=100/\ev LI TT 168 [.ptr .own (aR c)]=some (.str ⟨t.toArray⟩,[.ptr .own (aR c')]):=by
 obtain⟨c1,b,u1⟩:=DB c 2 (by omega);cases b
 ·obtain⟨c2,t,ht,u2⟩:=amm c1;refine⟨c2,t,ht,?_⟩;try simp at u2
  rw[au (b:=y9) (rs:=_) (n:=1) rfl rfl];simp -implicitDefEqProofs [y9,u1,u2]
 ·obtain⟨c2,t,ht,u2⟩:=eM c1 [[],[104,101,108,108,111],[13,10,13,10],[97,0,98],[111,110,101,32,116,119,111]] 100 (by simp) (by simp) (by simp);refine⟨c2,t,ht,?_⟩;simp at u2;rw[au (b:=y9) (rs:=_) (n:=1) rfl rfl];simp -implicitDefEqProofs [y9,u1,u2,cu,ck,ct]
def V8(c:bg):∃(c':bg) (r:bU),bH r<=2000/\bI r.status/\ev LI TT 124 [.ptr .own (aR c)]=some (.agg (ga .own r),[.ptr .own (aR c')]):=by
 obtain⟨c1,st,hst,u1⟩:=wm c [200,200,200,200,404,500,304] (by simp) (by simp);obtain⟨c2,fs,h1,h2,u2⟩:=V6 c1;obtain⟨c3,t,ht,u3⟩:=V7 c2;obtain⟨c4,b,u4⟩:=DB c3 2 (by omega);have hw:=Oo h2 h1;have hs:bI st:=by unfold bI;simp at hst;omega
 try simp at u1
 try simp at u2
 try simp at u3
 cases b;·refine⟨c4,⟨st,fs,t⟩,by simp only[bH];omega,hs,?_⟩;rw[au (b:=zc) (rs:=_) (n:=1) rfl rfl];simp -implicitDefEqProofs [zc,u1,u2,u3,u4,cu,ck,ct]
 ·obtain⟨c5,v,hv,u5⟩:=eM c4 [[109,97,120,45,97,103,101,61,53],[109,97,120,45,97,103,101,61,50,48],[109,97,120,45,97,103,101,61,57]] 30 (by simp) (by simp) (by simp);have u6:=Qy fs [99,97,99,104,101,45,99,111,110,116,114,111,108] v (by omega);have hp:=UA fs [99,97,99,104,101,45,99,111,110,116,114,111,108] v;refine⟨c5,⟨st,sZ fs [99,97,99,104,101,45,99,111,110,116,114,111,108] v,t⟩,?_,hs,?_⟩;·simp only[bH];simp at hp;omega
  ·simp at u5;try simp at u6
   rw[au (b:=zc) (rs:=_) (n:=1) rfl rfl];simp -implicitDefEqProofs [zc,NX,NY,u1,u2,u3,u4,u5,u6,cu,ck,ct]
end M
set_option maxHeartbeats 8000000
namespace M
open Go
def amq(c:bg):∃(c':bg) (q:Rq),me q<=2000/\bI q.method/\ev LI TT 127 [.ptr .own (aR c)]=some (.agg (oC .own q),[.ptr .own (aR c')]):=by
 obtain⟨c1,m,hm,u1⟩:=wm c [1,1,1,1,2,3,4] (by simp) (by simp);obtain⟨c2,p,hp,u2⟩:=eM c1 [[47],[47,97],[47,97,47,98],[47,98]] 10 (by simp) (by simp) (by simp);have SI:bI m:=by unfold bI;simp at hm;omega
 obtain⟨⟨⟨c3,i⟩,out⟩,⟨h1,h2,h3⟩,e⟩:=qx (xt:=0) (f:=ak (ev LI TT) (aq TT) tE)
  (λ(g:(bg×Nat)×List aK)=>[(0,.az 100000 [] 0 0),(2,.ptr .own [.int .i64 0,.str ⟨#[]⟩,.row .own 2 [],.str ⟨#[]⟩]),(3,.ptr .own (oC .own ⟨m,p,g.2,[]⟩)),(4,.int .i64 g.1.2),(100000,.ptr .own (aR g.1.1))])
  (λg=>20 - g.1.2) (λg=>g.2.length<=g.1.2/\g.1.2<=4/\∀f∈g.2,aP f<=100)
  (λg=>[(0,.az 100000 [] 0 0),(2,.ptr .own [.int .i64 0,.str ⟨#[]⟩,.row .own 2 [],.str ⟨#[]⟩]),(3,.ptr .own (oC .own ⟨m,p,g.2,[]⟩)),(4,.int .i64 g.1.2),(17,.bool false),(100000,.ptr .own (aR g.1.1))])
  (λg hg=>by
   obtain⟨⟨c,i⟩,out⟩:=g;obtain⟨h1,h2,h3⟩:=hg;simp only at h1 h2 h3;obtain⟨c1,v,hv0,hv,e1⟩:=fL c 4 (by omega) (by omega);by_cases h:(i:Int)<v
   ·right;have hw:=aU i (by omega);obtain⟨c2,f,hf,e2⟩:=eM c1 [[108,97,110,103],[107,105,110,100],[99,97,99,104,101,45,99,111,110,116,114,111,108],[105,102,45,110,111,110,101,45,109,97,116,99,104],[120,45,97]] 20 (by simp) (by simp) (by simp);have e3:=wR out f (by omega);simp at e2;try simp at e3
    have h8:(out.length+1)*32<=140737488355328:=by omega
    by_cases ha:fY (fo out f)<0
    ·obtain⟨c3,w,dr,e4⟩:=eM c2 [[100,101],[101,110]] 20 (by simp) (by simp) (by simp);simp at e4;by_cases g1:f=[107,105,110,100]
     ·obtain⟨c4,w2,Ba,e5⟩:=eM c3 [[120],[121]] 20 (by simp) (by simp) (by simp);simp at e5;subst g1;refine⟨((c4,i+1),out++[⟨[107,105,110,100],w2⟩]),⟨by simp;omega,by simp only;omega,λx hx=>?_⟩,by simp only;omega,?_⟩
      ·rcases dy.1 hx with hx|hx;·exact h3 x hx
       ·simp at hx;rw[hx];simp[aP];omega
      ·simp -implicitDefEqProofs [tE,vU,e1,e2,e3,e4,e5,h,hw,ha,bJ,h8,cu,ck,ct]
     by_cases g2:f=[99,97,99,104,101,45,99,111,110,116,114,111,108]
     ·obtain⟨c4,w2,Ba,e5⟩:=eM c3 [[110,111,45,99,97,99,104,101],[110,111,45,115,116,111,114,101],[109,97,120,45,97,103,101,61,51]] 20 (by simp) (by simp) (by simp);simp at e5;subst g2;refine⟨((c4,i+1),out++[⟨[99,97,99,104,101,45,99,111,110,116,114,111,108],w2⟩]),⟨by simp;omega,by simp only;omega,λx hx=>?_⟩,by simp only;omega,?_⟩
      ·rcases dy.1 hx with hx|hx;·exact h3 x hx
       ·simp at hx;rw[hx];simp[aP];omega
      ·simp -implicitDefEqProofs [tE,vU,e1,e2,e3,e4,e5,h,hw,ha,bJ,h8,cu,ck,ct]
     by_cases g3:f=[105,102,45,110,111,110,101,45,109,97,116,99,104]
     ·obtain⟨c4,w2,Ba,e5⟩:=eM c3 [[97],[98]] 20 (by simp) (by simp) (by simp);simp at e5;subst g3;refine⟨((c4,i+1),out++[⟨[105,102,45,110,111,110,101,45,109,97,116,99,104],w2⟩]),⟨by simp;omega,by simp only;omega,λx hx=>?_⟩,by simp only;omega,?_⟩
      ·rcases dy.1 hx with hx|hx;·exact h3 x hx
       ·simp at hx;rw[hx];simp[aP];omega
      ·simp -implicitDefEqProofs [tE,vU,e1,e2,e3,e4,e5,h,hw,ha,bJ,h8,cu,ck,ct]
     ·refine⟨((c3,i+1),out++[⟨f,w⟩]),⟨by simp;omega,by simp only;omega,λx hx=>?_⟩,by simp only;omega,?_⟩
      ·rcases dy.1 hx with hx|hx;·exact h3 x hx
       ·simp at hx;rw[hx];simp[aP];omega
      ·simp -implicitDefEqProofs [tE,vU,e1,e2,e3,e4,h,hw,ha,bJ,h8,cu,ck,ct,g1,g2,g3]
    ·refine⟨((c2,i+1),out),⟨by simp only;omega,by simp only;omega,h3⟩,by simp only;omega,?_⟩;simp -implicitDefEqProofs [tE,vU,e1,e2,e3,h,hw,ha,bJ,h8,cu,ck,ct]
   ·left;refine⟨((c1,i),out),⟨h1,h2,h3⟩,?_⟩;simp -implicitDefEqProofs [tE,vU,e1,h])
  ((c2,0),[]) ⟨by simp,by simp,by simp⟩
 simp only at h1 h2 h3;have hwf:=Oo (m:=4) h3 (by omega);try simp at u1
 try simp at u2
 try simp at e
 by_cases g3:m=3
 ·obtain⟨c4,t,ht,u4⟩:=V7 c3;refine⟨c4,⟨m,p,out,t⟩,by simp only[me];omega,SI,?_⟩;try simp at u4
  rw[au (b:=za) (rs:=_) (n:=1) rfl rfl];simp -implicitDefEqProofs [za,u1,u2,e,u4,eq_true g3,cu,ck,ct]
 ·refine⟨c3,⟨m,p,out,[]⟩,by simp only[me];simp;omega,SI,?_⟩;rw[au (b:=za) (rs:=_) (n:=1) rfl rfl];simp -implicitDefEqProofs [za,u1,u2,e,g3,cu,ck,ct]
def rU(fs:List aK)(n:ag):List aK:=(foldI (λi (g:List aK) b=>if ((i:Nat):Int)=fY (fo fs n) then g else g++[b]) 0 fs [])
def Kz(a:Int):∀(fs:List aK) (i:Nat) (g:List aK),wL aP (foldI (λi (g:List aK) b=>if ((i:Nat):Int)=a then g else g++[b]) i fs g)<=wL aP g+wL aP fs/\(foldI (λi (g:List aK) b=>if ((i:Nat):Int)=a then g else g++[b]) i fs g).length<=g.length+fs.length
 |[],i,g=>by simp[foldI,wL]
 |f::fs,i,g=>by
  simp only[foldI];have h:=Kz a fs (i+1) (if ((i:Nat):Int)=a then g else g++[f]);split at h
  ·rename_i hh;rw[ax hh];refine⟨jF h.1 ?_,jF h.2 ?_⟩;·simp only[wL,cw,bn,nk];omega
   ·simp only[cw];omega
  ·rename_i hh;rw[aF hh];refine⟨jF h.1 ?_,jF h.2 ?_⟩;·simp only[wL,cw,bn,nk,eu,jg,zH,gA,jh,zI];omega
   ·simp only[cw,eu,gA];omega
def Ri(fs:List aK)(n:ag):wL aP (rU fs n)<=wL aP fs:=by have:=(Kz (fY (fo fs n)) fs 0 []).1;unfold rU;simp[wL] at this⊢;exact this
def aaA(fs:List aK)(n:ag):(rU fs n).length<=fs.length:=by have:=(Kz (fY (fo fs n)) fs 0 []).2;unfold rU;simpa using this
def XB(fs:List aK)(a:Int)(hb:fs.length<=1000000)(g:List aK)(hinv:g.length<=0):aI (ak (ev LI TT) (aq TT) yx) [(0,.row .af 2 (fs.map aS)),(5,.int .i64 a),(6,.row .own 2 (g.map aS)),(7,.int .i64 0)]=some (.exit 0,[(0,.row .af 2 (fs.map aS)),(5,.int .i64 a),(6,.row .own 2 ((foldI (λi g b=>if ((i:Nat):Int)=a then g else g++[b]) 0 (fs) g).map aS)),(7,.int .i64 (fs).length),(15,.bool false)]):=by
 refine fP (f:=ak (ev LI TT) (aq TT) yx) (fs) (λi (g:List aK)=>[(0,.row .af 2 (fs.map aS)),(5,.int .i64 a),(6,.row .own 2 (g.map aS)),(7,.int .i64 i)]) (λi g b=>if ((i:Nat):Int)=a then g else g++[b]) (λg=>[(0,.row .af 2 (fs.map aS)),(5,.int .i64 a),(6,.row .own 2 (g.map aS)),(7,.int .i64 (fs).length),(15,.bool false)]) (λi (g:List aK)=>g.length<=i) g hinv (λi b g hi hl hinv=>?_) (λi b g hi hinv=>?_) (λg hinv=>?_)
 ·have hw:=aU i (by first|omega|(simp at hl;omega));obtain⟨_,rfl⟩:=aJ.1 hi;have h8:(g.length+1)*32<=140737488355328:=by omega
  by_cases ha:((i:Nat):Int)=a;·subst ha;simp -implicitDefEqProofs [yx,G9,hl,hw]
  simp -implicitDefEqProofs [yx,G9,hl,hw,ha,bJ,h8];all_goals (repeat' split)<;>first|rfl|omega|simp_all<;>omega|skip
 ·split<;>(try simp)<;>omega
 ·simp -implicitDefEqProofs [yx,G9]
def Qt(fs:List aK)(n:ag)(hb:fs.length<=1000000):ev LI TT 126 [.row .af 2 (fs.map aS),.str ⟨n.toArray⟩]=some (.row .own 2 ((rU fs n).map aS),[.dead,.dead]):=by
 rw[au (b:=He) (rs:=[.t 4]) (n:=2) rfl rfl];unfold rU;have u1:=wR fs n (by omega);try simp at u1
 have u2:=XB fs (fY (fo fs n)) hb [] (by simp);try simp at u2
 simp -implicitDefEqProofs [He,u1,u2];all_goals (repeat' split)<;>first|rfl|omega|simp_all<;>omega|skip
end M
set_option maxHeartbeats 8000000
namespace M
open Go
def amo(c:bg):∃(c':bg) (r:bU),bH r<=10000/\bI r.status/\ev LI TT 64 [.ptr .own (aR c)]=some (.agg (ga .own r),[.ptr .own (aR c')]):=by
 obtain⟨c1,⟨m,fs,bd⟩,hq,hm,u1⟩:=V8 c;obtain⟨c3,k,k1,k2,u2⟩:=fL c1 20 (by omega) (by omega);simp only[bH] at hq;simp only at hm;try simp at u1
 by_cases g0:k=0;·subst g0;obtain⟨c4,n,hn,u3⟩:=wm c3 [99,100,599,600,-1] (by simp) (by simp);refine⟨c4,⟨n,fs,bd⟩,by simp only[bH];omega,by unfold bI;simp at hn;simp only;omega,?_⟩;simp at u3;rw[au (b:=pG) (rs:=_) (n:=1) rfl rfl];simp -implicitDefEqProofs [pG,pH,pI,u1,u2,u3,cu,ck,ct]
 by_cases g1:k=1
 ·subst g1;obtain⟨c4,xl,l1,l2,u3⟩:=amn c3;have hwf:=Oo (m:=10) l2 l1;refine⟨c4,⟨m,xl,bd⟩,by simp only[bH];omega,hm,?_⟩;try simp at u3
  rw[au (b:=pG) (rs:=_) (n:=1) rfl rfl];simp -implicitDefEqProofs [pG,pH,pI,u1,u2,u3,cu,ck,ct]
 by_cases g2:k=2
 ·subst g2
  obtain⟨⟨c',YY⟩,hb',e⟩:=qx (xt:=1) (f:=ak (ev LI TT) (aq TT) tD)
   (λ(g:bg×ag)=>[(0,.az 100000 [] 0 0),(2,.ptr .own [.int .i64 0,.row .own 2 [],.str ⟨#[]⟩]),(3,.ptr .own (ga .own ⟨m,fs,g.2⟩)),(100000,.ptr .own (aR g.1))])
   (λg=>3000 - g.2.length) (λg=>g.2.length<=2000)
   (λg=>[(0,.az 100000 [] 0 0),(2,.ptr .own [.int .i64 0,.row .own 2 [],.str ⟨#[]⟩]),(3,.ptr .own (ga .own ⟨m,fs,g.2⟩)),(27,.bool false),(100000,.ptr .own (aR g.1))])
   (λg hg=>by
    obtain⟨c,bd⟩:=g;simp only at hg;obtain⟨c',v,v0,v1,e1⟩:=fL c 2 (by omega) (by omega);have hw:IntKind.i64.wrap (120+v)=120+v:=bO (by omega) (by omega);by_cases h:(bd.length:Int)<120+v
    ·right;have hx:bd.length+1<=9223372036854775807:=by omega
     have hs:(⟨bd.toArray⟩:ByteArray)++⟨#[98]⟩=⟨(bd++[98]).toArray⟩:=by rw[show (⟨#[98]⟩:ByteArray)=⟨([98]:ag).toArray⟩ from rfl,eX]
     refine⟨(c',bd++[98]),by simp;omega,by simp;omega,?_⟩;simp -implicitDefEqProofs [tD,Dd,pH,pI,e1,h,hw,hx,hs]
    ·left;refine⟨(c',bd),hg,?_⟩;simp -implicitDefEqProofs [tD,Dd,pH,pI,e1,h,hw])
   (c3,bd) (by simp only;omega)
  have hst:ak (ev LI TT) (aq TT) tD [(0,.az 100000 [] 0 0),(2,.ptr .own [.int .i64 0,.row .own 2 [],.str ⟨#[]⟩]),(3,.ptr .own (ga .own ⟨m,fs,bd⟩)),(19,.bool true),(100000,.ptr .own (aR c3))]=ak (ev LI TT) (aq TT) tD [(0,.az 100000 [] 0 0),(2,.ptr .own [.int .i64 0,.row .own 2 [],.str ⟨#[]⟩]),(3,.ptr .own (ga .own ⟨m,fs,bd⟩)),(100000,.ptr .own (aR c3))]:=by
   obtain⟨c',v,v0,v1,e1⟩:=fL c3 2 (by omega) (by omega);have hw:IntKind.i64.wrap (120+v)=120+v:=bO (by omega) (by omega);by_cases h:(bd.length:Int)<120+v
   ·have hx:bd.length+1<=9223372036854775807:=by omega
    simp -implicitDefEqProofs [tD,Dd,pH,pI,e1,h,hw,hx]
   ·simp -implicitDefEqProofs [tD,Dd,pH,pI,e1,h,hw]
  have uQ:=TM hst;rw[e] at uQ;simp only at hb';try simp at uQ
  refine⟨c',⟨m,fs,YY⟩,by simp only[bH];omega,hm,?_⟩;rw[au (b:=pG) (rs:=_) (n:=1) rfl rfl];simp -implicitDefEqProofs [pG,pH,pI,u1,u2,uQ,cu,ck,ct]
 ·refine⟨c3,⟨m,fs,bd⟩,by simp only[bH];omega,hm,?_⟩;rw[au (b:=pG) (rs:=_) (n:=1) rfl rfl];simp -implicitDefEqProofs [pG,pH,pI,u1,u2,g0,g1,g2,cu,ck,ct]
end M
namespace M
open Go
def XM(s:Sh)(hb:aZ s<=1073741824):aI (ak (ev LI TT) (aq TT) CJ) [(1,.ptr .own (aG .af s)),(3,.int .i64 0)]=if bq dn (s.ay)=true then some (.exit 0,[(1,.ptr .own (aG .af s)),(3,.int .i64 (s.ay).length),(33,.bool false)]) else some (.ret,[(2,.bool false)]):=by
 refine gJ (f:=ak (ev LI TT) (aq TT) CJ) (s.ay) (λi=>[(1,.ptr .own (aG .af s)),(3,.int .i64 i)]) dn _ _ (λi b hi hl=>?_) ?_
 ·have hw:=aU i (by have dc:aZ s=bC s.aD+wL aX s.ai+wL aO s.ay:=rfl;have:=bh (w:=aO) s.ay;omega);obtain⟨_,rfl⟩:=aJ.1 hi;have dc:aZ s=bC s.aD+wL aX s.ai+wL aO s.ay:=rfl;have hm:=IZ (cq hl);have u1:=Es s.ay[i] (by omega);try simp at u1
  simp -implicitDefEqProofs [CJ,Nq,hl,hw,u1];all_goals (repeat' split)<;>first|rfl|omega|simp_all<;>omega|skip
 ·simp -implicitDefEqProofs [CJ,Nq]
def XO(s:Sh)(n:Nat)(k:Kp)(hn:n<=s.ai.length)(hb:s.ai.length<=1073741824):aI (ak (ev LI TT) (aq TT) CK) [(1,.ptr .own (aG .af s)),(4,.int .i64 n),(5,.ptr .own (aj .af k)),(6,.int .i64 0)]=if bq (λy=>decide ¬y.at_=k.at_) (s.ai.take n)=true then some (.exit 4,[(1,.ptr .own (aG .af s)),(4,.int .i64 n),(5,.ptr .own (aj .af k)),(6,.int .i64 (s.ai.take n).length),(92,.bool false)]) else some (.ret,[(2,.bool false)]):=by
 refine gJ (f:=ak (ev LI TT) (aq TT) CK) (s.ai.take n) (λi=>[(1,.ptr .own (aG .af s)),(4,.int .i64 n),(5,.ptr .own (aj .af k)),(6,.int .i64 i)]) (λy=>decide ¬y.at_=k.at_) _ _ (λi b hi hl=>?_) ?_
 ·have hw:=aU i (by first|omega|(simp at hl;omega));obtain⟨_,rfl⟩:=aJ.1 hi;have h1:i<n:=by simp at hl;omega
  have h2:i<s.ai.length:=by omega
  simp -implicitDefEqProofs [CK,Nr,hl,hw,h1,h2];all_goals (repeat' split)<;>first|rfl|omega|simp_all<;>omega|skip
 ·have hmin:min n s.ai.length=n:=by omega
  simp -implicitDefEqProofs [CK,Nr,hmin]
def XP(s:Sh)(hb:aZ s<=1073741824)(hs:1<=s.seq/\s.seq<=100000):aI (ak (ev LI TT) (aq TT) nh) [(1,.ptr .own (aG .af s)),(4,.int .i64 0)]=if bq (lS s.seq s.ai) (s.ai.zipIdx)=true then some (.exit 2,[(1,.ptr .own (aG .af s)),(4,.int .i64 (s.ai.zipIdx).length),(47,.bool false)]) else some (.ret,[(2,.bool false)]):=by
 refine gJ (f:=ak (ev LI TT) (aq TT) nh) (s.ai.zipIdx) (λi=>[(1,.ptr .own (aG .af s)),(4,.int .i64 i)]) (lS s.seq s.ai) _ _ (λi b hi hl=>?_) ?_
 ·have hw:=aU i (by have dc:aZ s=bC s.aD+wL aX s.ai+wL aO s.ay:=rfl;have:=bh (w:=aX) s.ai;simp at hl;omega);obtain⟨_,rfl⟩:=aJ.1 hi;simp only[Je] at hl;have dc:aZ s=bC s.aD+wL aX s.ai+wL aO s.ay:=rfl;have hlen:=bh (w:=aX) s.ai;have hz:s.ai.zipIdx[i]'(by simpa using hl)=(s.ai[i],i):=by simp
  have hm:=qY (cq hl);have hS:IntKind.i64.wrap (s.seq - 1)=s.seq - 1:=bO (by omega) (by omega);rw[hz];have hmin:min i s.ai.length=i:=by omega
  have u1:=Ah s.ai[i].obj (by omega);try simp at u1
  have u2:=XO s i s.ai[i] (by omega) (by omega);try simp at u2
  by_cases g1:dw (s.ai[i]).obj=true;rotate_left;·simp -implicitDefEqProofs [nh,pn,hl,hw,u1,u2,lS,hS,hmin,g1]
  by_cases g2:5<=(s.ai[i]).at_;rotate_left;·simp -implicitDefEqProofs [nh,pn,hl,hw,u1,u2,lS,hS,hmin,g1,eq_false g2]
  by_cases g3:(s.ai[i]).at_<=19;rotate_left;·simp -implicitDefEqProofs [nh,pn,hl,hw,u1,u2,lS,hS,hmin,g1,eq_true g2,eq_false g3]
  by_cases g4:1<=(s.ai[i]).seq;rotate_left;·simp -implicitDefEqProofs [nh,pn,hl,hw,u1,u2,lS,hS,hmin,g1,eq_true g2,eq_true g3,eq_false g4]
  by_cases g5:(s.ai[i]).seq<=s.seq - 1;rotate_left;·simp -implicitDefEqProofs [nh,pn,hl,hw,u1,u2,lS,hS,hmin,g1,eq_true g2,eq_true g3,eq_true g4,eq_false g5]
  by_cases g6:i=0
  ·subst g6;try simp at u2 hw
   simp -implicitDefEqProofs [nh,pn,hl,hw,u1,u2,lS,hS,hmin,g1,eq_true g2,eq_true g3,eq_true g4,eq_true g5]
  obtain⟨j,rfl⟩:∃j,i=j+1:=⟨i - 1,by omega⟩;have hj:j<s.ai.length:=by omega
  have hJ:IntKind.i64.wrap (j:Int)=j:=bO (by omega) (by omega);have hp:=Cj s.ai j hj;try simp at u2 hw hS
  have hpos:(0:Int)<(j:Int)+1:=by omega
  have hlc:(j:Int)+1<s.ai.length:=by omega
  have jt:(0:Int)<=(j:Int)+1:=by omega
  by_cases g7:(s.ai[j]).seq<(s.ai[j+1]).seq;rotate_left
  ·have KV:(s.ai[j+1]).seq<=(s.ai[j]).seq:=by omega
   simp -implicitDefEqProofs [nh,pn,hl,hw,u1,u2,lS,hS,hmin,g1,eq_true g2,eq_true g3,eq_true g4,eq_true g5,hj,hJ,hp,hpos,hlc,jt,eq_false g7,eq_true KV]
  have KV:¬(s.ai[j+1]).seq<=(s.ai[j]).seq:=by omega
  simp -implicitDefEqProofs [nh,pn,hl,hw,u1,u2,lS,hS,hmin,g1,eq_true g2,eq_true g3,eq_true g4,eq_true g5,hj,hJ,hp,hpos,hlc,jt,eq_true g7,eq_false KV];all_goals (repeat' split)<;>first|rfl|omega|simp_all<;>omega|skip
 ·simp -implicitDefEqProofs [nh,pn]
def Eu(s:Sh)(hb:aZ s<=1073741824):ev LI TT 11 [.agg (aG .af s)]=some (.bool ((cG s)),[.dead]):=by
 rw[au (b:=pq) (rs:=[.t 2]) (n:=1) rfl rfl];have dc:aZ s=bC s.aD+wL aX s.ai+wL aO s.ay:=rfl;have Bb:bC s.aD=wL wS s.aD.cells+wL cY s.aD.pending:=rfl;have hlen:=bh (w:=cY) s.aD.pending;unfold cG;have u1:=uh s.aD (by omega);try simp at u1
 have u2:=XM s hb;try simp at u2
 by_cases g1:cg s.aD=true;rotate_left;·simp -implicitDefEqProofs [pq,u1,u2,g1]
 by_cases g2:(s.ay.length:Int)<=5;rotate_left;·simp -implicitDefEqProofs [pq,u1,u2,g1,eq_false g2]
 by_cases g3:5<=s.next
 rotate_left;·simp -implicitDefEqProofs [pq,u1,u2,g1,eq_true g2,eq_false g3]
 by_cases g4:s.next<=19
 rotate_left;·simp -implicitDefEqProofs [pq,u1,u2,g1,eq_true g2,eq_true g3,eq_false g4]
 by_cases g5:1<=s.seq;rotate_left;·simp -implicitDefEqProofs [pq,u1,u2,g1,eq_true g2,eq_true g3,eq_true g4,eq_false g5]
 by_cases g6:s.seq<=100000;rotate_left;·simp -implicitDefEqProofs [pq,u1,u2,g1,eq_true g2,eq_true g3,eq_true g4,eq_true g5,eq_false g6]
 have u3:=XP s hb ⟨by omega,by omega⟩;rw[afJ] at u3;simp at u3;have ke:¬5<(s.ay.length:Int):=by omega
 simp -implicitDefEqProofs [pq,u1,u2,g1,eq_true g2,eq_true g3,eq_true g4,eq_true g5,eq_true g6,u3,ke];all_goals (repeat' split)<;>first|rfl|omega|simp_all<;>omega|skip
end M
namespace M
open Go
def Zs(x k:Kp):ev LI TT 97 [.agg (aj .af x),.ptr .af (aj .af k)]=some (.bool (decide (x.at_=k.at_)),[.dead,.dead]):=by rw[au (b:=FU) (rs:=[.t 3]) (n:=2) rfl rfl];simp -implicitDefEqProofs [FU];all_goals (repeat' split)<;>first|rfl|omega|simp_all<;>omega|skip
def Yf(l:List Kp)(k:Kp)(gf:Nat)(p:Kp->Bool)(ho:aq TT gf=true)(hf:∀x∈l,ev LI TT gf [.agg (aj .af x),.ptr .af (aj .af k)]=some (.bool (p x),[.dead,.dead]))(hb:l.length<=9223372036854775807):aI (ak (ev LI TT) (aq TT) mh) [(0,.row .af 9 (l.map (aj .af))),(1,.fn gf [.ptr .af (aj .af k)]),(7,.int .i64 l.length),(8,.int .i64 0)]=(cL p 0 (l)).elim (some (.exit 0,[(0,.row .af 9 (l.map (aj .af))),(1,.fn gf [.ptr .af (aj .af k)]),(7,.int .i64 l.length),(8,.int .i64 (l).length),(9,.bool false)])) λx=>some (.ret,(λ(i:Nat) b=>[(4,.int .i64 i)]) x.1 x.2):=by
 refine vg (f:=ak (ev LI TT) (aq TT) mh) (l) (λi=>[(0,.row .af 9 (l.map (aj .af))),(1,.fn gf [.ptr .af (aj .af k)]),(7,.int .i64 l.length),(8,.int .i64 i)]) p (λ(i:Nat) b=>[(4,.int .i64 i)]) _ (λi b hi hl=>?_) ?_
 ·have hw:=aU i (by first|omega|(simp at hl;omega));obtain⟨_,rfl⟩:=aJ.1 hi;have u1:=hf l[i] (cq hl);try simp at u1
  simp -implicitDefEqProofs [mh,wq,hl,hw,u1,ho,mN];all_goals (repeat' split)<;>first|rfl|omega|simp_all<;>omega|skip
 ·simp -implicitDefEqProofs [mh,wq]
def Z6(l:List Kp)(k:Kp)(gf:Nat)(p:Kp->Bool)(ho:aq TT gf=true)(hf:∀x∈l,ev LI TT gf [.agg (aj .af x),.ptr .af (aj .af k)]=some (.bool (p x),[.dead,.dead]))(hb:l.length<=9223372036854775807):ev LI TT 132 [.row .af 9 (l.map (aj .af)),.fn gf [.ptr .af (aj .af k)]]=some (.int .i64 ((cL p 0 l).elim (-1) λx=>(x.1:Int)),[.dead,.dead]):=by
 rw[au (b:=og) (rs:=[.t 4]) (n:=2) rfl rfl];have u1:=Yf l k gf p ho hf hb;try simp at u1
 cases g:cL p 0 l with
 |none=>rw[g] at u1;simp at u1;simp -implicitDefEqProofs [og,u1]
 |some x=>
 rw[g] at u1;simp at u1;simp -implicitDefEqProofs [og,u1];all_goals (repeat' split)<;>first|rfl|omega|simp_all<;>omega|skip
def QM(l:List Kp)(k:Kp)(gf:Nat)(p:Kp->Bool)(ho:aq TT gf=true)(hf:∀x∈l,ev LI TT gf [.agg (aj .af x),.ptr .af (aj .af k)]=some (.bool (p x),[.dead,.dead]))(hb:l.length<=9223372036854775807):ev LI TT 96 [.row .af 9 (l.map (aj .af)),.fn gf [.ptr .af (aj .af k)]]=some (.bool (!bq (λx=> !p x) l),[.dead,.dead]):=by
 rw[au (b:=DC) (rs:=[.t 4]) (n:=2) rfl rfl];have u1:=Z6 l k gf p ho hf hb;try simp at u1
 rw[<-RN p l 0];cases g:cL p 0 l with
 |none=>rw[g] at u1;simp at u1;simp -implicitDefEqProofs [DC,u1]
 |some x=>
 rw[g] at u1;simp at u1;simp -implicitDefEqProofs [DC,u1];all_goals (repeat' split)<;>first|rfl|omega|simp_all<;>omega|skip
def Xu(s:Sh)(hb:aZ s<=1073741824):∃sl,aI (ak (ev LI TT) (aq TT) nK) [(0,.ptr .af (aG .af s)),(3,.int .i64 0),(7,.ptr .af (aG .af s)),(8,.ptr .af (aG .af s)),(9,.ptr .af ((aG .af s).drop 2)),(10,.row .af 9 (s.ai.map (aj .af))),(11,.int .i64 s.ai.length),(12,.int .i64 0)]=if oT s.seq s.ai=true then some (.exit 0,sl) else some (.ret,[(2,.bool false)]):=by
 have dc:aZ s=bC s.aD+wL aX s.ai+wL aO s.ay:=rfl;have hlen:=bh (w:=aX) s.ai;refine⟨_,gJ (f:=ak (ev LI TT) (aq TT) nK) s.ai.zipIdx (λi=>[(0,.ptr .af (aG .af s)),(3,.int .i64 (kD s.ai i)),(7,.ptr .af (aG .af s)),(8,.ptr .af (aG .af s)),(9,.ptr .af ((aG .af s).drop 2)),(10,.row .af 9 (s.ai.map (aj .af))),(11,.int .i64 s.ai.length),(12,.int .i64 i)]) (oL s.seq s.ai) [(2,.bool false)] [(0,.ptr .af (aG .af s)),(3,.int .i64 (kD s.ai s.ai.length)),(7,.ptr .af (aG .af s)),(8,.ptr .af (aG .af s)),(9,.ptr .af ((aG .af s).drop 2)),(10,.row .af 9 (s.ai.map (aj .af))),(11,.int .i64 s.ai.length),(12,.int .i64 s.ai.length),(13,.bool false)] (λi b hi hl=>?_) ?_⟩
 ·simp only[Je] at hl;have hw:=aU i (by omega);obtain⟨_,rfl⟩:=aJ.1 hi;have hz:s.ai.zipIdx[i]'(by simpa using hl)=(s.ai[i],i):=by simp
  have hm:=qY (cq hl);have hp:=Cj s.ai i hl;rw[hz];have hs:eC []=true:=rfl;have u1:=Ep s.ai[i].obj (by omega);have u2:=QM (s.ai.take i) s.ai[i] 97 (λx=>decide (x.at_=(s.ai[i]).at_)) rfl (λx _=>Zs x s.ai[i]) (by simp;omega);have hle:(i:Int)<=s.ai.length:=by omega
  have hle2:i<=s.ai.length:=by omega
  simp at u1 u2;unfold oL;by_cases g1:dw (s.ai[i]).obj=true;rotate_left;·simp -implicitDefEqProofs [nK,qv,hl,hw,hle,hle2,jz,gj,fT,u1,u2,g1]
  by_cases g2:5<=(s.ai[i]).at_;rotate_left;·simp -implicitDefEqProofs [nK,qv,hl,hw,hle,hle2,jz,gj,fT,u1,u2,g1,eq_false g2]
  by_cases g3:(s.ai[i]).at_<=19;rotate_left;·simp -implicitDefEqProofs [nK,qv,hl,hw,hle,hle2,jz,gj,fT,u1,u2,g1,eq_true g2,eq_false g3]
  by_cases g4:bq (λy:Kp=> !decide (y.at_=(s.ai[i]).at_)) (s.ai.take i)=true;rotate_left;·simp -implicitDefEqProofs [nK,qv,hl,hw,hle,hle2,jz,gj,fT,u1,u2,g1,eq_true g2,eq_true g3,g4]
  by_cases g5:kD s.ai i<(s.ai[i]).seq;rotate_left
  ·have Fb:(s.ai[i]).seq<=kD s.ai i:=by omega
   simp -implicitDefEqProofs [nK,qv,hl,hw,hle,hle2,jz,gj,fT,u1,u2,g1,eq_true g2,eq_true g3,g4,eq_false g5,eq_true Fb]
  have Fb:¬(s.ai[i]).seq<=kD s.ai i:=by omega
  by_cases g6:(s.ai[i]).seq<s.seq;rotate_left
  ·have KU:s.seq<=(s.ai[i]).seq:=by omega
   simp -implicitDefEqProofs [nK,qv,hl,hw,hle,hle2,jz,gj,fT,u1,u2,g1,eq_true g2,eq_true g3,g4,eq_true g5,eq_false Fb,eq_false g6,eq_true KU]
  have KU:¬s.seq<=(s.ai[i]).seq:=by omega
  simp -implicitDefEqProofs [nK,qv,hl,hw,hle,hle2,jz,gj,fT,u1,u2,g1,eq_true g2,eq_true g3,g4,eq_true g5,eq_false Fb,eq_true g6,eq_false KU,hp]
 ·simp -implicitDefEqProofs [nK,qv]
def Zr(s:Sh)(hb:aZ s<=1073741824):ev LI TT 40 [.ptr .af (aG .af s)]=some (.bool (oT s.seq s.ai),[.dead]):=by rw[au (b:=FV) (rs:=[.t 2]) (n:=1) rfl rfl];obtain⟨sl,u1⟩:=Xu s hb;simp at u1;simp -implicitDefEqProofs [FV,u1];all_goals (repeat' split)<;>first|rfl|omega|simp_all<;>omega|skip
def Xi(s:Sh)(hb:aZ s<=1073741824):aI (ak (ev LI TT) (aq TT) BC) [(1,.ptr .own (aG .af s)),(5,.az 1 [] 0 3),(6,.row .af 4 (s.ay.map aY)),(7,.int .i64 s.ay.length),(8,.int .i64 0)]=if bq dn (s.ay)=true then some (.exit 0,[(1,.ptr .own (aG .af s)),(5,.az 1 [] 0 3),(6,.row .af 4 (s.ay.map aY)),(7,.int .i64 s.ay.length),(8,.int .i64 (s.ay).length),(9,.bool false)]) else some (.ret,[(2,.bool false)]):=by
 refine gJ (f:=ak (ev LI TT) (aq TT) BC) (s.ay) (λi=>[(1,.ptr .own (aG .af s)),(5,.az 1 [] 0 3),(6,.row .af 4 (s.ay.map aY)),(7,.int .i64 s.ay.length),(8,.int .i64 i)]) dn _ _ (λi b hi hl=>?_) ?_
 ·have hw:=aU i (by have dc:aZ s=bC s.aD+wL aX s.ai+wL aO s.ay:=rfl;have:=bh (w:=aO) s.ay;omega);obtain⟨_,rfl⟩:=aJ.1 hi;have dc:aZ s=bC s.aD+wL aX s.ai+wL aO s.ay:=rfl;have hm:=IZ (cq hl);have u1:=En s.ay[i] (by omega);try simp at u1
  simp -implicitDefEqProofs [BC,LL,hl,hw,u1];all_goals (repeat' split)<;>first|rfl|omega|simp_all<;>omega|skip
 ·simp -implicitDefEqProofs [BC,LL]
def rK(s:Sh)(hb:aZ s<=1073741824):ev LI TT 10 [.agg (aG .af s)]=some (.bool ((cG s)),[.dead]):=by
 rw[au (b:=nJ) (rs:=[.t 2]) (n:=1) rfl rfl];have dc:aZ s=bC s.aD+wL aX s.ai+wL aO s.ay:=rfl;have Bb:bC s.aD=wL wS s.aD.cells+wL cY s.aD.pending:=rfl;have hlen:=bh (w:=cY) s.aD.pending;unfold cG;have u1:=JX s.aD (by omega);try simp at u1
 have u2:=Xi s hb;try simp at u2
 have u3:=Zr s hb;try simp at u3
 by_cases g1:bq dn s.ay=true;rotate_left;·simp -implicitDefEqProofs [nJ,u1,u2,u3,g1]
 by_cases g2:(s.ay.length:Int)<=5;rotate_left;·simp -implicitDefEqProofs [nJ,u1,u2,u3,g1,eq_false g2]
 by_cases g3:5<=s.next
 rotate_left;·simp -implicitDefEqProofs [nJ,u1,u2,u3,g1,eq_true g2,eq_false g3]
 by_cases g4:s.next<=19
 rotate_left;·simp -implicitDefEqProofs [nJ,u1,u2,u3,g1,eq_true g2,eq_true g3,eq_false g4]
 by_cases g5:1<=s.seq;rotate_left;·simp -implicitDefEqProofs [nJ,u1,u2,u3,g1,eq_true g2,eq_true g3,eq_true g4,eq_false g5]
 by_cases g6:s.seq<=100000;rotate_left;·simp -implicitDefEqProofs [nJ,u1,u2,u3,g1,eq_true g2,eq_true g3,eq_true g4,eq_true g5,eq_false g6]
 by_cases g7:cg s.aD=true;rotate_left;·simp -implicitDefEqProofs [nJ,u1,u2,u3,g1,eq_true g2,eq_true g3,eq_true g4,eq_true g5,eq_true g6,g7]
 simp -implicitDefEqProofs [nJ,u1,u2,u3,g1,eq_true g2,eq_true g3,eq_true g4,eq_true g5,eq_true g6,g7];all_goals (repeat' split)<;>first|rfl|omega|simp_all<;>omega|skip
end M
set_option maxHeartbeats 4000000
namespace M
open Go
def KH(l:List aK):(jo l).length<=4*wL aP l:=by
 unfold jo;induction l with
 |nil=>simp[wL]
 |cons f l ih=>simp only[jV,eu,wL,cw,bn,nk,rY,aP,gA] at*;omega
def afT:(⟨#[58,32]⟩:ByteArray)=⟨colon.toArray⟩:=rfl
def Mj:(⟨#[13,10]⟩:ByteArray)=⟨crlf.toArray⟩:=rfl
def afW:(⟨#[13,10,13,10]⟩:ByteArray)=⟨bx.toArray⟩:=rfl
def TK:(⟨#[72,84,84,80,47,49,46,49,32]⟩:ByteArray)=⟨(oR++[32]).toArray⟩:=rfl
def afU:(⟨#[32,46]⟩:ByteArray)=⟨([32,46]:ag).toArray⟩:=rfl
def afV:(⟨#[32,46,13,10]⟩:ByteArray)=⟨([32,46]++crlf:ag).toArray⟩:=rfl
def TH:(⟨#[99,111,110,116,101,110,116,45,108,101,110,103,116,104,58,32]⟩:ByteArray)=⟨(dK++colon).toArray⟩:=rfl
def TI:(⟨#[111,98,106,32]⟩:ByteArray)=⟨(mS++[32]).toArray⟩:=rfl
def TJ:(⟨#[32]⟩:ByteArray)=⟨([32]:ag).toArray⟩:=rfl
def Gx:(⟨#[10]⟩:ByteArray)=⟨([10]:ag).toArray⟩:=rfl
def BV:colon.length=2:=rfl
def BW:crlf.length=2:=rfl
def TL:bx.length=4:=rfl
def Mk:oR.length=8:=rfl
def Gy:dK.length=14:=rfl
def BX:mS.length=3:=rfl
def XD(fs:List aK)(hb:wL aP fs<=1073741824)(g:ag)(hinv:g.length<=4*(wL aP (fs.take 0))):aI (ak (ev LI TT) (aq TT) Cv) [(0,.row .af 2 (fs.map aS)),(3,.str ⟨(g).toArray⟩),(4,.int .i64 0)]=some (.exit 0,[(0,.row .af 2 (fs.map aS)),(3,.str ⟨((foldI (λ_ g f=>g++rY f) 0 (fs) g)).toArray⟩),(4,.int .i64 (fs).length),(8,.bool false)]):=by
 refine fP (f:=ak (ev LI TT) (aq TT) Cv) (fs) (λi (g:ag)=>[(0,.row .af 2 (fs.map aS)),(3,.str ⟨(g).toArray⟩),(4,.int .i64 i)]) (λ_ g f=>g++rY f) (λg=>[(0,.row .af 2 (fs.map aS)),(3,.str ⟨(g).toArray⟩),(4,.int .i64 (fs).length),(8,.bool false)]) (λi (g:ag)=>g.length<=4*(wL aP (fs.take i))) g hinv (λi b g hi hl hinv=>?_) (λi b g hi hinv=>?_) (λg hinv=>?_)
 ·have hw:=aU i (by have:=bh (w:=aP) fs;omega);obtain⟨_,rfl⟩:=aJ.1 hi;have hm:=I0 (cq hl);have ht:=Oq aP fs i;have q1:g.length+(fs[i]).name.length<=9223372036854775807:=by omega
  have q2:g.length+((fs[i]).name.length+2)<=9223372036854775807:=by omega
  have q3:g.length+((fs[i]).name.length+(2+(fs[i]).value.length))<=9223372036854775807:=by omega
  simp -implicitDefEqProofs [Cv,Nj,hl,hw,afT,Mj,eX,BV,BW,rY];exact⟨by omega,by omega,by omega,by omega,by simp[colon,crlf]⟩
 ·obtain⟨hl,rfl⟩:=aJ.1 hi;rw[pQ hl];simp only[wL,eu,jg,zH,cw,gA,bn,jh,nk,zI,rY,aP] at*;omega
 ·simp -implicitDefEqProofs [Cv,Nj]
def E7{β:Type}(f:β->ag):∀(l:List β) (i:Nat) (g:ag),foldI (λ_ g b=>g++f b) i l g=g++l.flatMap f
 |[],_,g=>by simp[foldI]
 |b::l,i,g=>by rw[foldI,E7 f l];simp
def ZI(fs:List aK)(hb:wL aP fs<=1073741824):ev LI TT 134 [.row .af 2 (fs.map aS)]=some (.str ⟨(jo fs).toArray⟩,[.dead]):=by
 rw[au (b:=Hg) (rs:=[.t 2]) (n:=1) rfl rfl];have u1:=XD fs hb [] (by simp);try simp at u1
 rw[E7,kI,show fs.flatMap (λf=>rY f)=jo fs from rfl] at u1;simp -implicitDefEqProofs [Hg,u1];all_goals (repeat' split)<;>first|rfl|omega|simp_all<;>omega|skip
structure Yi (r:bU):Prop where
 s0:100<=r.status
 s1:r.status<=599
 f:j9 r.fields=true
 b:r.body.length<=120
 nt:cy r.status=aL r.status.toNat
 nb:cy (r.body.length:Int)=aL r.body.length
 ls:(aL r.status.toNat).length<=7
 lb:(aL r.body.length).length<=7
 Oh:fA r=oR++32::(aL r.status.toNat++32::46::(crlf++(jo r.fields++(dK++(colon++(aL r.body.length++(bx++r.body)))))))
def GV{r:bU}(h:fy r=true):Yi r:=by
 obtain⟨h1,h2,h3⟩:=MT h;refine⟨h1.1,h1.2,h2,h3,?_,?_,oA _ (by omega),oA _ (by omega),?_⟩;·unfold cy;rw[ax (by omega)]
 ·exact GJ _ (by omega)
 ·unfold fA;rw[ax h,UQ];simp[k9,kB,colon]
def QA(r:bU)(hb:bH r<=1073741824):ev LI TT 77 [.agg (ga .af r)]=some (.str ⟨(fA r).toArray⟩,[.dead]):=by
 rw[au (b:=CI) (rs:=[.t 2]) (n:=1) rfl rfl];have hw:bH r=wL aP r.fields+r.body.length:=rfl;have hfl:=KH r.fields;have hft:=ZI r.fields (by omega);have u1:=J9 r hb;try simp at u1
 have u2:=oy r.status;try simp at u2
 have u3:=oy (r.body.length:Int);try simp at u3
 by_cases hok:fy r=true;rotate_left;·have e:fA r=[]:=(MX r).2 hok;rw[show fy r=false by simpa using hok] at u1;simp -implicitDefEqProofs [CI,u1,e]
 rw[hok] at u1;have A:=GV hok;rw[A.nt] at u2;rw[A.nb] at u3;have a1:=A.ls;have a2:=A.lb;have a3:=A.b;try simp at hft
 rw[A.Oh];generalize jo r.fields=T at hft hfl;generalize aL r.status.toNat=D at u2 a1;generalize aL r.body.length=E at u3 a2;simp -implicitDefEqProofs [CI,u1,u2,u3,hft,TK,afV,TH,afW,eX,Mk,BW,Gy,BV,TL];all_goals (try omega)
def Zy(b:ag)(hb:b.length<=1000000):ev LI TT 117 [.str ⟨b.toArray⟩]=some (.str ⟨(dK++(colon++(aL b.length++crlf))).toArray⟩,[.dead]):=by
 rw[au (b:=Gg) (rs:=[.t 2]) (n:=1) rfl rfl];have l7:=oA b.length hb;have u1:=uj b.length (by omega);try simp at u1
 simp -implicitDefEqProofs [Gg,u1,TH,Mj,eX,Gy,BV,BW];all_goals (try omega)
def Qa(r:bU)(hb:bH r<=1073741824):ev LI TT 56 [.agg (ga .af r)]=some (.str ⟨(fA r).toArray⟩,[.dead]):=by
 rw[au (b:=BB) (rs:=[.t 2]) (n:=1) rfl rfl];have hw:bH r=wL aP r.fields+r.body.length:=rfl;have hfl:=KH r.fields;have sy:=bh (w:=aP) r.fields;have hft:=Ze r.fields (by omega) (by omega);have u1:=P9 r hb;try simp at u1
 by_cases hok:fy r=true;rotate_left;·have e:fA r=[]:=(MX r).2 hok;rw[show fy r=false by simpa using hok] at u1;simp -implicitDefEqProofs [BB,u1,e]
 rw[hok] at u1;have A:=GV hok;have a0:=A.s0;have a0':=A.s1;have a1:=A.ls;have a2:=A.lb;have a3:=A.b;have hst:r.status=((r.status.toNat:Nat):Int):=by omega
 have u2:=uj r.status.toNat (by omega);rw[<-hst] at u2;have u3:=Zy r.body (by omega);try simp at hft
 try simp at u2
 try simp at u3
 rw[A.Oh];generalize jo r.fields=T at hft hfl;generalize aL r.status.toNat=D at u2 a1;generalize aL r.body.length=E at u3 a2;simp -implicitDefEqProofs [BB,u1,hft,u2,u3,TK,afU,Mj,eX,Mk,BW,Gy,BV];refine⟨by omega,by omega,by omega,by omega,by omega,by omega,by omega,?_⟩;simp[crlf,bx]
def On(l:List ag):(iJ l).length<=2*wL wS l:=by
 unfold iJ;induction l with
 |nil=>simp[wL]
 |cons v l ih=>simp only[jV,eu,wL,cw,bn,nk,wS,gA] at*;omega
def M3(r:bU):(fA r).length<=4*bH r+60:=by
 by_cases h:fy r=true;·have A:=GV h;have hfl:=KH r.fields;have a1:=A.ls;have a2:=A.lb;rw[A.Oh];have hw:bH r=wL aP r.fields+r.body.length:=rfl;simp[Mk,BW,Gy,BV,TL];omega
 ·rw[(MX r).2 h];simp
def XL(o:Ob)(hb:bG o<=1073741824)(g:ag)(hinv:g.length<=9223372036+2*(wL wS (o.values.take 0))):aI (ak (ev LI TT) (aq TT) CF) [(1,.ptr .own (aW .af o)),(3,.str ⟨(g).toArray⟩),(4,.int .i64 0)]=some (.exit 0,[(1,.ptr .own (aW .af o)),(3,.str ⟨((foldI (λ_ g v=>g++(v++[10])) 0 (o.values) g)).toArray⟩),(4,.int .i64 (o.values).length),(27,.bool false)]):=by
 refine fP (f:=ak (ev LI TT) (aq TT) CF) (o.values) (λi (g:ag)=>[(1,.ptr .own (aW .af o)),(3,.str ⟨(g).toArray⟩),(4,.int .i64 i)]) (λ_ g v=>g++(v++[10])) (λg=>[(1,.ptr .own (aW .af o)),(3,.str ⟨(g).toArray⟩),(4,.int .i64 (o.values).length),(27,.bool false)]) (λi (g:ag)=>g.length<=9223372036+2*(wL wS (o.values.take i))) g hinv (λi b g hi hl hinv=>?_) (λi b g hi hinv=>?_) (λg hinv=>?_);·have hw:=aU i (by have hw:bG o=o.path.length+wL wS o.names+wL wS o.values+bH o.resp:=rfl;have:=bh (w:=wS) o.values;omega);obtain⟨_,rfl⟩:=aJ.1 hi;have hw0:bG o=o.path.length+wL wS o.names+wL wS o.values+bH o.resp:=rfl;have hm:=zy (cq hl);have ht:=Oq wS o.values i;simp -implicitDefEqProofs [CF,Np,hl,hw,Gx,eX];all_goals (try omega)
 ·obtain⟨hl,rfl⟩:=aJ.1 hi;rw[pQ hl];simp only[wL,eu,jg,zH,cw,gA,bn,jh,nk,zI,wS] at*;omega
 ·simp -implicitDefEqProofs [CF,Np]
def Qx(o:Ob)(hb:bG o<=1073741824):ev LI TT 25 [.agg (aW .af o)]=some (.str ⟨(dD o).toArray⟩,[.dead]):=by
 rw[au (b:=CG) (rs:=[.t 2]) (n:=1) rfl rfl];have hw:bG o=o.path.length+wL wS o.names+wL wS o.values+bH o.resp:=rfl;have hrl:=M3 o.resp;have hvl:=On o.values;have hft:=QA o.resp (by omega);have u1:=Ah o (by omega);try simp at u1
 have u2:=oy o.t;try simp at u2
 have u3:=oy (o.values.length:Int);try simp at u3
 by_cases hok:dw o=true;rotate_left;·have e:dD o=[]:=(ME o).2 hok;rw[show dw o=false by simpa using hok] at u1;simp -implicitDefEqProofs [CG,u1,e]
 rw[hok] at u1;have A:=ye hok;have a1:=A.len;have a2:=A.n4;have a3:=mT o.t;have a4:=oA o.values.length (by omega);rw[GJ o.values.length (by omega)] at u3;have et:dD o=mS++32::(o.path++32::(cy o.t++32::(aL o.values.length++10::(iJ o.values++fA o.resp)))):=by unfold dD lV qE fA;rw[ax hok,ax A.resp];simp
 have hlp:=XL o hb (mS++32::(o.path++32::(cy o.t++32::(aL o.values.length++[10])))) (by simp[BX];omega);rw[E7,show o.values.flatMap (λv=>v++[10])=iJ o.values from rfl] at hlp;try simp at hlp
 try simp at hft
 rw[et];generalize fA o.resp=R at hft hrl;generalize aL o.values.length=E at u3 a4 hlp;generalize iJ o.values=V at hvl hlp;simp -implicitDefEqProofs [CG,u1,u2,u3,hft,hlp,TI,TJ,Gx,eX,BX];all_goals (try omega)
def Xh(o:Ob)(hb:bG o<=1073741824)(g:ag)(hinv:g.length<=9223372036+2*(wL wS (o.values.take 0))):aI (ak (ev LI TT) (aq TT) Bz) [(1,.ptr .own (aW .af o)),(3,.str ⟨(g).toArray⟩),(24,.az 1 [] 0 2),(25,.row .af 1 (o.values.map eS)),(26,.int .i64 o.values.length),(27,.int .i64 0)]=some (.exit 0,[(1,.ptr .own (aW .af o)),(3,.str ⟨((foldI (λ_ g v=>g++(v++[10])) 0 (o.values) g)).toArray⟩),(24,.az 1 [] 0 2),(25,.row .af 1 (o.values.map eS)),(26,.int .i64 o.values.length),(27,.int .i64 (o.values).length),(28,.bool false)]):=by
 refine fP (f:=ak (ev LI TT) (aq TT) Bz) (o.values) (λi (g:ag)=>[(1,.ptr .own (aW .af o)),(3,.str ⟨(g).toArray⟩),(24,.az 1 [] 0 2),(25,.row .af 1 (o.values.map eS)),(26,.int .i64 o.values.length),(27,.int .i64 i)]) (λ_ g v=>g++(v++[10])) (λg=>[(1,.ptr .own (aW .af o)),(3,.str ⟨(g).toArray⟩),(24,.az 1 [] 0 2),(25,.row .af 1 (o.values.map eS)),(26,.int .i64 o.values.length),(27,.int .i64 (o.values).length),(28,.bool false)]) (λi (g:ag)=>g.length<=9223372036+2*(wL wS (o.values.take i))) g hinv (λi b g hi hl hinv=>?_) (λi b g hi hinv=>?_) (λg hinv=>?_);·have hw:=aU i (by have hw:bG o=o.path.length+wL wS o.names+wL wS o.values+bH o.resp:=rfl;have:=bh (w:=wS) o.values;omega);obtain⟨_,rfl⟩:=aJ.1 hi;have hw0:bG o=o.path.length+wL wS o.names+wL wS o.values+bH o.resp:=rfl;have hm:=zy (cq hl);have ht:=Oq wS o.values i;simp -implicitDefEqProofs [Bz,LK,hl,hw,Gx,eX];all_goals (try omega)
 ·obtain⟨hl,rfl⟩:=aJ.1 hi;rw[pQ hl];simp only[wL,eu,jg,zH,cw,gA,bn,jh,nk,zI,wS] at*;omega
 ·simp -implicitDefEqProofs [Bz,LK]
def J1(o:Ob)(hb:bG o<=1073741824):ev LI TT 18 [.agg (aW .af o)]=some (.str ⟨(dD o).toArray⟩,[.dead]):=by
 rw[au (b:=BA) (rs:=[.t 2]) (n:=1) rfl rfl];have hw:bG o=o.path.length+wL wS o.names+wL wS o.values+bH o.resp:=rfl;have hrl:=M3 o.resp;have hvl:=On o.values;have hvn:=bh (w:=wS) o.values;have hft:=Qa o.resp (by omega);have u1:=Ep o (by omega);try simp at u1
 have u2:=Eo o.t;try simp at u2
 have u3:=uj o.values.length (by omega);try simp at u3
 by_cases hok:dw o=true;rotate_left;·have e:dD o=[]:=(ME o).2 hok;rw[show dw o=false by simpa using hok] at u1;simp -implicitDefEqProofs [BA,u1,e]
 rw[hok] at u1;have A:=ye hok;have a1:=A.len;have a2:=A.n4;have a3:=mT o.t;have a4:=oA o.values.length (by omega);have et:dD o=mS++32::(o.path++32::(cy o.t++32::(aL o.values.length++10::(iJ o.values++fA o.resp)))):=by unfold dD lV qE fA;rw[ax hok,ax A.resp];simp
 have hlp:=Xh o hb (mS++32::(o.path++32::(cy o.t++32::(aL o.values.length++[10])))) (by simp[BX];omega);rw[E7,show o.values.flatMap (λv=>v++[10])=iJ o.values from rfl] at hlp;try simp at hlp
 try simp at hft
 rw[et];generalize fA o.resp=R at hft hrl;generalize aL o.values.length=E at u3 a4 hlp;generalize iJ o.values=V at hvl hlp;simp -implicitDefEqProofs [BA,u1,u2,u3,hft,hlp,TI,TJ,Gx,eX,BX];all_goals (try omega)
end M
set_option maxHeartbeats 4000000
namespace M
open Go
def Sn(fs:List aK)(n v:ag):(decide (dW fs n=some v))=((dW fs n).isSome && decide ((dW fs n).getD []=v)):=by cases dW fs n<;>simp
def ahM(p s:ag):p.isPrefixOf s=(decide (p.length<=s.length) && decide (s.take p.length=p)):=by have:=Lib.hasPrefix_of_take s p;unfold Lib.hasPrefix at this;rw[<-this];congr 1;rw[O0];simp
def ZJ(b:Bn)(o:Ob)(h1:aO b<=1073741824)(h2:bG o<=1073741824):ev LI TT 84 [.agg (aY b),.agg (aW .af o)]=some (.bool (iT b o),[.dead,.dead]):=by
 rw[au (b:=nY) (rs:=[.t 4]) (n:=2) rfl rfl];have hw:aO b=b.a.length+b.b.length:=rfl;have dr:bG o=o.path.length+wL wS o.names+wL wS o.values+bH o.resp:=rfl;have Ba:bH o.resp=wL aP o.resp.fields+o.resp.body.length:=rfl;have l1:=bh (w:=aP) o.resp.fields;unfold iT;rw[Sn,ahM];have u1:=Es b h1;try simp at u1
 have u2:=Ah o (by omega);try simp at u2
 have u3:=Et o.resp.fields b.a (by omega);try simp at u3
 generalize dn b=b1 at u1;cases b1;·simp -implicitDefEqProofs [nY,u1]
 generalize dw o=b2 at u2;cases b2;·simp -implicitDefEqProofs [nY,u1,u2]
 by_cases g1:o.t<=b.t;rotate_left
 ·have dG:b.t<o.t:=by omega
  simp -implicitDefEqProofs [nY,u1,u2,g1,dG]
 have dG:¬b.t<o.t:=by omega
 by_cases g2:b.kind=1;·rw[g2] at u1;simp -implicitDefEqProofs [nY,u1,u2,g1,dG,g2]
 by_cases g3:b.kind=2
 ·rw[g3] at u1;by_cases g4:b.a.length<=o.path.length
  ·have sg:(b.a.length:Int)<=o.path.length:=by omega
   by_cases g5:o.path.take b.a.length=b.a;·simp -implicitDefEqProofs [nY,u1,u2,g1,dG,g2,g3,g4,sg,Lib.extract_mk,eq_true g5]
   ·simp -implicitDefEqProofs [nY,u1,u2,g1,dG,g2,g3,g4,sg,Lib.extract_mk,eq_false g5]
  ·have sg:¬(b.a.length:Int)<=o.path.length:=by omega
   simp -implicitDefEqProofs [nY,u1,u2,g1,dG,g2,g3,g4,sg]
 generalize (dW o.resp.fields b.a).isSome=b3 at u3;cases b3;all_goals
 simp -implicitDefEqProofs [nY,u1,u2,u3,g1,dG,g2,g3];all_goals (repeat' split)<;>first|rfl|omega|simp_all<;>omega|skip
def JY(b:Bn)(o:Ob)(h1:aO b<=1073741824)(h2:bG o<=1073741824):ev LI TT 17 [.agg (aY b),.agg (aW .af o)]=some (.bool (iT b o),[.dead,.dead]):=by
 rw[au (b:=qt) (rs:=[.t 4]) (n:=2) rfl rfl];have hw:aO b=b.a.length+b.b.length:=rfl;have dr:bG o=o.path.length+wL wS o.names+wL wS o.values+bH o.resp:=rfl;have Ba:bH o.resp=wL aP o.resp.fields+o.resp.body.length:=rfl;have l1:=bh (w:=aP) o.resp.fields;unfold iT;rw[Sn,show b.a.isPrefixOf o.path=Lib.hasPrefix o.path b.a from rfl];have u1:=En b h1;try simp at u1
 have u2:=Ep o (by omega);try simp at u2
 have u3:=P7 o.resp.fields b.a (by omega);try simp at u3
 have u4:=aac o.path b.a;try simp at u4
 by_cases g1:o.t<=b.t;rotate_left
 ·have dG:b.t<o.t:=by omega
  simp -implicitDefEqProofs [qt,u1,u2,g1,dG]
 have dG:¬b.t<o.t:=by omega
 generalize dn b=b1 at u1;cases b1;·simp -implicitDefEqProofs [qt,u1,g1,dG]
 generalize dw o=b2 at u2;cases b2;·simp -implicitDefEqProofs [qt,u1,u2,g1,dG]
 by_cases g2:b.kind=1;·rw[g2] at u1;simp -implicitDefEqProofs [qt,u1,u2,g1,dG,g2]
 by_cases g3:b.kind=2;·rw[g3] at u1;simp -implicitDefEqProofs [qt,u1,u2,u4,g1,dG,g2,g3]
 generalize (dW o.resp.fields b.a).isSome=b3 at u3;cases b3;all_goals
 simp -implicitDefEqProofs [qt,u1,u2,u3,u4,g1,dG,g2,g3];all_goals (repeat' split)<;>first|rfl|omega|simp_all<;>omega|skip
def SS(l:List Bn)(o:Ob):bq (λb=> !iT b o) l= !fu l o:=by
 unfold fu bq;induction l with
 |nil=>rfl
 |cons b l ih=>simp only[List.all_cons,List.any_cons,ih,Bool.not_or]
def XE(l:List Bn)(o:Ob)(h1:wL aO l<=1073741824)(h2:bG o<=1073741824):aI (ak (ev LI TT) (aq TT) Cx) [(0,.row .af 4 (l.map aY)),(3,.ptr .own (aW .af o)),(5,.int .i64 0)]=if bq (λb=> !iT b o) (l)=true then some (.exit 0,[(0,.row .af 4 (l.map aY)),(3,.ptr .own (aW .af o)),(5,.int .i64 (l).length),(9,.bool false)]) else some (.ret,[(4,.bool true)]):=by
 refine gJ (f:=ak (ev LI TT) (aq TT) Cx) (l) (λi=>[(0,.row .af 4 (l.map aY)),(3,.ptr .own (aW .af o)),(5,.int .i64 i)]) (λb=> !iT b o) _ _ (λi b hi hl=>?_) ?_
 ·have hw:=aU i (by have:=bh (w:=aO) l;omega);obtain⟨_,rfl⟩:=aJ.1 hi;have hm:=IZ (cq hl);have u1:=ZJ l[i] o (by omega) h2;try simp at u1
  cases hh:iT l[i] o<;>rw[hh] at u1;all_goals
  simp -implicitDefEqProofs [Cx,Nk,hl,hw,u1,hh];all_goals (repeat' split)<;>first|rfl|omega|simp_all<;>omega|skip
 ·simp -implicitDefEqProofs [Cx,Nk]
def J7(l:List Bn)(o:Ob)(h1:wL aO l<=1073741824)(h2:bG o<=1073741824):ev LI TT 27 [.row .af 4 (l.map aY),.agg (aW .af o)]=some (.bool (fu l o),[.dead,.dead]):=by
 rw[au (b:=Hi) (rs:=[.t 4]) (n:=2) rfl rfl];have u1:=XE l o h1 h2;try simp at u1
 rw[SS] at u1;cases hh:fu l o<;>rw[hh] at u1;all_goals try simp at u1
 all_goals
 simp -implicitDefEqProofs [Hi,u1];all_goals (repeat' split)<;>first|rfl|omega|simp_all<;>omega|skip
def Xe(l:List Bn)(o:Ob)(h1:wL aO l<=1073741824)(h2:bG o<=1073741824):aI (ak (ev LI TT) (aq TT) Bq) [(0,.row .af 4 (l.map aY)),(3,.ptr .own (aW .af o)),(7,.row .af 4 (l.map aY)),(8,.int .i64 l.length),(9,.int .i64 0)]=if bq (λb=> !iT b o) (l)=true then some (.exit 0,[(0,.row .af 4 (l.map aY)),(3,.ptr .own (aW .af o)),(7,.row .af 4 (l.map aY)),(8,.int .i64 l.length),(9,.int .i64 (l).length),(10,.bool false)]) else some (.ret,[(4,.bool true)]):=by
 refine gJ (f:=ak (ev LI TT) (aq TT) Bq) (l) (λi=>[(0,.row .af 4 (l.map aY)),(3,.ptr .own (aW .af o)),(7,.row .af 4 (l.map aY)),(8,.int .i64 l.length),(9,.int .i64 i)]) (λb=> !iT b o) _ _ (λi b hi hl=>?_) ?_
 ·have hw:=aU i (by have:=bh (w:=aO) l;omega);obtain⟨_,rfl⟩:=aJ.1 hi;have hm:=IZ (cq hl);have u1:=JY l[i] o (by omega) h2;try simp at u1
  cases hh:iT l[i] o<;>rw[hh] at u1;all_goals
  simp -implicitDefEqProofs [Bq,LG,hl,hw,u1,hh];all_goals (repeat' split)<;>first|rfl|omega|simp_all<;>omega|skip
 ·simp -implicitDefEqProofs [Bq,LG]
def JZ(l:List Bn)(o:Ob)(h1:wL aO l<=1073741824)(h2:bG o<=1073741824):ev LI TT 68 [.row .af 4 (l.map aY),.agg (aW .af o)]=some (.bool (fu l o),[.dead,.dead]):=by
 rw[au (b:=FM) (rs:=[.t 4]) (n:=2) rfl rfl];have u1:=Xe l o h1 h2;try simp at u1
 rw[SS] at u1;cases hh:fu l o<;>rw[hh] at u1;all_goals try simp at u1
 all_goals
 simp -implicitDefEqProofs [FM,u1];all_goals (repeat' split)<;>first|rfl|omega|simp_all<;>omega|skip
end M
namespace M
open Go
def wk(fs:List aK)(n:ag):ag:=(dW fs n).getD [45]
def valuesOf(ns:List ag)(fs:List aK):List ag:=ns.map (wk fs)
def al9(ns:List ag)(fs:List aK):(valuesOf ns fs).length=ns.length:=by simp[valuesOf]
def XX(ns:List ag)(fs:List aK)(hb:ns.length<=1073741824)(hf:fs.length<=9223372036854775807):aI (ak (ev LI TT) (aq TT) CQ) [(0,.row .af 1 (ns.map eS)),(1,.row .af 2 (fs.map aS)),(5,.row .own 1 (([]).map eS)),(6,.int .i64 0)]=some (.exit 0,[(0,.row .af 1 (ns.map eS)),(1,.row .af 2 (fs.map aS)),(5,.row .own 1 ((((ns).flatMap (λn=>[wk fs n]))).map eS)),(6,.int .i64 (ns).length),(13,.bool false)]):=by
 refine oO (f:=ak (ev LI TT) (aq TT) CQ) (ns) (λn=>[wk fs n]) (λi out=>[(0,.row .af 1 (ns.map eS)),(1,.row .af 2 (fs.map aS)),(5,.row .own 1 ((out).map eS)),(6,.int .i64 i)]) (λout=>[(0,.row .af 1 (ns.map eS)),(1,.row .af 2 (fs.map aS)),(5,.row .own 1 ((out).map eS)),(6,.int .i64 (ns).length),(13,.bool false)]) (λi b out hi hl hout=>?_) (λout hout=>?_)
 ·have hw:=aU i (by first|omega|(simp at hl;omega));obtain⟨_,rfl⟩:=aJ.1 hi;have h:=Et fs ns[i] hf;have hlo:out.length=i:=by rw[hout];exact xj _ _ _ (by omega)
  have hlz:(i+1)*16<=140737488355328:=by omega
  unfold wk;cases g:dW fs ns[i]<;>rw[g] at h;all_goals
  simp -implicitDefEqProofs [CQ,Nx,hl,hw,h,hlo,hlz,bJ]
 ·simp -implicitDefEqProofs [CQ,Nx]
def ZR(ns:List ag)(fs:List aK)(hb:ns.length<=1073741824)(hf:fs.length<=9223372036854775807):ev LI TT 171 [.row .af 1 (ns.map eS),.row .af 2 (fs.map aS)]=some (.row .own 1 ((valuesOf ns fs).map eS),[.dead,.dead]):=by
 rw[au (b:=Hy) (rs:=[.t 4]) (n:=2) rfl rfl];have u1:=XX ns fs hb hf;try simp at u1
 rw[AD,show ns.map (λn=>wk fs n)=valuesOf ns fs from rfl] at u1;simp -implicitDefEqProofs [Hy,u1];all_goals (repeat' split)<;>first|rfl|omega|simp_all<;>omega|skip
end M
set_option maxHeartbeats 4000000
namespace M
open Go
def Ew(o:Ob)(hb:bG o<=1073741824):ev LI TT 30 [.agg (aW .af o)]=some (.agg (aW .own o),[.dead]):=by
 rw[au (b:=HA) (rs:=[.c 2 7 true 36]) (n:=1) rfl rfl];have hw:bG o=o.path.length+wL wS o.names+wL wS o.values+bH o.resp:=rfl;have dr:bH o.resp=wL aP o.resp.fields+o.resp.body.length:=rfl;have l1:=bh (w:=aP) o.resp.fields;have l2:=bh (w:=wS) o.names;have l3:=bh (w:=wS) o.values;have u1:=QK o.resp (by omega);try simp at u1
 simp -implicitDefEqProofs [HA,u1,Ir,rowAt,(by omega:o.names.length*16<=140737488355328),(by omega:o.values.length*16<=140737488355328)];all_goals (repeat' split)<;>first|rfl|omega|simp_all<;>omega|skip
def Qj(o:Ob)(hb:bG o<=1073741824):ev LI TT 73 [.agg (aW .af o)]=some (.agg (aW .own o),[.dead]):=by
 rw[au (b:=F7) (rs:=[.c 2 7 true 36]) (n:=1) rfl rfl];have hw:bG o=o.path.length+wL wS o.names+wL wS o.values+bH o.resp:=rfl;have dr:bH o.resp=wL aP o.resp.fields+o.resp.body.length:=rfl;have l1:=bh (w:=aP) o.resp.fields;have l2:=bh (w:=wS) o.names;have l3:=bh (w:=wS) o.values;have u1:=Zw o.resp (by omega);try simp at u1
 have u2:=Gs o.names (by omega);try simp at u2
 have u3:=Gs o.values (by omega);try simp at u3
 simp -implicitDefEqProofs [F7,u1,u2,u3];all_goals (repeat' split)<;>first|rfl|omega|simp_all<;>omega|skip
def OI:Ob:=⟨[],[],[],⟨0,[],[]⟩,0⟩
end M
set_option maxHeartbeats 4000000
namespace M
open Go
structure Cc where
 ns:Bool
 nc:Bool
 pr:Bool
 mu:Bool
 ha:Bool
 JI:Int
@[simp] def oB(c:Cc):List X:=[.bool c.ns,.bool c.nc,.bool c.pr,.bool c.mu,.bool c.ha,.int .i64 c.JI]
def j0:Cc:=⟨false,false,false,false,false,0⟩
def MA:ag:=[110,111,45,115,116,111,114,101]
def Mz:ag:=[110,111,45,99,97,99,104,101]
def MB:ag:=[112,114,105,118,97,116,101]
def My:ag:=[109,117,115,116,45,114,101,118,97,108,105,100,97,116,101]
def qC:ag:=[109,97,120,45,97,103,101,61]
def Aj(w:ag):Option Nat:=if Lib.hasPrefix w qC=true then some ((bz (w.drop 8)).getD 0) else none
def Ak(c:Cc)(w:ag):Cc:=if w=MA then {c with ns:=true} else if w=Mz then {c with nc:=true} else if w=MB then {c with pr:=true} else if w=My then {c with mu:=true} else
 match Aj w with
 |some n=>{c with ha:=true,JI:=if c.ha=true then min (n:Int) c.JI else n}
 |none=>c
def EC(v:ag):Cc:=(jE v).foldl (λc w=>Ak c (cK w)) j0
def p6(fs:List aK):Cc:=EC ((dW fs yb).getD [])
def TZ:(⟨#[110,111,45,115,116,111,114,101]⟩:ByteArray)=⟨MA.toArray⟩/\(⟨#[110,111,45,99,97,99,104,101]⟩:ByteArray)=⟨Mz.toArray⟩/\(⟨#[112,114,105,118,97,116,101]⟩:ByteArray)=⟨MB.toArray⟩/\(⟨#[109,117,115,116,45,114,101,118,97,108,105,100,97,116,101]⟩:ByteArray)=⟨My.toArray⟩/\(⟨#[109,97,120,45,97,103,101,61]⟩:ByteArray)=⟨qC.toArray⟩:=⟨rfl,rfl,rfl,rfl,rfl⟩
def ZY(w:ag)(hb:w.length<=1073741824):ev LI TT 229 [.str ⟨w.toArray⟩]=some (.av [.int .i64 ((((Aj w).getD 0:Nat):Int)),.bool ((Aj w).isSome)],[.dead]):=by
 rw[au (b:=zg) (rs:=[.t 2,.t 3]) (n:=1) rfl rfl];have hp:=Lib.hasPrefix_of_take w qC;have l8:qC.length=8:=rfl;have z:qC.toArray.size=8:=rfl;obtain⟨t1,t2,t3,t4,t5⟩:=TZ;rw[l8] at hp;unfold Aj;by_cases g8:w.length<8
 ·have:Lib.hasPrefix w qC=false:=by rw[<-hp];simp;omega
  have kf:(w.length:Int)<8:=by omega
  simp -implicitDefEqProofs [zg,t5,this,g8,kf,ByteArray.size,z,l8]
 have kf:¬(w.length:Int)<8:=by omega
 have g9:(8:Int)<=w.length:=by omega
 have g10:8<=w.length:=by omega
 have g11:decide (8<=w.length)=true:=by simp;omega
 rw[g11,O4] at hp;by_cases g:w.take 8=qC;rotate_left
 ·have:Lib.hasPrefix w qC=false:=by rw[<-hp];simpa using g
  simp -implicitDefEqProofs [zg,t5,this,g8,kf,g9,g10,ByteArray.size,z,l8,Lib.extract_mk,eq_false g]
 have:Lib.hasPrefix w qC=true:=by rw[<-hp];simpa using g
 have u1:=wQ (w.drop 8) (by simp;omega);have hz:(w.drop 8).take (w.length - 8)=w.drop 8:=tM (by simp);simp -implicitDefEqProofs [zg,t5,this,g8,kf,g9,g10,ByteArray.size,z,l8,Lib.extract_mk,eq_true g,u1,hz];all_goals (repeat' split)<;>first|rfl|omega|simp_all<;>omega|skip
def Xy(ws:List ag)(hl0:ws.length<=1073741825)(hb:∀w∈ws,w.length<=1073741824)(g:Cc):aI (ak (ev LI TT) (aq TT) o9) [(2,.ptr .own (oB j0)),(3,.ptr .own (oB g)),(4,.row .own 1 (ws.map eS)),(5,.int .i64 0)]=some (.exit 0,[(2,.ptr .own (oB j0)),(3,.ptr .own (oB ((ws).foldl (λc w=>Ak c (cK w)) g))),(4,.row .own 1 (ws.map eS)),(5,.int .i64 (ws).length),(15,.bool false)]):=by
 refine Mm (f:=ak (ev LI TT) (aq TT) o9) (ws) (λi (g:Cc)=>[(2,.ptr .own (oB j0)),(3,.ptr .own (oB g)),(4,.row .own 1 (ws.map eS)),(5,.int .i64 i)]) (λc w=>Ak c (cK w)) (λg=>[(2,.ptr .own (oB j0)),(3,.ptr .own (oB g)),(4,.row .own 1 (ws.map eS)),(5,.int .i64 (ws).length),(15,.bool false)]) (λ_ _=>True) g trivial (λi b g hi hl _=>?_) (λ_ _ _ _ _=>trivial) (λg _=>?_)
 ·have hw:=aU i (by first|omega|(simp at hl;omega));obtain⟨_,rfl⟩:=aJ.1 hi;obtain⟨t1,t2,t3,t4,t5⟩:=TZ;have hx:=hb _ (cq hl);have v1:=Qw ws[i] hx;have v2:(cK ws[i]).length<=1073741824:=by simp[cK];exact hx
  generalize cK ws[i]=w at v1 v2;have v3:=ZY w v2;try simp at v1
  try simp at v3
  unfold Ak;by_cases g1:w=MA;·simp -implicitDefEqProofs [o9,s7,hl,hw,v1,v3,t1,eq_true g1,j0]
  by_cases g2:w=Mz;·simp -implicitDefEqProofs [o9,s7,hl,hw,v1,v3,t1,t2,eq_false g1,eq_true g2,j0]
  by_cases g3:w=MB;·simp -implicitDefEqProofs [o9,s7,hl,hw,v1,v3,t1,t2,t3,eq_false g1,eq_false g2,eq_true g3,j0]
  by_cases g4:w=My;·simp -implicitDefEqProofs [o9,s7,hl,hw,v1,v3,t1,t2,t3,t4,eq_false g1,eq_false g2,eq_false g3,eq_true g4,j0]
  cases ha:Aj w with
  |none=>rw[ha] at v3;simp at v3;simp -implicitDefEqProofs [o9,s7,hl,hw,v1,v3,t1,t2,t3,t4,eq_false g1,eq_false g2,eq_false g3,eq_false g4,j0]
  |some n=>
  rw[ha] at v3;simp at v3;cases gh:g.ha;all_goals
  simp -implicitDefEqProofs [o9,s7,hl,hw,v1,v3,t1,t2,t3,t4,eq_false g1,eq_false g2,eq_false g3,eq_false g4,gh,j0];all_goals (repeat' split)<;>first|rfl|omega|simp_all<;>omega|skip
 ·simp -implicitDefEqProofs [o9,s7]
def ZF(v:ag)(hb:v.length<=1073741824):ev LI TT 215 [.str ⟨v.toArray⟩]=some (.agg (oB (EC v)),[.dead]):=by
 rw[au (b:=GZ) (rs:=[.c 2 6 true 190]) (n:=1) rfl rfl];have hm:=DA v;have hn:=I2 v;have u1:=QC v hb;try simp at u1
 have u2:=Xy (jE v) (by omega) (λw hw=>by have:=hm w hw;omega) j0;try simp at u2
 rw[show (jE v).foldl (λc w=>Ak c (cK w)) j0=EC v from rfl] at u2;simp[j0] at u2;simp -implicitDefEqProofs [GZ,u1,u2,j0];all_goals (repeat' split)<;>first|rfl|omega|simp_all<;>omega|skip
def Qq(fs:List aK)(hb:wL aP fs<=1073741824):ev LI TT 194 [.row .af 2 (fs.map aS)]=some (.agg (oB (p6 fs)),[.dead]):=by
 rw[au (b:=GY) (rs:=[.c 2 6 true 190]) (n:=1) rfl rfl];have hfl:=bh (w:=aP) fs;have hg:=uE fs yb;have t3:(⟨#[99,97,99,104,101,45,99,111,110,116,114,111,108]⟩:ByteArray)=⟨yb.toArray⟩:=rfl;have u1:=Et fs yb (by omega);try simp at u1
 have u2:=ZF ((dW fs yb).getD []) (by omega);try simp at u2
 rw[show EC ((dW fs yb).getD [])=p6 fs from rfl] at u2;simp -implicitDefEqProofs [GY,u1,u2,t3];all_goals (repeat' split)<;>first|rfl|omega|simp_all<;>omega|skip
end M
set_option maxHeartbeats 4000000
namespace M
open Go
def ZO(q:Rq)(hb:me q<=1073741824):ev LI TT 193 [.agg (oC .af q)]=some (.bool (yo q),[.dead]):=by
 rw[au (b:=yC) (rs:=[.t 2]) (n:=1) rfl rfl];have Ba:me q=q.path.length+wL aP q.fields+q.body.length:=rfl;unfold yo;have u1:=Kg q.path (by omega);try simp at u1
 have u2:=Qu q.fields (by omega);try simp at u2
 by_cases g1:1<=q.method;rotate_left;·simp -implicitDefEqProofs [yC,u1,u2,eq_false g1]
 by_cases g2:q.method<=4;rotate_left;·simp -implicitDefEqProofs [yC,u1,u2,eq_true g1,eq_false g2]
 cases g3:ij q.path<;>cases g4:j9 q.fields<;>rw[g3] at u1<;>rw[g4] at u2;all_goals
 simp -implicitDefEqProofs [yC,u1,u2,eq_true g1,eq_true g2];all_goals (repeat' split)<;>first|rfl|omega|simp_all<;>omega|skip
def PR(q:Rq):Bool:=yo q && decide (q.method=1) && !(p6 q.fields).ns
def YD(a b:Rq):Bool:=PR a && PR b && decide (a.path=b.path) && decide (a.fields=b.fields)
end M
set_option maxHeartbeats 4000000
namespace M
open Go
end M
set_option maxHeartbeats 4000000
namespace M
open Go
end M
set_option maxHeartbeats 4000000
namespace M
open Go
def Ez(d:aV)(h1:d.cells.length<=1073741824)(h2:d.pending.length<=1073741824):ev LI TT 85 [.agg (bW .af d)]=some (.agg (bW .own d),[.dead]):=by rw[au (b:=HC) (rs:=[.c 2 2 true 27]) (n:=1) rfl rfl];simp -implicitDefEqProofs [HC,Ir,U1,rowAt,(by omega:d.cells.length*16<=140737488355328),(by omega:d.pending.length*24<=140737488355328),HD,NA,HE,NB,NC,ND];all_goals (repeat' split)<;>first|rfl|omega|simp_all<;>omega|skip
def Qi(d:aV)(h1:d.cells.length<=1073741824)(h2:d.pending.length<=1073741824):ev LI TT 50 [.agg (bW .af d)]=some (.agg (bW .own d),[.dead]):=by
 rw[au (b:=F5) (rs:=[.c 2 2 true 27]) (n:=1) rfl rfl];have u1:=Gs d.cells h1;try simp at u1
 have u2:=afC d.pending h2;try simp at u2
 simp -implicitDefEqProofs [F5,u1,u2];all_goals (repeat' split)<;>first|rfl|omega|simp_all<;>omega|skip
def Ee(ws:List Wr):Prop:=∀w∈ws,0<=w.at_/\w.at_<=19
def fR{d:aV}(h:cg d=true):Ee d.pending/\d.cells.length=20/\d.pending.length<=16:=by simp only[cg,aB,bp] at h;refine⟨λw hw=>?_,by omega,by omega⟩;simpa [nU] using dY.1 h.1.1 w hw
def e8(d:aV):aV:=⟨mP (fH [] true) d.cells d.pending,[]⟩
def X0(d:aV)(keep:List Bool)(all:Bool)(hb:d.pending.length<=9223372036854775807)(ho:Ee d.pending)(hk:keep.length<=9223372036854775807)(cs:List ag)(hinv:cs.length=20):aI (ak (ev LI TT) (aq TT) vR) [(1,.row .af 1 (keep.map eB)),(2,.bool all),(3,.ptr .own (bW .af d)),(6,.ptr .own [.row .own 1 [],.row .own 2 []]),(7,.ptr .own [.row .own 1 ((cs).map eS),.row .own 2 []]),(8,.int .i64 0)]=some (.exit 0,[(1,.row .af 1 (keep.map eB)),(2,.bool all),(3,.ptr .own (bW .af d)),(6,.ptr .own [.row .own 1 [],.row .own 2 []]),(7,.ptr .own [.row .own 1 (((foldI (fO (fH keep all)) 0 (d.pending) cs)).map eS),.row .own 2 []]),(8,.int .i64 (d.pending).length),(18,.bool false)]):=by
 refine fP (f:=ak (ev LI TT) (aq TT) vR) (d.pending) (λi (cs:List ag)=>[(1,.row .af 1 (keep.map eB)),(2,.bool all),(3,.ptr .own (bW .af d)),(6,.ptr .own [.row .own 1 [],.row .own 2 []]),(7,.ptr .own [.row .own 1 ((cs).map eS),.row .own 2 []]),(8,.int .i64 i)]) (fO (fH keep all)) (λcs=>[(1,.row .af 1 (keep.map eB)),(2,.bool all),(3,.ptr .own (bW .af d)),(6,.ptr .own [.row .own 1 [],.row .own 2 []]),(7,.ptr .own [.row .own 1 ((cs).map eS),.row .own 2 []]),(8,.int .i64 (d.pending).length),(18,.bool false)]) (λi (cs:List ag)=>cs.length=20) cs hinv (λi b cs hi hl hinv=>?_) (λi b cs hi hinv=>?_) (λcs hinv=>?_)
 ·have hw:=aU i (by first|omega|(simp at hl;omega));obtain⟨_,rfl⟩:=aJ.1 hi;have h1:=ho _ (cq hl);have h2:(d.pending[i]).at_.toNat<cs.length:=by omega
  cases all
  ·by_cases h4:i<keep.length;·cases h5:keep[i]<;>simp -implicitDefEqProofs [vR,CV,hl,hw,h1,h2,fO,fH,h4,h5]
   ·simp -implicitDefEqProofs [vR,CV,hl,hw,h1,h2,fO,fH,h4]
  simp -implicitDefEqProofs [vR,CV,hl,hw,h1,h2,fO,fH]
 ·rw[BT];exact hinv
 ·simp -implicitDefEqProofs [vR,CV]
def QD(d:aV)(keep:List Bool)(all:Bool)(h:cg d=true)(hk:keep.length<=9223372036854775807):ev LI TT 103 [.agg (bW .af d),.row .af 1 (keep.map eB),.bool all]=some (.agg (bW .own (⟨mP (fH keep all) d.cells d.pending,[]⟩)),[.dead,.dead,.dead]):=by
 rw[au (b:=HI) (rs:=[.c 6 2 true 27]) (n:=3) rfl rfl];obtain⟨h0,h1,h1'⟩:=fR h;have h2:=X0 d keep all (by omega) h0 hk d.cells h1;try simp at h2
 simp -implicitDefEqProofs [HI,h1,h2,mP,Ir,rowAt];all_goals (repeat' split)<;>first|rfl|omega|simp_all<;>omega|skip
def Ag(d:aV)(h:cg d=true):ev LI TT 47 [.agg (bW .af d)]=some (.agg (bW .own (e8 d)),[.dead]):=by
 rw[au (b:=Hh) (rs:=[.c 2 2 true 27]) (n:=1) rfl rfl];obtain⟨h0,h1,h1'⟩:=fR h;have h2:=uh d (by omega);have h3:=QD d [] true h (by simp);rw[h] at h2;try simp at h2
 try simp at h3
 simp -implicitDefEqProofs [Hh,h2,h3,e8];all_goals (repeat' split)<;>first|rfl|omega|simp_all<;>omega|skip
def Xb(ws:List Wr)(hb:ws.length<=9223372036854775807)(ho:Ee ws)(cs:List ag)(hinv:cs.length=20):aI (ak (ev LI TT) (aq TT) Bm) [(0,.az 100000 [] 0 0),(4,.az 100000 [] 0 0),(5,.az 100000 [] 0 0),(6,.az 100000 [] 0 1),(7,.ref 100000 [(0,1)]),(8,.int .i64 ws.length),(9,.int .i64 0),(100000,.ptr .own [.row .own 1 ((cs).map eS),.row .own 2 (ws.map eW)])]=some (.exit 0,[(0,.az 100000 [] 0 0),(4,.az 100000 [] 0 0),(5,.az 100000 [] 0 0),(6,.az 100000 [] 0 1),(7,.ref 100000 [(0,1)]),(8,.int .i64 ws.length),(9,.int .i64 (ws).length),(10,.bool false),(100000,.ptr .own [.row .own 1 (((foldI (fO (fH [] true)) 0 (ws) cs)).map eS),.row .own 2 (ws.map eW)])]):=by
 refine fP (f:=ak (ev LI TT) (aq TT) Bm) (ws) (λi (cs:List ag)=>[(0,.az 100000 [] 0 0),(4,.az 100000 [] 0 0),(5,.az 100000 [] 0 0),(6,.az 100000 [] 0 1),(7,.ref 100000 [(0,1)]),(8,.int .i64 ws.length),(9,.int .i64 i),(100000,.ptr .own [.row .own 1 ((cs).map eS),.row .own 2 (ws.map eW)])]) (fO (fH [] true)) (λcs=>[(0,.az 100000 [] 0 0),(4,.az 100000 [] 0 0),(5,.az 100000 [] 0 0),(6,.az 100000 [] 0 1),(7,.ref 100000 [(0,1)]),(8,.int .i64 ws.length),(9,.int .i64 (ws).length),(10,.bool false),(100000,.ptr .own [.row .own 1 ((cs).map eS),.row .own 2 (ws.map eW)])]) (λi (cs:List ag)=>cs.length=20) cs hinv (λi b cs hi hl hinv=>?_) (λi b cs hi hinv=>?_) (λcs hinv=>?_)
 ·have hw:=aU i (by first|omega|(simp at hl;omega));obtain⟨_,rfl⟩:=aJ.1 hi;have h1:=ho _ (cq hl);have h2:(ws[i]).at_.toNat<cs.length:=by omega
  simp -implicitDefEqProofs [Bm,LD,hl,hw,h1,h2,fO,fH]
 ·rw[BT];exact hinv
 ·simp -implicitDefEqProofs [Bm,LD]
def P5(d:aV)(h:cg d=true):ev LI TT 101 [.ptr .own (bW .own d)]=some (.av [],[.ptr .own (bW .own (e8 d))]):=by
 rw[au (b:=FJ) (rs:=[]) (n:=1) rfl rfl];obtain⟨h0,h1,h1'⟩:=fR h;have h2:=Xb d.pending (by omega) h0 d.cells h1;try simp at h2
 simp -implicitDefEqProofs [FJ,h1,h2,mP,e8];all_goals (repeat' split)<;>first|rfl|omega|simp_all<;>omega|skip
def J6(d:aV)(at_:Int)(t:ag)(h:cg d=true)(ha:0<=at_/\at_<=19)(hp:d.pending.length<16):ev LI TT 87 [.agg (bW .af d),.int .i64 at_,.str ⟨t.toArray⟩]=some (.av [.agg (bW .own (⟨d.cells,d.pending++[⟨at_,t⟩]⟩)),.bool true],[.dead,.dead,.dead]):=by
 rw[au (b:=yw) (rs:=[.c 6 2 true 27,.t 7]) (n:=3) rfl rfl];obtain⟨h0,h1,h1'⟩:=fR h;have h2:=uh d (by omega);have h3:=Ez d (by omega) (by omega);rw[h] at h2;try simp at h2
 try simp at h3
 have h4:¬(d.pending.length:Int)=16:=by omega
 have h5:(d.pending.length+1)*24<=140737488355328:=by omega
 simp -implicitDefEqProofs [yw,h2,h3,h4,h5,ha,bJ,rowAt];all_goals (repeat' split)<;>first|rfl|omega|simp_all<;>omega|skip
def iH(d:aV)(a:Int)(t:ag):aV:=if 16<=(d.pending.length:Int) then ⟨(e8 d).cells,[⟨a,t⟩]⟩ else ⟨d.cells,d.pending++[⟨a,t⟩]⟩
def s4(s:Sh)(a:Int)(t:ag):Sh:=⟨iH s.aD a t,s.ai,s.ay,s.next,s.seq⟩
def xk{d:aV}(h:cg d=true):cg (e8 d)=true:=by obtain⟨h0,h1,h1'⟩:=fR h;have:=Tx (fH [] true) d.cells d.pending;unfold cg e8;simp only[this,h1];rfl
def QG(s:Sh)(at_:Int)(t:ag)(h:cg s.aD=true)(ha:0<=at_/\at_<=19):ev LI TT 31 [.agg (aG .own s),.int .i64 at_,.str ⟨t.toArray⟩]=some (.agg (aG .own (s4 s at_ t)),[.dead,.dead,.dead]):=by
 rw[au (b:=C7) (rs:=[.c 6 6 true 31]) (n:=3) rfl rfl];obtain⟨h0,h1,h1'⟩:=fR h;have h2:=Ag s.aD h;try simp at h2
 unfold s4 iH;by_cases g:(s.aD.pending.length:Int)=16
 ·have h3:=J6 (e8 s.aD) at_ t (xk h) ha (by simp[e8]);try simp[e8] at h3
  have g2:(16:Int)<=s.aD.pending.length:=by omega
  simp -implicitDefEqProofs [C7,h2,h3,g,e8]
 have h3:=J6 s.aD at_ t h ha (by omega);try simp at h3
 have g2:¬(16:Int)<=s.aD.pending.length:=by omega
 simp -implicitDefEqProofs [C7,h3,g,g2];all_goals (repeat' split)<;>first|rfl|omega|simp_all<;>omega|skip
def Qc(s:Sh)(at_:Int)(t:ag)(h:cg s.aD=true):ev LI TT 72 [.ptr .own (aG .own s),.int .i64 at_,.str ⟨t.toArray⟩]=some (.av [],[.ptr .own (aG .own (s4 s at_ t)),.dead,.dead]):=by
 rw[au (b:=BG) (rs:=[]) (n:=3) rfl rfl];obtain⟨h0,h1,h1'⟩:=fR h;have h2:=P5 s.aD h;try simp at h2
 have h5:(s.aD.pending.length+1)*24<=140737488355328:=by omega
 unfold s4 iH;by_cases g2:(16:Int)<=s.aD.pending.length;·simp -implicitDefEqProofs [BG,h2,g2,bJ,e8]
 simp -implicitDefEqProofs [BG,h5,g2,bJ];all_goals (repeat' split)<;>first|rfl|omega|simp_all<;>omega|skip
def oQ(a:Int):Int:=if a=19 then 5 else a+1
def QE(a:Int)(h:5<=a/\a<=19):ev LI TT 32 [.int .i64 a]=some (.int .i64 (oQ a),[.dead]):=by rw[au (b:=HK) (rs:=[.t 2]) (n:=1) rfl rfl];unfold oQ;have hw:IntKind.i64.wrap (a+1)=a+1:=bO (by omega) (by omega);simp -implicitDefEqProofs [HK,hw];all_goals (repeat' split)<;>first|rfl|omega|simp_all<;>omega|skip
def Qh(a:Int)(h:5<=a/\a<=19):ev LI TT 74 [.int .i64 a]=some (.int .i64 (oQ a),[.dead]):=by
 rw[au (b:=BL) (rs:=[.t 2]) (n:=1) rfl rfl];unfold oQ;have hw:IntKind.i64.wrap (a+1)=a+1:=bO (by omega) (by omega);by_cases g:a=19;·subst g;have h20:IntKind.i64.wrap 20=20:=bO (by omega) (by omega);simp -implicitDefEqProofs [BL,h20]
 have g2:¬a+1=20:=by omega
 simp -implicitDefEqProofs [BL,hw,g,g2];all_goals (repeat' split)<;>first|rfl|omega|simp_all<;>omega|skip
def fJ(a b:Ob):Bool:=decide (a.path=b.path) && decide (a.names=b.names) && decide (a.values=b.values)
def QH(a:Ob)(b:Ob)(ha:bG a<=1073741824)(hb:bG b<=1073741824):ev LI TT 29 [.agg (aW .af a),.agg (aW .af b)]=some (.bool (fJ a b),[.dead,.dead]):=by
 rw[au (b:=y6) (rs:=[.t 4]) (n:=2) rfl rfl];have hw:bG a=a.path.length+wL wS a.names+wL wS a.values+bH a.resp:=rfl;have dr:bG b=b.path.length+wL wS b.names+wL wS b.values+bH b.resp:=rfl;have l1:=bh (w:=wS) a.names;have l2:=bh (w:=wS) a.values;have l3:=bh (w:=wS) b.names;have l4:=bh (w:=wS) b.values;unfold fJ;have u1:=Kh a.names b.names (by omega) (by omega);try simp at u1
 have u2:=Kh a.values b.values (by omega) (by omega);try simp at u2
 by_cases g:a.path=b.path;rotate_left;·simp -implicitDefEqProofs [y6,eq_false g]
 by_cases g2:a.names=b.names;rotate_left;·rw[decide_eq_false g2] at u1;simp -implicitDefEqProofs [y6,eq_true g,u1,eq_false g2]
 rw[decide_eq_true g2] at u1;simp -implicitDefEqProofs [y6,u1,u2,eq_true g,eq_true g2];all_goals (repeat' split)<;>first|rfl|omega|simp_all<;>omega|skip
def Qm(a:Ob)(b:Ob)(ha:bG a<=1073741824)(hb:bG b<=1073741824):ev LI TT 71 [.agg (aW .af a),.agg (aW .af b)]=some (.bool (fJ a b),[.dead,.dead]):=by
 rw[au (b:=xL) (rs:=[.t 4]) (n:=2) rfl rfl];have hw:bG a=a.path.length+wL wS a.names+wL wS a.values+bH a.resp:=rfl;have dr:bG b=b.path.length+wL wS b.names+wL wS b.values+bH b.resp:=rfl;have l1:=bh (w:=wS) a.names;have l2:=bh (w:=wS) a.values;unfold fJ;have u1:=Ki a.names b.names (by omega);try simp at u1
 have u2:=Ki a.values b.values (by omega);try simp at u2
 by_cases g:a.path=b.path;rotate_left;·simp -implicitDefEqProofs [xL,eq_false g]
 by_cases g2:a.names=b.names;rotate_left;·rw[decide_eq_false g2] at u1;simp -implicitDefEqProofs [xL,eq_true g,u1,eq_false g2]
 rw[decide_eq_true g2] at u1;simp -implicitDefEqProofs [xL,u1,u2,eq_true g,eq_true g2];all_goals (repeat' split)<;>first|rfl|omega|simp_all<;>omega|skip
end M
namespace M
open Go
def cj(s:ag):Int×ag×Bool:=match cF 10 s with
 |some (l,b)=>match bA 32 l with
  |[_,w,_]=>if cM ((bz w).getD 0:Nat) b=s then ((((bz w).getD 0:Nat):Int),b,true) else (0,[],false)
  |_=>(0,[],false)
 |none=>(0,[],false)
def Qz(s:ag)(hb:s.length<=1073741824):ev LI TT 162 [.str ⟨s.toArray⟩]=some (.av [.int .i64 ((cj s).1),.str ⟨((cj s).2.1).toArray⟩,.bool ((cj s).2.2)],[.dead]):=by
 rw[au (b:=qP) (rs:=[.t 2,.t 3,.t 4]) (n:=1) rfl rfl];have u1:=Ey s 0 (by omega) hb;simp only[xV,xU,Jt] at u1;unfold cj;cases hc:cF 10 s with
 |none=>rw[hc] at u1;have u2:=wT [] (by simp);simp at u1 u2;simp -implicitDefEqProofs [qP,u1,u2]
 |some p=>
 obtain⟨l,b⟩:=p;rw[hc] at u1;have hd:=uy hc;simp only at hd;obtain⟨d1,d2,d3⟩:=hd;have u2:=wT l (by omega);have d4:¬(((s.length - b.length:Nat):Int)<0):=by omega
 have d5:s.length - b.length<=s.length:=by omega
 have d6:¬s=[]:=by rintro rfl;simp at d1
 have hm:=pK 32 l;simp only at u1;generalize s.length - b.length=e at u1 d2 d4 d5;have d7:(e:Int)<=s.length:=by omega
 rcases hw:bA 32 l with _|⟨w0,_|⟨w1,_|⟨w2,_|⟨w3,ws⟩⟩⟩⟩;·exact absurd hw (zm 32 l)
 ·rw[hw] at u2;simp at u1 u2;simp -implicitDefEqProofs [qP,u1,u2,hw,d4]
 ·rw[hw] at u2;simp at u1 u2;simp -implicitDefEqProofs [qP,u1,u2,hw,d4]
 rotate_left
 ·rw[hw] at u2;have hn:¬((ws.length:Int)+1+1+1+1=3):=by omega
  simp at u1 u2;simp -implicitDefEqProofs [qP,u1,u2,hw,d4,hn]
 have hw1:=hm w1 (by rw[hw];simp);rw[hw] at u2;have u3:=wQ w1 (by omega);have u4:=J8 ((bz w1).getD 0:Nat) b (by omega);simp at u1 u2 u3;obtain⟨n,hn⟩:∃n,(bz w1).getD 0=n:=⟨_,rfl⟩;rw[hn] at u3 u4;have d8:s.length - e=b.length:=by rw[<-d2];simp
 by_cases g:cM (n:Int) b=s;·simp -implicitDefEqProofs [qP,u1,u2,hw,u3,u4,d2,d4,d5,d6,d7,d8,hn,eq_true g,Lib.extract_mk]
 simp -implicitDefEqProofs [qP,u1,u2,hw,u3,u4,d2,d4,d5,d6,d7,d8,hn,eq_false g,Lib.extract_mk];all_goals (repeat' split)<;>first|rfl|omega|simp_all<;>omega|skip
def P8(s:ag)(hb:s.length<=1073741824):ev LI TT 146 [.str ⟨s.toArray⟩]=some (.av [.int .i64 ((cj s).1),.str ⟨((cj s).2.1).toArray⟩,.bool ((cj s).2.2)],[.dead]):=by
 rw[au (b:=nI) (rs:=[.t 2,.t 3,.t 4]) (n:=1) rfl rfl];have u1:=wU s [10] (by omega);have ec:=EO 10 s;unfold cj;cases hc:cF 10 s with
 |none=>rw[hc] at ec;have u2:=uk s 32 (by omega);simp only at ec;rw[ec] at u1;simp at u1 u2;simp -implicitDefEqProofs [nI,u1,u2]
 |some p=>
 obtain⟨l,b⟩:=p;rw[hc] at ec;simp only at ec;rw[ec] at u1;have hd:=uy hc;simp only at hd;obtain⟨d1,d2,d3⟩:=hd;have u2:=uk l 32 (by omega);have d6:¬s=[]:=by rintro rfl;simp at d1
 have hm:=pK 32 l;simp only at u1;rcases hw:bA 32 l with _|⟨w0,_|⟨w1,_|⟨w2,_|⟨w3,ws⟩⟩⟩⟩;·exact absurd hw (zm 32 l)
 ·rw[hw] at u2;simp at u1 u2;simp -implicitDefEqProofs [nI,u1,u2,hw]
 ·rw[hw] at u2;simp at u1 u2;simp -implicitDefEqProofs [nI,u1,u2,hw]
 rotate_left
 ·rw[hw] at u2;have hn:¬((ws.length:Int)+1+1+1+1=3):=by omega
  simp at u1 u2;simp -implicitDefEqProofs [nI,u1,u2,hw,hn]
 have hw1:=hm w1 (by rw[hw];simp);rw[hw] at u2;have u3:=Af w1 (by omega);cases hq:bz w1 with
 |none=>
  rw[hq] at u3;have g:¬cM ((0:Nat):Int) b=s:=by rw[show cM ((0:Nat):Int) b=[] by unfold cM;rw[aF (by omega)]];exact λh=>d6 h.symm
  simp at u1 u2 u3 g;simp -implicitDefEqProofs [nI,u1,u2,hw,hq,u3,eq_false g]
 |some n=>
 rw[hq] at u3;have u4:=J2 (n:Int) b (by omega);simp at u1 u2 u3;by_cases h0:n=0
 ·subst h0;have g:¬cM ((0:Nat):Int) b=s:=by rw[show cM ((0:Nat):Int) b=[] by unfold cM;rw[aF (by omega)]];exact λh=>d6 h.symm
  simp at g;simp -implicitDefEqProofs [nI,u1,u2,hw,hq,u3,eq_false g]
 by_cases g:cM (n:Int) b=s;·simp -implicitDefEqProofs [nI,u1,u2,hw,hq,u3,u4,h0,eq_true g]
 simp -implicitDefEqProofs [nI,u1,u2,hw,hq,u3,u4,h0,eq_false g];all_goals (repeat' split)<;>first|rfl|omega|simp_all<;>omega|skip
end M
set_option maxHeartbeats 4000000
namespace M
open Go
def UG{s:ag}(h:(cj s).2.2=false):cj s=(0,[],false):=by
 unfold cj at h⊢;(repeat' split at h)<;>first|(cases h;done)|skip
 all_goals (repeat' split)<;>simp_all
def GS{s:ag}(h:(cj s).2.2=true):1<=(cj s).1/\(cj s).1<=100000/\(cj s).2.1.length<=2000/\cM (cj s).1 (cj s).2.1=s/\s≠[]:=by
 unfold cj at h⊢;cases hc:cF 10 s with
 |none=>simp[hc] at h
 |some p=>
  obtain⟨l,b⟩:=p;have hs:s≠[]:=by rintro rfl;simp[cF] at hc
  simp only[hc] at h⊢;split at h
  ·rename_i w0 w w2 hw;split at h
   ·rename_i g;simp only[hw,g,dh];have g2:=g;unfold cM at g;split at g;·rename_i c;exact⟨c.1,c.2.1,c.2.2,by trivial,hs⟩
    ·exact absurd g.symm hs
   ·cases h
  ·cases h
def GQ(s:ag):(cj s).2.1.length<=2000:=by
 cases h:(cj s).2.2;·rw[UG h];simp
 ·exact(GS h).2.2.1
def Od{s:ag}(h:dX s=true):s.length<=20:=by unfold dX at h;simp only[aB,bp] at h;omega
def Ol{s:ag}(h:fU s=true):s.length<=60:=by unfold fU at h;simp only[aB,bp] at h;omega
def Uq{s:ag}(h:ij s=true):s.length<=60:=by unfold ij at h;simp only[aB,bp] at h;omega
def pM{α:Type}{w:α->Nat}{l:List α}{n m:Nat}(h:∀x∈l,w x<=n)(hl:l.length<=m):wL w l<=m*(n+1):=by
 suffices H:wL w l<=l.length*(n+1) from jF H (oo _ hl)
 clear hl;induction l with
 |nil=>simp[wL]
 |cons x l ih=>have h1:=h x (bD ..);have h2:=ih λy hy=>h y (bY _ hy);simp only[wL,cw,bn,nk,fk,Ji] at h2⊢;omega
def MU{r:bU}(h:fy r=true):bH r<=800:=by
 have A:=GV h;have h1:wL aP r.fields<=8*(80+1):=pM (λf hf=>by have:=E2 A.f hf;have h1:=Od this.1;have h2:=Ol this.2.1;simp only[aP];omega) (RB A.f)
 have h2:=A.b;simp only[bH];omega
def sY{o:Ob}(h:dw o=true):bG o<=1300:=by
 have A:=ye h;have h1:=MU A.resp;have h2:=Uq A.path;have hn:∀x∈o.names,x.length<=20:=by have:=A.names;unfold nS at this;simp only[aB] at this;exact λx hx=>Od (dY.1 this.1 x hx)
 have h3:wL wS o.names<=4*(20+1):=pM hn A.n4;have h4:wL wS o.values<=4*(60+1):=pM (λx hx=>Ol (A.vals x hx)) (by have:=A.len;have:=A.n4;omega);simp only[bG];omega
def Ub{s:ag}(h:(ig s).2=true):dw (ig s).1=true/\dD (ig s).1=s:=by have:=UF h;refine⟨this.1,?_⟩;have h2:dw (ig s).1=true:=this.1;unfold dD;rw[ax h2];exact this.2
def Uc(s:ag):bG (ig s).1<=1300:=by
 cases h:(ig s).2;·have:ig s=(dm,false):=UE h;rw[this];decide
 ·exact sY (Ub h).1
def PX{b:Bn}(h:dn b=true):aO b<=120:=by
 unfold dn at h;simp only[aB,bp] at h;obtain⟨_,h⟩:=h;split at h;·simp only[aB,bp] at h;have:=Uq h.1;simp[aO,h.2];omega
 ·split at h;·simp only[aB] at h;have h1:=Od h.1;have h2:=Ol h.2;simp only[aO];omega
  ·cases h
def YV{b:Bn}(h:di b≠[]):dn b=true:=by
 unfold di at h;split at h;·assumption
 ·exact absurd rfl h
def YR{s:ag}(h:(eO s).2=true)(hs:s≠[]):dn (eO s).1=true/\di (eO s).1=s:=by
 unfold eO rH at h⊢;split at h
 ·split at h;·rename_i hw hg;simp only[hw,hg,dh];exact⟨YV (by rw[hg];exact hs),trivial⟩
  ·cases h
 ·cases h
def YQ:eO []=(zB,false):=by simp[eO,rH,iA,cF,bA]
def YS{s:ag}(h:(eO s).2=true):dn (eO s).1=true/\di (eO s).1=s:=by refine YR h ?_;rintro rfl;rw[YQ] at h;cases h
def sR(m n:Int):Int:=if n<100000 then max m n else m
def iF(d:aV)(i:Nat)(g:List Bn×Int)(_:Nat):(List Bn×Int) ⊕ ((List Bn×Int)×Int×Bn×Nat):=
 if (cj (cr d i)).2.2=true/\(eO (cj (cr d i)).2.1).2=true then .inl (g.1++[(eO (cj (cr d i)).2.1).1],sR g.2 (cj (cr d i)).1) else .inr (g,(cj (cr d i)).1,(eO (cj (cr d i)).2.1).1,i)
def rJ{α β:Type}:α ⊕ (α×β)->α
 |.inl a=>a
 |.inr a=>a.1
def dH(d:aV):List Bn×Int:=rJ (cT (iF d) 0 (List.range 5) ([],0))
noncomputable def qB(bs:List Bn)(d:aV)(i:Nat)(g:List Kp×Int)(_:Nat):List Kp×Int:=
 if (cj (cr d ((5+i:Nat):Int))).2.2=true/\(ig (cj (cr d ((5+i:Nat):Int))).2.1).2=true/\(cj (cr d ((5+i:Nat):Int))).1<100000 then
  (if fu bs (ig (cj (cr d ((5+i:Nat):Int))).2.1).1=true then g.1 else g.1++[⟨(ig (cj (cr d ((5+i:Nat):Int))).2.1).1,((5+i:Nat):Int),(cj (cr d ((5+i:Nat):Int))).1⟩],max g.2 (cj (cr d ((5+i:Nat):Int))).1)
 else g
noncomputable def k6(bs:List Bn)(d:aV)(m:Int):List Kp×Int:=foldI (qB bs d) 0 (List.range 15) ([],m)
def oN(all:List Kp)(i:Nat)(k:Kp):Bool:=(all.drop (i+1)).any λx=>decide (x.seq=k.seq)||fJ x.obj k.obj
def nQ(all:List Kp)(i:Nat)(g:List Kp×Int)(k:Kp):List Kp×Int:=if oN all i k=true then g else (g.1++[k],oQ k.at_)
def iV:List Kp->List Kp
 |[]=>[]
 |k::l=>if (l.any λx=>decide (x.seq=k.seq)||fJ x.obj k.obj)=true then iV l else k::iV l
def vk(l:List Kp):Int:=l.getLast?.elim 5 λk=>oQ k.at_
def kZ(all:List Kp):List Kp×Int:=(iV all,vk (iV all))
def vf:∀l:List Kp,List.Sublist (iV l) l
 |[]=>List.Sublist.refl _
 |k::l=>by
  unfold iV;split;·exact(vf l).trans (List.sublist_cons_self ..)
  ·exact(vf l).cons_cons k
def Mh:∀l:List Kp,(iV l).Pairwise λx y=>y.seq≠x.seq/\fJ y.obj x.obj=false
 |[]=>List.Pairwise.nil
 |k::l=>by
  unfold iV;split;·exact Mh l
  ·rename_i h;rw[fh];refine⟨λy hy=>?_,Mh l⟩;have:=(vf l).subset hy;simp only[Bool.not_eq_true,Jq,tQ,bp,not_or] at h;have:=h y this;exact⟨this.1,by simpa using this.2⟩
def TA(all:List Kp):∀(l:List Kp) (i:Nat) (g:List Kp×Int),all.drop i=l->foldI (nQ all) i l g=(g.1++iV l,if iV l=[] then g.2 else vk (iV l))
 |[],i,g,_=>by simp[foldI,iV]
 |k::l,i,g,h=>by
  have hd:all.drop (i+1)=l:=by rw[<-DW,h];rfl
  rw[foldI,TA all l (i+1) _ hd];unfold nQ oN;rw[hd];rw[show iV (k::l)=(if (l.any λx=>decide (x.seq=k.seq)||fJ x.obj k.obj)=true then iV l else k::iV l) from rfl];split;·rfl
  ·simp only[mz,WC,reduceCtorEq,dQ];congr 1;cases hL:iV l with
   |nil=>simp[vk]
   |cons a L=>simp[vk]
def Tz(all:List Kp):foldI (nQ all) 0 all ([],5)=kZ all:=by
 rw[TA all all 0 _ rfl];unfold kZ;simp only[kI];congr 1;split;·rename_i h;rw[h];rfl
 ·rfl
noncomputable def gK(d:aV):List Kp×Int:=k6 (dH d).1 d (dH d).2
noncomputable def fe(d:aV):List Kp:=gO Kp.seq (gK d).1
noncomputable def iG(d:aV):Sh:=⟨d,(kZ (fe d)).1,(dH d).1,(kZ (fe d)).2,(gK d).2+1⟩
structure wI (k:Kp):Prop where
 o:dw k.obj=true
 a:5<=k.at_/\k.at_<=19
 s:1<=k.seq/\k.seq<100000
def Gz(d:aV){i:Nat}{g:List Bn×Int}(hg:(∀b∈g.1,dn b=true)/\g.1.length<=i/\0<=g.2/\g.2<100000){x:Nat}:
  (∀g',iF d i g x=.inl g'->(∀b∈g'.1,dn b=true)/\g'.1.length<=i+1/\0<=g'.2/\g'.2<100000)/\∀e,iF d i g x=.inr e->e.1=g:=by
 unfold iF;by_cases c:(cj (cr d i)).2.2=true/\(eO (cj (cr d i)).2.1).2=true
 ·rw[ax c];refine⟨λg' h=>?_,λe h=>by cases h⟩;have r:=GS c.1;have b:=YS c.2;cases h;refine⟨λy hy=>?_,by simp;omega,?_,?_⟩
  ·rcases dy.1 hy with hy|hy;·exact hg.1 y hy
   ·simp at hy;subst hy;exact b.1
  ·simp only[sR];split<;>omega
  ·simp only[sR];split<;>omega
 ·rw[aF c];exact⟨λg' h=>(by cases h),λe h=>(by cases h;rfl)⟩
def B2(d:aV):(∀b∈(dH d).1,dn b=true)/\(dH d).1.length<=5/\0<=(dH d).2/\(dH d).2<100000:=by
 have H:=M5 (go:=iF d) (I:=λi g=>(∀b∈g.1,dn b=true)/\g.1.length<=i/\0<=g.2/\g.2<100000) (O:=λe=>(∀b∈e.1.1,dn b=true)/\e.1.1.length<=5/\0<=e.1.2/\e.1.2<100000) 5
  (λi g b hi hg=>⟨(Gz d hg).1,λe he=>by rw[(Gz d hg).2 e he];exact⟨hg.1,by omega,hg.2.2⟩⟩) (List.range 5) 0 ([],0) (by simp) (by simp)
 unfold dH;cases hr:cT (iF d) 0 (List.range 5) ([],0) with
 |inl g=>exact H.1 g hr
 |inr g=>exact H.2 g hr
def RY{β γ:Type}{go:Nat->γ->β->γ}(I:Nat->γ->Prop):∀(l:List β) (i:Nat) (g:γ),(∀j b g,i<=j->j<i+l.length->I j g->I (j+1) (go j g b))->I i g->I (i+l.length) (foldI go i l g)
 |[],i,g,_,h=>h
 |b::l,i,g,hs,h=>by rw[foldI,cw,show i+(l.length+1)=i+1+l.length by omega];exact RY I l (i+1) _ (λj b g h1 h2 h3=>hs j b g (by omega) (by simp;omega) h3) (hs i b g (ek _) (by simp) h)
structure tZ (i:Nat) (g:List Kp×Int):Prop where
 k:∀k∈g.1,wI k
 n:g.1.length<=i
 m:0<=g.2/\g.2<100000
 q:∀k∈g.1,k.seq<=g.2
 a:∀k∈g.1,k.at_<5+i
 d:g.1.Pairwise λx y=>x.at_≠y.at_
def Mu(bs:List Bn)(d:aV){i:Nat}(hi:i<15){g:List Kp×Int}(x:Nat)(h:tZ i g):tZ (i+1) (qB bs d i g x):=by
 unfold qB;split
 ·rename_i c;have r:=GS c.1;have o:=Ub c.2.1;have hm:=h.m;split;·exact⟨h.k,by have:=h.n;simp only;omega,by simp only;omega,λk hk=>by have:=h.q k hk;simp only;omega,λk hk=>by have:=h.a k hk;omega,h.d⟩
  ·generalize cj (cr d ((5+i:Nat):Int))=rr at*;generalize iD:((5+i:Nat):Int)=at_;refine⟨λk hk=>?_,by have:=h.n;rw[eu,Wu];omega,by constructor<;>(try dsimp only)<;>omega,λk hk=>?_,λk hk=>?_,?_⟩
   ·rcases dy.1 hk with hk|hk;·exact h.k k hk
    ·rw[fC] at hk;subst hk;exact⟨o.1,⟨by (try dsimp only);omega,by (try dsimp only);omega⟩,⟨r.1,c.2.2⟩⟩
   ·rcases dy.1 hk with hk|hk;·have:=h.q k hk;(try dsimp only);omega
    ·rw[fC] at hk;subst hk;(try dsimp only);omega
   ·rcases dy.1 hk with hk|hk;·have:=h.a k hk;omega
    ·rw[fC] at hk;subst hk;(try dsimp only);omega
   ·dsimp only;rw[tL];refine⟨h.d,WA ..,λx hx y hy=>?_⟩;rw[fC] at hy;subst hy;have:=h.a x hx;(try dsimp only)
    omega
 ·exact⟨h.k,by have:=h.n;omega,h.m,h.q,λk hk=>by have:=h.a k hk;omega,h.d⟩
def TQ(bs:List Bn)(d:aV)(m:Int)(hm:0<=m/\m<100000):tZ 15 (k6 bs d m):=by have:=RY (go:=qB bs d) tZ (List.range 15) 0 ([],m) (λj b g h1 h2 h3=>Mu bs d (by simp at h2;omega) b h3) ⟨by simp,by simp,hm,by simp,by simp,by simp⟩;simpa [k6] using this
def af2(bs:List Bn)(d:aV)(m:Int)(hm:0<=m/\m<100000):(k6 bs d m).1.length<=15:=(TQ bs d m hm).n
def xW(d:aV):tZ 15 (gK d):=TQ _ d _ (B2 d).2.2
def Mp{d:aV}{k:Kp}:k∈fe d↔k∈(gK d).1:=(IB Kp.seq _).mem_iff
def Mo(d:aV):(fe d).length<=15:=by unfold fe;rw[(IB Kp.seq _).length_eq];exact(xW d).n
def TY{a:Int}(h:5<=a/\a<=19):5<=oQ a/\oQ a<=19:=by unfold oQ;split<;>omega
def agu{l:List Kp}(h:∀k∈l,5<=k.at_/\k.at_<=19):5<=vk l/\vk l<=19:=by
 unfold vk;cases hl:l.getLast? with
 |none=>simp
 |some k=>exact TY (h k (List.mem_of_getLast? hl))
def B1{d:aV}{k:Kp}(h:k∈fe d):wI k/\k.seq<=(gK d).2:=⟨(xW d).k k (Mp.1 h),(xW d).q k (Mp.1 h)⟩
end M
set_option maxHeartbeats 4000000
namespace M
open Go
def Vf(c:ag):∀(n:Nat) (s:ag),∀w∈Lib.splitK c 0 n s,w.length<=s.length
 |0,s,w,h=>by simp[Lib.splitK] at h;subst h;exact ek _
 |n+1,s,w,h=>by
  unfold Lib.splitK at h;split at h;·simp at h;subst h;exact ek _
  ·rcases b9.1 h with rfl|h;·simp;omega
   ·have:=Vf c n _ w h;simp at this;omega
def Vg(s c:ag):∀w∈Lib.split s c,w.length<=s.length:=Vf c _ s
def aiE(c:ag)(n:Nat)(s:ag):Lib.splitK c 0 n s≠[]:=by
 cases n with
 |zero=>simp[Lib.splitK]
 |succ n=>unfold Lib.splitK;split<;>simp
def aiI(s c:ag):Lib.split s c≠[]:=aiE c _ s
def AF(l:ag):aK:=⟨(Lib.cut l colon).1,(Lib.cut l colon).2.1⟩
def qG(n:Nat)(i:Nat)(g:List aK)(l:ag):List aK ⊕ (List aK×Option (Nat×ag)):=
 if (Lib.cut l colon).2.2=true then (if i+1=n/\(Lib.cut l colon).1=dK then .inr (g,some (i,(Lib.cut l colon).2.1)) else .inl (g++[AF l])) else .inr (g,none)
def yj:List aK ⊕ (List aK×Option (Nat×ag))->Option (List aK)
 |.inl g=>some g
 |.inr x=>if x.2.isSome=true then some x.1 else none
def Un(n:Nat):∀(ls:List ag) (i:Nat) (g:List aK),i+ls.length=n->yj (cT (qG n) i ls g)=(mG ls).map λfs=>g++fs
 |[],i,g,_=>by simp[cT,yj,mG]
 |l::ls,i,g,h=>by
  have hl:i+1=n↔ls=[]:=by
   rw[cw] at h;constructor;·intro e;exact Jx.1 (by omega)
   ·rintro rfl;simpa using h
  have hp:qG n i g l=if (Lib.cut l colon).2.2=true then (if ls=[]/\(Lib.cut l colon).1=dK then .inr (g,some (i,(Lib.cut l colon).2.1)) else .inl (g++[AF l])) else .inr (g,none):=by unfold qG;simp only[hl]
  rw[cT,mG,hp];by_cases c1:(Lib.cut l colon).2.2=true
  ·rw[ax c1,ax c1];by_cases c2:ls=[]/\(Lib.cut l colon).1=dK;·rw[ax c2,ax c2];simp[yj]
   ·rw[aF c2,aF c2];simp only;have:=Un n ls (i+1) (g++[AF l]) (by rw[cw] at h;omega);rw[this,Option.map_map];congr 1;funext fs;simp[AF]
  ·rw[aF c1,aF c1];rfl
def RW{m:Nat}:∀{ls:List ag} {fs:List aK},(∀l∈ls,l.length<=m)->mG ls=some fs->fs.length<=ls.length/\∀f∈fs,aP f<=2*m
 |[],fs,_,h=>by simp[mG] at h;subst h;simp
 |l::ls,fs,hm,h=>by
  rw[mG] at h;split at h
  ·split at h;·simp at h;subst h;simp
   ·obtain⟨fs',h1,rfl⟩:=lq.1 h;have ih:=RW (λx hx=>hm x (bY _ hx)) h1;refine⟨by simp;exact ih.1,λf hf=>?_⟩;rcases b9.1 hf with rfl|hf;·have:=EN l colon;have:=hm l (bD ..);simp only[aP];omega
    ·exact ih.2 f hf
  ·cases h
def Up{s:ag}{p:ag×List aK×ag}(h:lW s=some p):p.1.length<=s.length/\wL aP p.2.1<=10*(2*s.length+1)/\p.2.2.length<=s.length:=by
 unfold lW at h;split at h
 ·rename_i g;obtain⟨fs,h1,rfl⟩:=lq.1 h;have hc:=EN s bx;have hm:=Vg (Lib.cut s bx).1 crlf;have hw:=RW (m:=s.length) (λl hl=>by have:=hm l (Wx hl);omega) h1;refine⟨?_,pM hw.2 (by have:=hw.1;have:=g.2;simp at*;omega),hc.2⟩;cases hs:Lib.split (Lib.cut s bx).1 crlf with
  |nil=>simp
  |cons a l=>have:=hm a (by rw[hs];simp);simp only[List.headD_cons];omega
 ·cases h
def aib{s:ag}{r:bU}(h:oZ s=some r):bH r<=10*(2*s.length+1)+s.length:=by
 unfold oZ at h;cases hp:lW s with
 |none=>rw[hp] at h;cases h
 |some p=>rw[hp] at h;obtain⟨w,_,rfl⟩:=lq.1 h;have:=Up hp;simp only[bH];omega
def Xv(b l0:ag)(lt:List ag)(hm:∀l∈lt,l.length<=1073741824)(hl9:lt.length<=9):
  aI (ak (ev LI TT) (aq TT) sJ) [(7,.str ⟨b.toArray⟩),(9,.row .own 1 ((l0::lt).map eS)),(10,.row .own 2 []),(31,.ref 9 []),(32,.cut 9 [] 1 (lt.length+1)),(33,.int .i64 lt.length),(34,.int .i64 0)]=
  (match cT (qG lt.length) 0 lt [] with
   |.inl g=>some (.exit 0,[(7,.str ⟨b.toArray⟩),(9,.row .own 1 ((l0::lt).map eS)),(10,.row .own 2 (g.map aS)),(31,.ref 9 []),(32,.cut 9 [] 1 (lt.length+1)),(33,.int .i64 lt.length),(34,.int .i64 lt.length),(35,.bool false)])
   |.inr (g,none)=>some (.ret,[(2,.str ⟨#[]⟩),(3,.row .own 2 []),(4,.str ⟨#[]⟩),(5,.bool false),(10,.row .own 2 (g.map aS))])
   |.inr (g,some (i,v))=>some (.exit 0,[(7,.str ⟨b.toArray⟩),(9,.row .own 1 ((l0::lt).map eS)),(10,.row .own 2 (g.map aS)),(13,.str ⟨dK.toArray⟩),(14,.str ⟨v.toArray⟩),(31,.ref 9 []),(32,.cut 9 [] 1 (lt.length+1)),(33,.int .i64 lt.length),(34,.int .i64 i),(55,.bool true)])):=by
 have:=B0 (xt:=0) (f:=ak (ev LI TT) (aq TT) sJ) lt (λi (g:List aK)=>[(7,.str ⟨b.toArray⟩),(9,.row .own 1 ((l0::lt).map eS)),(10,.row .own 2 (g.map aS)),(31,.ref 9 []),(32,.cut 9 [] 1 (lt.length+1)),(33,.int .i64 lt.length),(34,.int .i64 i)]) (qG lt.length)
  (λg=>[(7,.str ⟨b.toArray⟩),(9,.row .own 1 ((l0::lt).map eS)),(10,.row .own 2 (g.map aS)),(31,.ref 9 []),(32,.cut 9 [] 1 (lt.length+1)),(33,.int .i64 lt.length),(34,.int .i64 lt.length),(35,.bool false)])
  (λe=>match e with|(g,none)=>(.ret,[(2,.str ⟨#[]⟩),(3,.row .own 2 []),(4,.str ⟨#[]⟩),(5,.bool false),(10,.row .own 2 (g.map aS))])|(g,some (i,v))=>(.exit 0,[(7,.str ⟨b.toArray⟩),(9,.row .own 1 ((l0::lt).map eS)),(10,.row .own 2 (g.map aS)),(13,.str ⟨dK.toArray⟩),(14,.str ⟨v.toArray⟩),(31,.ref 9 []),(32,.cut 9 [] 1 (lt.length+1)),(33,.int .i64 lt.length),(34,.int .i64 i),(55,.bool true)]))
  (λi g=>g.length<=i) [] (by simp) (λi l g hi hl hg=>?_) (λi l g g' hi hg hO=>?_) (λg hg=>?_)
 ·simp only[jh] at this;refine this.trans ?_;cases cT (qG lt.length) 0 lt [] with
  |inl g=>rfl
  |inr e=>obtain⟨g,b⟩:=e;cases b with|none=>rfl|some x=>rfl
 ·have hw:=aU i (by omega);obtain⟨_,rfl⟩:=aJ.1 hi;have e1:1+i=i+1:=by omega
  have u1:=wU lt[i] [58,32] (by have:=hm _ (cq hl);omega);have dr:IntKind.i64.wrap ((lt.length:Int)+1 - 2)=(lt.length:Int)+1 - 2:=bO (by omega) (by omega);have hlz:(g.length+1)*32<=140737488355328:=by omega
  unfold qG AF colon;cases h1:(Lib.cut lt[i] [58,32]).2.2
  ·rw[h1] at u1;try simp at u1
   simp -implicitDefEqProofs [sJ,xN,hl,hw,dr,e1,u1,h1,lv,hlz,bJ]
  ·rw[h1] at u1;by_cases h2:i+1=lt.length
   ·have gY:(i:Int)=(lt.length:Int)+1 - 2:=by omega
    by_cases h3:(Lib.cut lt[i] [58,32]).1=dK
    ·rw[h3] at u1;try simp[dK] at u1
     simp -implicitDefEqProofs [sJ,xN,hl,hw,dr,e1,u1,h1,eq_true h2,eq_true gY,h3,lv,hlz,bJ,dK]
    ·have Fh:=h3;simp[dK] at Fh;try simp at u1
     simp -implicitDefEqProofs [sJ,xN,hl,hw,dr,e1,u1,h1,eq_true h2,eq_true gY,eq_false h3,eq_false Fh,lv,hlz,bJ]
   ·have gY:¬(i:Int)=(lt.length:Int)+1 - 2:=by omega
    try simp at u1
    simp -implicitDefEqProofs [sJ,xN,hl,hw,dr,e1,u1,h1,eq_false h2,eq_false gY,lv,hlz,bJ]
 ·unfold qG at hO;split at hO
  ·split at hO;·cases hO
   ·cases hO;simp;omega
  ·cases hO
 ·simp -implicitDefEqProofs [sJ,xN]
def ZC(s:ag)(hb:s.length<=16777216):ev LI TT 205 [.str ⟨s.toArray⟩]=some (.av [.str ⟨((lW s).elim [] (λp=>p.1)).toArray⟩,.row .own 2 (((lW s).elim [] (λp=>p.2.1)).map aS),.str ⟨((lW s).elim [] (λp=>p.2.2)).toArray⟩,.bool ((lW s).isSome)],[.dead]):=by
 rw[au (b:=sK) (rs:=[.t 2,.t 3,.t 4,.t 5]) (n:=1) rfl rfl];have u1:=wU s [13,10,13,10] (by omega);have hc:=EN s [13,10,13,10];have u2:=aae (Lib.cut s [13,10,13,10]).1 [13,10] (by omega) (by simp);have hm:=Vg (Lib.cut s [13,10,13,10]).1 [13,10];have hne:=aiI (Lib.cut s [13,10,13,10]).1 [13,10];have ep:lW s=if (Lib.cut s [13,10,13,10]).2.2=true/\((Lib.split (Lib.cut s [13,10,13,10]).1 [13,10]).length:Int)<=10 then (mG (Lib.split (Lib.cut s [13,10,13,10]).1 [13,10]).tail).map λfs=>((Lib.split (Lib.cut s [13,10,13,10]).1 [13,10]).headD [],fs,(Lib.cut s [13,10,13,10]).2.1) else none:=rfl
 rw[ep];clear ep;generalize Lib.split (Lib.cut s [13,10,13,10]).1 [13,10]=ls at u2 hm hne;generalize Lib.cut s [13,10,13,10]=p at u1 u2 hm hc;obtain⟨hd,bd,ok⟩:=p;try simp only at u1 u2 hm hc
 obtain⟨l0,lt,rfl⟩:∃l0 lt,ls=l0::lt:=by cases ls with|nil=>exact absurd rfl hne|cons a l=>exact⟨_,_,rfl⟩
 cases ok
 ·try simp at u1 u2
  simp -implicitDefEqProofs [sK,u1,u2]
 by_cases g:(((l0::lt).length:Nat):Int)<=10;rotate_left
 ·have g':10<(lt.length:Int)+1:=by simp at g;omega
  have g2:¬(lt.length:Int)+1<=10:=by omega
  try simp at u1 u2
  simp -implicitDefEqProofs [sK,u1,u2,g',g2]
 have g':¬10<(lt.length:Int)+1:=by simp at g;omega
 have g2:(lt.length:Int)+1<=10:=by omega
 have g5:(1:Int)<=(lt.length:Int)+1:=by omega
 have u3:=Xv bd l0 lt (λl hl=>by have:=hm l (bY _ hl);omega) (by omega);have u4:=Un lt.length lt 0 [] (by simp);simp only[kI,Option.map_id'] at u4;try simp at u1 u2
 cases hr:cT (qG lt.length) 0 lt [] with
 |inl fs=>rw[hr] at u3 u4;simp[yj] at u3 u4;simp -implicitDefEqProofs [sK,u1,u2,g',g2,g5,u3,<-u4]
 |inr x=>
 obtain⟨fs,x⟩:=x;cases x;·rw[hr] at u3 u4;simp[yj] at u3 u4;simp -implicitDefEqProofs [sK,u1,u2,g',g2,g5,u3,<-u4]
 rw[hr] at u3 u4;simp[yj] at u3 u4;simp -implicitDefEqProofs [sK,u1,u2,g',g2,g5,u3,<-u4];all_goals (repeat' split)<;>first|rfl|omega|simp_all<;>omega|skip
def Zj(s:ag)(hb:s.length<=16777216):ev LI TT 180 [.str ⟨s.toArray⟩]=some (.av [.agg (ga .own ((cX s).1)),.bool ((cX s).2)],[.dead]):=by
 rw[au (b:=oJ) (rs:=[.c 2 3 true 34,.t 3]) (n:=1) rfl rfl];have u1:=ZC s hb;try simp at u1
 rw[ah3];have hw:=λr=>aib (s:=s) (r:=r);have ia:=λp=>Up (s:=s) (p:=p);have er:oZ s=(lW s).bind λp=>(lf (bA 32 p.1)).map λw=>(⟨(((bz w).getD 0:Nat):Int),p.2.1,p.2.2⟩:bU):=rfl;rw[er] at hw⊢;clear er;generalize lW s=po at u1 hw ia⊢;cases po with
 |none=>
  have u2:=uk [] 32 (by simp);try simp at u1 u2
  simp -implicitDefEqProofs [oJ,u1,u2,cD]
 |some p=>
 obtain⟨f,fs,b⟩:=p;have hq:=ia _ rfl;simp only at hq;have u2:=uk f 32 (by omega);have hm:=pK 32 f;simp only[gx] at hw⊢;rcases dc:bA 32 f with _|⟨w0,_|⟨w1,_|⟨w2,_|⟨w3,ws⟩⟩⟩⟩;·exact absurd dc (zm 32 f)
 ·rw[dc] at u2;simp at u1 u2;simp -implicitDefEqProofs [oJ,u1,u2,lf,cD]
 ·rw[dc] at u2;simp at u1 u2;simp -implicitDefEqProofs [oJ,u1,u2,lf,cD]
 rotate_left
 ·rw[dc] at u2;have hn:¬((ws.length:Int)+1+1+1+1=3):=by omega
  simp at u1 u2;simp -implicitDefEqProofs [oJ,u1,u2,lf,cD,hn]
 rw[dc] at u2 hw;have hw1:=hm w1 (by rw[dc];simp);have u3:=Af w1 (by omega);have hr:=hw ⟨(((bz w1).getD 0:Nat):Int),fs,b⟩ rfl;have u4:=Qa ⟨(((bz w1).getD 0:Nat):Int),fs,b⟩ (by omega);simp only[lf,cv];obtain⟨n,hn⟩:∃n,(((bz w1).getD 0:Nat):Int)=n:=⟨_,rfl⟩;rw[hn] at u3 u4⊢;by_cases g0:s=[];·subst g0;simp at u1 u2 u3 u4;simp -implicitDefEqProofs [oJ,u1,u2,u3,cD]
 by_cases g:fA ⟨n,fs,b⟩=s;·rw[g] at u4;simp at u1 u2 u3 u4;simp -implicitDefEqProofs [oJ,u1,u2,u3,u4,g,g0,cD]
 simp at u1 u2 u3 u4;simp -implicitDefEqProofs [oJ,u1,u2,u3,u4,g,g0,cD];all_goals (repeat' split)<;>first|rfl|omega|simp_all<;>omega|skip
end M
set_option maxHeartbeats 4000000
namespace M
open Go
def X8(s:ag)(hb:s.length<=1073741824):
  aI (ak (ev LI TT) (aq TT) qT) [(0,.str ⟨s.toArray⟩),(4,.row .own 1 []),(5,.int .i64 0),(6,.int .i64 1)]=
  (match qi s with
   |.inl g=>some (.exit 0,[(0,.str ⟨s.toArray⟩),(4,.row .own 1 (g.1.map eS)),(5,.int .i64 g.2),(6,.int .i64 ((s.length - 1:Nat)+1:Nat)),(12,.bool false)])
   |.inr g=>some (.ret,[(2,.row .own 1 (g.1.map eS)),(3,.int .i64 g.2),(4,.dead)])):=by
 have:=B0 (xt:=0) (f:=ak (ev LI TT) (aq TT) qT) (s.drop 1) (λi (g:List ag×Nat)=>[(0,.str ⟨s.toArray⟩),(4,.row .own 1 (g.1.map eS)),(5,.int .i64 g.2),(6,.int .i64 ((i+1:Nat):Int))]) (λj=>gZ s (j+1))
  (λg=>[(0,.str ⟨s.toArray⟩),(4,.row .own 1 (g.1.map eS)),(5,.int .i64 g.2),(6,.int .i64 ((s.length - 1:Nat)+1:Nat)),(12,.bool false)])
  (λg=>(.ret,[(2,.row .own 1 (g.1.map eS)),(3,.int .i64 g.2),(4,.dead)]))
  (λi g=>g.1.length<=i/\g.2<=i+1) ([],0) (by simp) (λi b g hi hl hg=>?_) (λi b g g' hi hg hO=>?_) (λg hg=>?_)
 ·simp only[jh] at this;refine this.trans ?_;unfold qi;cases cT (λj=>gZ s (j+1)) 0 (s.drop 1) ([],0) with
  |inl g=>rfl
  |inr e=>rfl
 ·simp only[mA] at hl;have kr:i+1<s.length:=by omega
  have hi2:s[i+1]=b:=by rw[pS] at hi;have:=(aJ.1 hi);obtain⟨_,h⟩:=this;rw[<-h];congr 1;omega
  have xw:i<s.length:=by omega
  have hw:IntKind.i64.wrap ((i:Int)+1+1)=(i:Int)+1+1:=bO (by omega) (by omega);have dr:IntKind.i64.wrap (i:Int)=i:=bO (by omega) (by omega);have oE:(0:Int)<=(i:Int)+1:=by omega
  have hlz:(g.1.length+1)*16<=140737488355328:=by omega
  have hls:((i:Int)+1<s.length):=by omega
  have ht:s[i]?=some s[i]:=cz xw;have hle:(i:Int)<=s.length:=by omega
  unfold gZ;simp only[Nat.add_sub_cancel,ht];by_cases g1:b=10;rotate_left;·have dG:¬(b.toNat:Int)=10:=λh=>g1 (tP.1 (by show b.toNat=10;omega));simp -implicitDefEqProofs [qT,vV,kr,hls,hi2,hw,dr,oE,g1,dG,lv]
  subst g1;by_cases g2:s[i]=13;rotate_left;·have ke:¬((s[i]).toNat:Int)=13:=λh=>g2 (tP.1 (by show (s[i]).toNat=13;omega));simp -implicitDefEqProofs [qT,vV,kr,hls,hi2,hw,dr,oE,g2,ke,xw,lv]
  by_cases g3:g.2+1<=i+1;rotate_left
  ·have lH:(i:Int)<g.2:=by omega
   simp -implicitDefEqProofs [qT,vV,kr,hls,hi2,hw,dr,oE,g2,g3,lH,xw,lv]
  have lH:¬(i:Int)<g.2:=by omega
  have R9:(g.2:Int)<=i:=by omega
  have g5:1<=i+1:=by omega
  rw[zP];obtain⟨Y,hY⟩:∃Y,(s.drop g.2).take (i - g.2)=Y:=⟨_,rfl⟩;rw[hY];cases Y with
  |nil=>simp -implicitDefEqProofs [qT,vV,kr,hls,hi2,hw,dr,oE,g2,g3,lH,R9,hY,g5,xw,lv,hle,Lib.extract_mk]
  |cons y Y=>simp -implicitDefEqProofs [qT,vV,kr,hls,hi2,hw,dr,oE,g2,g3,lH,R9,hY,g5,xw,lv,hle,hlz,bJ,Lib.extract_mk]
 ·unfold gZ at hO;split at hO
  ·split at hO;·cases hO
   ·cases hO;simp;omega
  ·cases hO;omega
 ·have h0:¬(((s.length - 1:Nat):Int)+1<s.length):=by omega
  simp only[mA];simp -implicitDefEqProofs [qT,vV,h0]
def ZX(s:ag)(hb:s.length<=1073741824):ev LI TT 213 [.str ⟨s.toArray⟩]=some (.av [.row .own 1 ((iE s).map eS),.int .i64 (lM s)],[.dead]):=by
 rw[au (b:=Dg) (rs:=[.t 2,.t 3]) (n:=1) rfl rfl];have u1:=X8 s hb;try simp at u1
 unfold iE lM;cases hr:qi s with
 |inl g=>rw[hr] at u1;simp at u1;simp -implicitDefEqProofs [Dg,u1]
 |inr g=>
 rw[hr] at u1;simp at u1;simp -implicitDefEqProofs [Dg,u1];all_goals (repeat' split)<;>first|rfl|omega|simp_all<;>omega|skip
def EH(i:Nat)(_:Unit)(x:UInt8×UInt8):Unit ⊕ Nat:=if rS x=true then .inr i else .inl ()
def Q7:∀(l:List (UInt8×UInt8)) (i:Nat),cT EH i l ()=match cL rS i l with
  |some (k,_)=>.inr k
  |none=>.inl ()
 |[],_=>rfl
 |x::l,i=>by
  rw[cT,cL];unfold EH;cases h:rS x;·simp only[fD,dQ];exact Q7 l (i+1)
  ·simp
def X6(ls:List ag)(i:Nat)(hi:i<ls.length)(fs:List aK)(hm:ls[i].length<=1073741824)(hf:fs.length<=1073741824):
  aI (ak (ev LI TT) (aq TT) tF) [(0,.row .af 1 (ls.map eS)),(3,.row .own 2 (fs.map aS)),(4,.int .i64 i),(5,.int .i64 0)]=
  (match ux ls[i] with
   |none=>some (.exit 2,[(0,.row .af 1 (ls.map eS)),(3,.row .own 2 (fs.map aS)),(4,.int .i64 i),(5,.int .i64 (ls[i].zip (ls[i].drop 1)).length),(21,.bool false)])
   |some (k,_)=>some (.exit 2,[(0,.row .af 1 (ls.map eS)),(3,.row .own 2 ((fs++ic ls[i]).map aS)),(4,.int .i64 i)])):=by
 have:=B0 (xt:=2) (f:=ak (ev LI TT) (aq TT) tF) (ls[i].zip (ls[i].drop 1)) (λk (_:Unit)=>[(0,.row .af 1 (ls.map eS)),(3,.row .own 2 (fs.map aS)),(4,.int .i64 i),(5,.int .i64 k)]) EH
  (λ_=>[(0,.row .af 1 (ls.map eS)),(3,.row .own 2 (fs.map aS)),(4,.int .i64 i),(5,.int .i64 (ls[i].zip (ls[i].drop 1)).length),(21,.bool false)])
  (λk=>(.exit 2,[(0,.row .af 1 (ls.map eS)),(3,.row .own 2 ((fs++(if ls[i].take k=dK then [] else [(⟨ls[i].take k,ls[i].drop (k+2)⟩:aK)])).map aS)),(4,.int .i64 i)]))
  (λ_ _=>True) () trivial (λk b _ hk hl _=>?_) (λ_ _ _ _ _ _ _=>trivial) (λ_ _=>?_)
 ·refine this.trans ?_;rw[Q7];unfold ic ux;cases cL rS 0 (ls[i].zip (ls[i].drop 1)) with
  |none=>rfl
  |some x=>rfl
 ·have hlz:k+1<ls[i].length:=by simp at hl;omega
  have hk1:k<ls[i].length:=by omega
  obtain⟨q1,q2⟩:=Pj.1 hk;obtain⟨_,h1⟩:=aJ.1 q1;rw[pS,oh] at q2;obtain⟨_,h2⟩:=aJ.1 q2;clear q1 q2;have oE:(0:Int)<=(k:Int)+1:=by omega
  have KY:(0:Int)<=(k:Int)+2:=by omega
  have Ss:((k:Int)+2).toNat=k+2:=by omega
  have htk:(ls[i].drop (k+2)).take (ls[i].length - (k+2))=ls[i].drop (k+2):=tM (by simp);have hw:=aU k (by omega);have dr:IntKind.i64.wrap ((k:Int)+2)=k+2:=bO (by omega) (by omega);have hla:(fs.length+1)*32<=140737488355328:=by omega
  have hls:((k:Int)+1<ls[i].length):=by omega
  have hle:(k:Int)<=ls[i].length:=by omega
  have hle2:(k:Int)+2<=ls[i].length:=by omega
  obtain⟨b1,b2⟩:=b;simp only at h1 h2;unfold EH rS;simp only;by_cases g1:b1=58;rotate_left;·have dG:¬(b1.toNat:Int)=58:=λh=>g1 (tP.1 (by show b1.toNat=58;omega));simp -implicitDefEqProofs [tF,ze,hi,hk1,hls,h1,hw,oE,g1,dG,lv]
  by_cases g2:b2=32;rotate_left;·have ke:¬(b2.toNat:Int)=32:=λh=>g2 (tP.1 (by show b2.toNat=32;omega));simp -implicitDefEqProofs [tF,ze,hi,hk1,hlz,hls,h1,h2,hw,oE,KY,g1,g2,ke,lv]
  subst g1 g2;by_cases g3:ls[i].take k=dK;·have lH:ls[i].take k=[99,111,110,116,101,110,116,45,108,101,110,103,116,104]:=g3;simp -implicitDefEqProofs [tF,ze,Df,hi,hk1,hlz,hls,h1,h2,hw,oE,KY,Ss,htk,dr,g3,lH,lv,hle,hle2,Lib.extract_mk,dK]
  ·have lH:¬ls[i].take k=[99,111,110,116,101,110,116,45,108,101,110,103,116,104]:=g3;simp -implicitDefEqProofs [tF,ze,Df,hi,hk1,hlz,hls,h1,h2,hw,oE,KY,Ss,htk,dr,g3,lH,lv,hle,hle2,hla,bJ,Lib.extract_mk]
 ·have hlen:(ls[i].zip (ls[i].drop 1)).length=ls[i].length - 1:=by simp
  have h0:¬(((ls[i].length - 1:Nat):Int)+1<ls[i].length):=by omega
  have hw:=aU (ls[i].length - 1) (by omega);simp only[hlen];simp -implicitDefEqProofs [tF,ze,hi,h0,hw]
def X7(ls:List ag)(hm:∀l∈ls,l.length<=1073741824)(hb:ls.length<=1073741824):aI (ak (ev LI TT) (aq TT) zf) [(0,.row .af 1 (ls.map eS)),(3,.row .own 2 (([]).map aS)),(4,.int .i64 0)]=some (.exit 0,[(0,.row .af 1 (ls.map eS)),(3,.row .own 2 ((((ls).flatMap ic)).map aS)),(4,.int .i64 (ls).length),(11,.bool false)]):=by
 refine oO (f:=ak (ev LI TT) (aq TT) zf) (ls) ic (λi out=>[(0,.row .af 1 (ls.map eS)),(3,.row .own 2 ((out).map aS)),(4,.int .i64 i)]) (λout=>[(0,.row .af 1 (ls.map eS)),(3,.row .own 2 ((out).map aS)),(4,.int .i64 (ls).length),(11,.bool false)]) (λi b out hi hl hout=>?_) (λout hout=>?_)
 ·have hw:=aU i (by first|omega|(simp at hl;omega));obtain⟨_,rfl⟩:=aJ.1 hi;have hlo:out.length<=i:=by rw[hout];exact E6 _ (λb=>by unfold ic;split<;>(try split)<;>simp) _ _
  have u1:=X6 ls i hl out (hm _ (cq hl)) (by omega);cases hc:ux ls[i] with
  |none=>
   rw[hc] at u1;have hz:ic ls[i]=[]:=by unfold ic;rw[hc]
   try simp at u1
   simp -implicitDefEqProofs [zf,Ij,hl,hw,u1,hz]
  |some x=>
  obtain⟨k,x⟩:=x;rw[hc] at u1;try simp at u1
  simp -implicitDefEqProofs [zf,Ij,hl,hw,u1]
 ·simp -implicitDefEqProofs [zf,Ij]
def ZW(ls:List ag)(hm:∀l∈ls,l.length<=1073741824)(hb:ls.length<=1073741824):ev LI TT 214 [.row .af 1 (ls.map eS)]=some (.row .own 2 ((ls.flatMap ic).map aS),[.dead]):=by
 rw[au (b:=Ik) (rs:=[.t 2]) (n:=1) rfl rfl];have u1:=X7 ls hm hb;try simp at u1
 simp -implicitDefEqProofs [Ik,u1,Df];all_goals (repeat' split)<;>first|rfl|omega|simp_all<;>omega|skip
def ZP(s:ag)(hb:s.length<=16777216):ev LI TT 191 [.str ⟨s.toArray⟩]=some (.av [.agg (ga .own ((cX s).1)),.bool ((cX s).2)],[.dead]):=by
 rw[au (b:=pg) (rs:=[.c 2 3 true 34,.t 3]) (n:=1) rfl rfl];have u1:=ZX s (by omega);try simp at u1
 rw[ah4];have hw:=λr=>aif (s:=s) (r:=r);have hh:=SO s;have Lo:∀l∈iE s,l.length<=16777216:=λl hl=>by have:=q5 (w:=wS) hl;simp only[wS] at this;omega
 have sB:=bh (w:=wS) (iE s);have er:o7 s=(if 0<=lM s/\iE s≠[] then (lf (bA 32 ((iE s).headD []))).map λw=>(⟨(((bz w).getD 0:Nat):Int),(iE s).tail.flatMap ic,s.drop (lM s).toNat⟩:bU) else none):=rfl;rw[er] at hw⊢;clear er;generalize iE s=ls at u1 hw hh Lo sB⊢;generalize lM s=n at u1 hw hh⊢;by_cases g1:0<=n;rotate_left
 ·have dG:n<0:=by omega
  simp -implicitDefEqProofs [pg,u1,g1,dG,cD]
 have dG:¬n<0:=by omega
 cases ls with
 |nil=>simp at u1;simp -implicitDefEqProofs [pg,u1,g1,dG,cD]
 |cons l0 lt=>
 have hl0:=Lo l0 (by simp);have u2:=wT l0 (by omega);have hm:=pK 32 l0;simp only[List.headD_cons,List.tail_cons] at hw⊢;have g2:0<=n/\l0::lt≠[]:=⟨g1,by simp⟩;have g3:¬((lt.length:Int)+1=0):=by omega
 rw[ax g2] at hw⊢;rcases dc:bA 32 l0 with _|⟨w0,_|⟨w1,_|⟨w2,_|⟨w3,ws⟩⟩⟩⟩;·exact absurd dc (zm 32 l0)
 ·rw[dc] at u2;simp at u1 u2;simp -implicitDefEqProofs [pg,u1,u2,lf,cD,dG,g3]
 ·rw[dc] at u2;simp at u1 u2;simp -implicitDefEqProofs [pg,u1,u2,lf,cD,dG,g3]
 rotate_left
 ·rw[dc] at u2;have hn:¬((ws.length:Int)+1+1+1+1=3):=by omega
  simp at u1 u2;simp -implicitDefEqProofs [pg,u1,u2,lf,cD,hn,dG,g3]
 rw[dc] at u2 hw;have hw1:=hm w1 (by rw[dc];simp);have u3:=wQ w1 (by omega);have u5:=ZW lt (λl hl=>by have:=Lo l (bY _ hl);omega) (by simp at sB;omega);have hr:=hw ⟨(((bz w1).getD 0:Nat):Int),lt.flatMap ic,s.drop n.toNat⟩ rfl;have u4:=QA ⟨(((bz w1).getD 0:Nat):Int),lt.flatMap ic,s.drop n.toNat⟩ (by omega);have hn2:n<=s.length:=hh.2.1;have S3:(lt.map eS).take lt.length=lt.map eS:=tM (by simp);have xA:(1:Int)<=(lt.length:Int)+1:=by omega
 have htk:(s.drop n.toNat).take (s.length - n.toNat)=s.drop n.toNat:=tM (by simp);simp only[lf,cv];obtain⟨st,hst⟩:∃st,(((bz w1).getD 0:Nat):Int)=st:=⟨_,rfl⟩;rw[hst] at u3 u4⊢;by_cases g:fA ⟨st,lt.flatMap ic,s.drop n.toNat⟩=s;·rw[g] at u4;simp at u1 u2 u3 u4 u5;simp -implicitDefEqProofs [pg,Hq,Hr,u1,u2,u3,u4,u5,g,g1,dG,g3,hn2,xA,htk,S3,cD,Lib.extract_mk]
 simp at u1 u2 u3 u4 u5;simp -implicitDefEqProofs [pg,u1,u2,u3,u4,u5,g,g1,dG,g3,hn2,xA,htk,S3,cD,Lib.extract_mk,Hq,Hr];all_goals (repeat' split)<;>first|rfl|omega|simp_all<;>omega|skip
end M
set_option maxHeartbeats 4000000
namespace M
open Go
def MW(s:ag):bH (cX s).1<=800:=by
 cases h:(cX s).2;·have:cX s=(cD,false):=UE h;rw[this];decide
 ·exact MU (UF h).1
def VP(fs:List aK):wL wS (dB fs)<=(wL aP fs+1)*(wL aP fs+1):=by refine pM (λw hw=>?_) (IY fs);unfold dB at hw;obtain⟨x,hx,rfl⟩:=bw.1 hw;have h1:=DA _ x hx;have h2:=uE fs ju;simp only[wS,cK,cV];omega
def VR(s:ag):wL wS (dB (cX s).1.fields)<=641601:=by
 have h1:=MW s;have h2:=VP (cX s).1.fields;have h3:wL aP (cX s).1.fields+1<=801:=by have:bH (cX s).1=wL aP (cX s).1.fields+(cX s).1.body.length:=rfl;omega
 exact jF h2 (OX h3 h3)
def Kt(s:ag):(fZ s).1.length<=s.length/\(fZ s).2.length<=s.length:=by
 unfold fZ;cases h:cF 10 s with
 |none=>simp
 |some p=>have:=uy h;simp only[tO];omega
def Rc(s:ag):∃b,Lib.cut s [10]=((fZ s).1,(fZ s).2,b):=by
 rw[EO];unfold fZ;cases h:cF 10 s with
 |none=>exact⟨_,rfl⟩
 |some p=>exact⟨_,rfl⟩
def Vu:∀(n:Nat) (s:ag),(ei n s).1.length=n/\(∀v∈(ei n s).1,v.length<=s.length)/\(ei n s).2.length<=s.length
 |0,s=>by simp[ei]
 |n+1,s=>by
  have h1:=Kt s;have ih:=Vu n (fZ s).2;rw[ei];refine⟨by simp[ih.1],λv hv=>?_,by simp only;omega⟩;rcases b9.1 hv with rfl|hv;·exact h1.1
  ·have:=ih.2.1 v hv;omega
def PB(s p:ag)(tt:Int)(n:Nat)(hn:n<=4):∀(m i:Nat) (g:List ag) (t:ag),i+m=n->g.length=i->t.length<=16777216->
  aI (ak (ev LI TT) (aq TT) Bx) [(0,.str ⟨s.toArray⟩),(2,.ptr .own (aW .own dm)),(5,.str ⟨t.toArray⟩),(12,.ptr .own (aW .own ⟨p,[],g,cD,tt⟩)),(60,.int .i64 n),(61,.int .i64 i)]=some (.exit 0,[(0,.str ⟨s.toArray⟩),(2,.ptr .own (aW .own dm)),(5,.str ⟨((ei m t).2).toArray⟩),(12,.ptr .own (aW .own ⟨p,[],g++(ei m t).1,cD,tt⟩)),(60,.int .i64 n),(61,.int .i64 n),(62,.bool false)])
 |0,i,g,t,hi,hg,ht=>by
  have:i=n:=by omega
  subst this;rw[cW];simp -implicitDefEqProofs [Bx,LJ,ei,cD,dm]
 |m+1,i,g,t,hi,hg,ht=>by
  have hl:i<n:=by omega
  have hw:=aU i (by omega);obtain⟨b,hb⟩:=Rc t;have u1:=wU t [10] (by omega);rw[hb] at u1;have hlz:(g.length+1)*16<=140737488355328:=by omega
  have hc:=Kt t
  have hstep:ak (ev LI TT) (aq TT) Bx [(0,.str ⟨s.toArray⟩),(2,.ptr .own (aW .own dm)),(5,.str ⟨t.toArray⟩),(12,.ptr .own (aW .own ⟨p,[],g,cD,tt⟩)),(60,.int .i64 n),(61,.int .i64 i)]=some (.normal,[(0,.str ⟨s.toArray⟩),(2,.ptr .own (aW .own dm)),(5,.str ⟨((fZ t).2).toArray⟩),(12,.ptr .own (aW .own ⟨p,[],g++[(fZ t).1],cD,tt⟩)),(60,.int .i64 n),(61,.int .i64 ((i+1:Nat):Int))]):=by
   try simp at u1
   simp -implicitDefEqProofs [Bx,LJ,cD,dm,hl,hw,u1,hlz,bJ]
  rw[cW,hstep];have ih:=PB s p tt n hn m (i+1) (g++[(fZ t).1]) (fZ t).2 (by omega) (by simp;omega) (by omega);rw[mz] at ih;exact ih
def Zi(s:ag)(hb:s.length<=16777216):ev LI TT 150 [.str ⟨s.toArray⟩]=some (.av [.agg (aW .own ((ig s).1)),.bool ((ig s).2)],[.dead]):=by
 rw[au (b:=oI) (rs:=[.c 2 7 true 36,.t 3]) (n:=1) rfl rfl];have u1:=wU s [10] (by omega);obtain⟨cb,hcb⟩:=Rc s;rw[hcb] at u1;have hc:=Kt s;rw[agN];have eo:yd s=(mg (bA 32 (fZ s).1)).bind λw=>(bz w.2.1).bind λt=>(bz w.2.2).bind λn=>Cb w.1 t n (fZ s).2:=rfl;rw[eo];clear eo hcb;generalize fZ s=ln at u1 hc⊢;obtain⟨l,b⟩:=ln;simp only at u1 hc⊢;have u2:=uk l 32 (by omega);have hm:=pK 32 l;by_cases h4:(bA 32 l).length=4;rotate_left
 ·have si:¬(((bA 32 l).length:Int)=4):=by omega
  have Lw:mg (bA 32 l)=none:=by unfold mg;split;(rename_i e;rw[e] at h4;simp at h4);rfl
  rw[Lw];try simp at u1 u2
  simp -implicitDefEqProofs [oI,u1,u2,si,dm,cD]
 obtain⟨w0,w1,w2,w3,hw⟩:=Gv h4;rw[hw] at u2 hm⊢;have Fx:=hm w1 (by simp);have u3:=Af w2 (by have:=hm w2 (by simp);omega);have u4:=Af w3 (by have:=hm w3 (by simp);omega);simp only[mg,gx];cases h2:bz w2 with
 |none=>rw[h2] at u3;simp at u1 u2 u3 u4;simp -implicitDefEqProofs [oI,u1,u2,u3,u4,dm,cD]
 |some t=>
 cases h3:bz w3 with
 |none=>rw[h2] at u3;rw[h3] at u4;simp at u1 u2 u3 u4;simp -implicitDefEqProofs [oI,u1,u2,u3,u4,dm,cD]
 |some n=>
 rw[h2] at u3;rw[h3] at u4;simp only[gx];unfold Cb;by_cases g:n<=4;rotate_left
 ·have g':4<(n:Int):=by omega
  simp at u1 u2 u3 u4;simp -implicitDefEqProofs [oI,u1,u2,u3,u4,g,g',dm,cD]
 have g':¬4<(n:Int):=by omega
 have u5:=PB s w1 (t:Nat) n g n 0 [] b (by omega) rfl (by omega);have hv:=Vu n b;have u6:=Zj (ei n b).2 (by omega);have hrw:=MW (ei n b).2;have hvw:=VR (ei n b).2;have hrf:bH (cX (ei n b).2).1=wL aP (cX (ei n b).2).1.fields+(cX (ei n b).2).1.body.length:=rfl;have u7:=Qf (cX (ei n b).2).1.fields (by omega);have hvs:wL wS (ei n b).1<=4*(16777216+1):=pM (λv ey=>by have:=hv.2.1 v ey;simp only[wS];omega) (by omega);have u8:=J1 ⟨w1,dB (cX (ei n b).2).1.fields,(ei n b).1,(cX (ei n b).2).1,(t:Nat)⟩ (by simp only[bG];omega);rw[ax g];generalize dB (cX (ei n b).2).1.fields=vo at u7 u8⊢;generalize cX (ei n b).2=rr at u6 u7 u8⊢;obtain⟨⟨M4,MZ,MP⟩,UL⟩:=rr;simp only at u6 u7 u8⊢;generalize ei n b=tv at u5 u6 u8⊢;obtain⟨vs,rest⟩:=tv;simp only[dm,cD,kI] at u5 u6 u8⊢;simp at u1 u2 u3 u4 u5 u6 u7;cases UL;·simp -implicitDefEqProofs [oI,u1,u2,u3,u4,u5,u6,u7,g']
 by_cases gt:dD ⟨w1,vo,vs,⟨M4,MZ,MP⟩,(t:Int)⟩=s;·rw[gt] at u8;simp at u8;simp -implicitDefEqProofs [oI,u1,u2,u3,u4,u5,u6,u7,u8,g',gt]
 simp at u8;simp -implicitDefEqProofs [oI,u1,u2,u3,u4,u5,u6,u7,u8,g',gt,eq_false gt];all_goals (repeat' split)<;>first|rfl|omega|simp_all<;>omega|skip
def kF:Nat->ag->Option (List ag×ag)
 |0,s=>some ([],s)
 |n+1,s=>(cF 10 s).bind λp=>(kF n p.2).map λq=>(p.1::q.1,q.2)
def Vs:∀(n:Nat) (s:ag) (q:List ag×ag),kF n s=some q->q.1.length=n/\(∀v∈q.1,v.length<=s.length)/\q.2.length<=s.length/\s.drop (s.length - q.2.length)=q.2
 |0,s,q,h=>by simp[kF] at h;subst h;simp
 |n+1,s,q,h=>by
  rw[kF] at h;obtain⟨p,h1,h2⟩:=lp.1 h;obtain⟨r,h3,rfl⟩:=lq.1 h2;have hd:=uy h1;have ih:=Vs n p.2 r h3;refine⟨by simp[ih.1],λv hv=>?_,by simp only;omega,?_⟩
  ·rcases b9.1 hv with rfl|hv;·omega
   ·have:=ih.2.1 v hv;omega
  ·simp only;have e:s.length - r.2.length=(s.length - p.2.length)+(p.2.length - r.2.length):=by omega
   rw[e,<-DW,hd.2.1];exact ih.2.2.2
def Vr(r:ag):∀(l:List ag),(∀v∈l,bR 10 v)->kF l.length (iJ l++r)=some (l,r)
 |[],_=>rfl
 |v::l,h=>by
  have e:iJ (v::l)++r=v++10::(iJ l++r):=by simp[iJ]
  rw[e,cw,kF,Ks v _ (h v (bD ..))];simp only[gx];rw[Vr r l λx hx=>h x (bY _ hx)];rfl
noncomputable def yf(s:ag):Option Ob:=(cF 10 s).bind λc=>(mg (bA 32 c.1)).bind λw=>(kF (min ((bz w.2.2).getD 0) 4) c.2).map λq=>⟨w.1,dB (cX q.2).1.fields,q.1,(cX q.2).1,(((bz w.2.1).getD 0:Nat):Int)⟩
def agQ:yf []=none:=by simp[yf,cF]
def agP{o:Ob}(ho:dw o=true):yf (lV o)=some o:=by
 have h:=ye ho;unfold yf lV;rw[Ks _ _ (T8 h)];simp only[gx];rw[T9 h];have h0:=h.t0;have h1:=h.t1;have hl:=h.len;have h4:=h.n4
 have hn:bz (cy o.t)=some o.t.toNat:=by
  have e:o.t=((o.t.toNat:Nat):Int):=by omega
  rw[e,MC _ (by omega)];simp;omega
 have hd:bz (aL o.values.length)=some o.values.length:=lU.2 ⟨by omega,rfl⟩;simp only[mg,gx,hn,hd,tO];rw[mq (by omega),Vr (gm o.resp) o.values (VM h)];have h2:cX (gm o.resp)=(o.resp,true):=UD (cand:=oZ) (λr h=>M1 h) h.resp;simp only[cv,h2];have ht:((o.t.toNat:Nat):Int)=o.t:=by omega
 rw[ht,<-h.VO]
def agO(s:ag):ig s=match yf s with
  |some o=>if dD o=s then (o,true) else (dm,false)
  |none=>(dm,false):=Ua (λo h=>agP h) agQ s
end M
set_option maxHeartbeats 4000000
namespace M
open Go
def PC(s p:ag)(tt:Int)(n:Nat)(hn:n<=1000000)(hs:s.length<=16777216):∀(m i:Nat) (g:List ag) (t:ag),i+m=min n 4->g.length=i->t.length<=s.length->s.drop (s.length - t.length)=t->
  (∀q,kF m t=some q->aI (ak (ev LI TT) (aq TT) ng) [(0,.str ⟨s.toArray⟩),(2,.ptr .own (aW .own dm)),(5,.int .i64 ((s.length - t.length:Nat):Int)),(9,.int .i64 n),(11,.ptr .own (aW .own ⟨p,[],g,cD,tt⟩)),(12,.int .i64 i)]=some (.exit 0,[(0,.str ⟨s.toArray⟩),(2,.ptr .own (aW .own dm)),(5,.int .i64 ((s.length - q.2.length:Nat):Int)),(9,.int .i64 n),(11,.ptr .own (aW .own ⟨p,[],g++q.1,cD,tt⟩)),(12,.int .i64 (min n 4:Nat)),(59,.bool false)]))/\
  (kF m t=none->∃g' j,aI (ak (ev LI TT) (aq TT) ng) [(0,.str ⟨s.toArray⟩),(2,.ptr .own (aW .own dm)),(5,.int .i64 ((s.length - t.length:Nat):Int)),(9,.int .i64 n),(11,.ptr .own (aW .own ⟨p,[],g,cD,tt⟩)),(12,.int .i64 i)]=some (.exit 0,[(0,.str ⟨s.toArray⟩),(2,.ptr .own (aW .own dm)),(5,.int .i64 (-1)),(9,.int .i64 n),(11,.ptr .own (aW .own ⟨p,[],g',cD,tt⟩)),(12,.int .i64 j),(59,.bool false)]))
 |0,i,g,t,hi,hg,ht,hd=>by
  refine⟨λq hq=>?_,λh=>by simp[kF] at h⟩;simp[kF] at hq;subst hq;have:i=min n 4:=by omega
  rw[<-this];rw[cW];by_cases g1:(i:Int)<n
  ·have g2:¬(i:Int)<4:=by omega
   have dG:i<n:=by omega
   have ke:¬i<4:=by omega
   simp -implicitDefEqProofs [ng,td,cD,dm,g1,g2,dG,ke]
  ·have dG:¬i<n:=by omega
   simp -implicitDefEqProofs [ng,td,cD,dm,g1,dG]
 |m+1,i,g,t,hi,hg,ht,hd=>by
  have g1:i<n:=by omega
  have g2:i<4:=by omega
  have dG:(i:Int)<n:=by omega
  have ke:(i:Int)<4:=by omega
  have hw:=aU i (by omega);have u1:=Ey s (s.length - t.length) (by omega) (by omega);unfold xV xU at u1;rw[hd] at u1;have hlz:(g.length+1)*16<=140737488355328:=by omega
  have iD:(0:Int)<=((s.length - t.length:Nat):Int):=by omega
  obtain⟨e,he⟩:∃e,s.length - t.length=e:=⟨_,rfl⟩;rw[kF];cases hc:cF 10 t with
  |none=>
   refine⟨λq hq=>by simp at hq,λ_=>⟨g++[[]],(i+1:Nat),?_⟩⟩;rw[hc] at u1;rw[he] at u1 iD⊢
   have hstep:ak (ev LI TT) (aq TT) ng [(0,.str ⟨s.toArray⟩),(2,.ptr .own (aW .own dm)),(5,.int .i64 (e:Int)),(9,.int .i64 n),(11,.ptr .own (aW .own ⟨p,[],g,cD,tt⟩)),(12,.int .i64 i)]=some (.normal,[(0,.str ⟨s.toArray⟩),(2,.ptr .own (aW .own dm)),(5,.int .i64 (-1)),(9,.int .i64 n),(11,.ptr .own (aW .own ⟨p,[],g++[[]],cD,tt⟩)),(12,.int .i64 ((i+1:Nat):Int))]):=by
    try simp at u1
    simp -implicitDefEqProofs [ng,td,cD,dm,g1,g2,dG,ke,hw,u1,hlz,bJ]
   rw[cW,hstep];show aI _ _=_;rw[cW];by_cases g3:i+1<n
   ·have lH:(i:Int)+1<n:=by omega
    by_cases g4:i+1<4
    ·have sg:(i:Int)+1<4:=by omega
     simp -implicitDefEqProofs [ng,td,cD,dm,g3,lH,g4,sg]
    ·have sg:¬(i:Int)+1<4:=by omega
     simp -implicitDefEqProofs [ng,td,cD,dm,g3,lH,g4,sg]
   ·have lH:¬(i:Int)+1<n:=by omega
    simp -implicitDefEqProofs [ng,td,cD,dm,g3,lH]
  |some c=>
   obtain⟨l,r⟩:=c;have bx:=uy hc;simp only at bx;rw[hc] at u1;simp only at u1;have e2:(s.length - t.length)+(t.length - r.length)=s.length - r.length:=by omega
   have aey:s.drop (s.length - r.length)=r:=by rw[<-e2,<-DW,hd];exact bx.2.1
   have ih:=PC s p tt n hn hs m (i+1) (g++[l]) r (by omega) (by simp;omega) (by omega) aey;obtain⟨f,hf⟩:∃f,s.length - r.length=f:=⟨_,rfl⟩
   have u2:ev LI TT 188 [.str ⟨s.toArray⟩,.int .i64 (e:Int)]=some (.av [.str ⟨l.toArray⟩,.int .i64 (f:Int)],[.dead,.dead]):=by
    rw[he] at u1;have:(s.length:Int) - r.length=(f:Int):=by omega
    first|exact u1|(simp at u1⊢;rw[u1];simp;omega)|(rw[u1];simp;omega)
   rw[he] at iD⊢;rw[hf] at ih
   have hstep:ak (ev LI TT) (aq TT) ng [(0,.str ⟨s.toArray⟩),(2,.ptr .own (aW .own dm)),(5,.int .i64 (e:Int)),(9,.int .i64 n),(11,.ptr .own (aW .own ⟨p,[],g,cD,tt⟩)),(12,.int .i64 i)]=some (.normal,[(0,.str ⟨s.toArray⟩),(2,.ptr .own (aW .own dm)),(5,.int .i64 (f:Int)),(9,.int .i64 n),(11,.ptr .own (aW .own ⟨p,[],g++[l],cD,tt⟩)),(12,.int .i64 ((i+1:Nat):Int))]):=by
    try simp at u2
    simp -implicitDefEqProofs [ng,td,cD,dm,g1,g2,dG,ke,hw,u2,hlz,bJ]
   refine⟨λq hq=>?_,λhq=>?_⟩;·obtain⟨q',h1,rfl⟩:=lq.1 hq;rw[cW,hstep];have:=ih.1 q' h1;rw[mz] at this;exact this
   ·have h1:kF m r=none:=by simpa using hq
    obtain⟨g',j,h2⟩:=ih.2 h1;refine⟨g',j,?_⟩;rw[cW,hstep];exact h2
def ZN(s:ag)(hb:s.length<=16777216):ev LI TT 164 [.str ⟨s.toArray⟩]=some (.av [.agg (aW .own ((ig s).1)),.bool ((ig s).2)],[.dead]):=by
 rw[au (b:=tf) (rs:=[.c 2 7 true 36,.t 3]) (n:=1) rfl rfl];have u1:=Ey s 0 (by omega) (by omega);simp only[xV,xU,Jt] at u1;rw[agO];have eo:yf s=(cF 10 s).bind λc=>(mg (bA 32 c.1)).bind λw=>(kF (min ((bz w.2.2).getD 0) 4) c.2).map λq=>(⟨w.1,dB (cX q.2).1.fields,q.1,(cX q.2).1,(((bz w.2.1).getD 0:Nat):Int)⟩:Ob):=rfl;rw[eo];clear eo;cases hc:cF 10 s with
 |none=>rw[hc] at u1;have u2:=wT [] (by simp);simp at u1 u2;simp -implicitDefEqProofs [tf,u1,u2,dm,cD]
 |some c=>
 obtain⟨l,b⟩:=c;rw[hc] at u1;have hd:=uy hc;simp only at hd;obtain⟨d1,d2,d3⟩:=hd;have u2:=wT l (by omega);have hm:=pK 32 l;have d4:¬(((s.length - b.length:Nat):Int)<0):=by omega
 simp only[gx] at u1⊢;by_cases h4:(bA 32 l).length=4;rotate_left
 ·have si:¬(((bA 32 l).length:Int)=4):=by omega
  have Lw:mg (bA 32 l)=none:=by unfold mg;split;(rename_i e;rw[e] at h4;simp at h4);rfl
  rw[Lw];obtain⟨e,he⟩:∃e,s.length - b.length=e:=⟨_,rfl⟩;rw[he] at u1 d4;try simp at u1 u2
  simp -implicitDefEqProofs [tf,u1,u2,si,d4,dm,cD]
 obtain⟨w0,w1,w2,w3,hw⟩:=Gv h4;rw[hw] at u2 hm⊢;have u3:=wQ w2 (by have:=hm w2 (by simp);omega);have u4:=wQ w3 (by have:=hm w3 (by simp);omega);have Fx:=hm w1 (by simp);simp only[mg,gx];obtain⟨n,hn⟩:∃n,(bz w3).getD 0=n:=⟨_,rfl⟩
 have hnb:n<=1000000:=by
  rw[<-hn];cases hq:bz w3 with
  |none=>simp
  |some x=>have:=(lU.1 hq).1;simp;omega
 rw[hn] at u4⊢;obtain⟨t,ht⟩:∃t,(((bz w2).getD 0:Nat):Int)=t:=⟨_,rfl⟩;rw[ht] at u3⊢;have u5:=PC s w1 t n hnb hb (min n 4) 0 [] b (by omega) rfl (by omega) d2;obtain⟨e,he⟩:∃e,s.length - b.length=e:=⟨_,rfl⟩;rw[he] at u1 d4 u5;cases hq:kF (min n 4) b with
 |none=>obtain⟨g',j,u6⟩:=u5.2 hq;simp[cD,dm] at u1 u2 u3 u4 u6;simp -implicitDefEqProofs [tf,u1,u2,u3,u4,u6,d4,dm,cD]
 |some q=>
 have u6:=u5.1 q hq;have hv:=Vs _ _ _ hq;obtain⟨vs,rest⟩:=q;simp only[cv] at hv u6⊢;have hrl:rest.length<=s.length:=by omega
 have bx:s.drop (s.length - rest.length)=rest:=by
  have e2:(s.length - b.length)+(b.length - rest.length)=s.length - rest.length:=by omega
  rw[<-e2,<-DW,d2];exact hv.2.2.2
 have u7:=ZP rest (by omega);have hrw:=MW rest;have hvw:=VR rest;have hrf:bH (cX rest).1=wL aP (cX rest).1.fields+(cX rest).1.body.length:=rfl;have u8:=Ev (cX rest).1.fields (by omega);have hvs:wL wS vs<=4*(16777216+1):=pM (λv ey=>by have:=hv.2.1 v ey;simp only[wS];omega) (by omega);have u9:=Qx ⟨w1,dB (cX rest).1.fields,vs,(cX rest).1,t⟩ (by simp only[bG];omega);generalize dB (cX rest).1.fields=vo at u8 u9⊢;generalize cX rest=rr at u7 u8 u9⊢;obtain⟨⟨M4,MZ,MP⟩,UL⟩:=rr;simp only at u7 u8 u9⊢;obtain⟨f,hf⟩:∃f,s.length - rest.length=f:=⟨_,rfl⟩;rw[hf] at u6 bx;have d5:¬((f:Int)<0):=by omega
 have d6:(f:Int)<=s.length:=by omega
 have d7:(s.drop f).take (s.length - f)=s.drop f:=tM (by simp);rw[bx] at d7;simp only[dm,cD,kI] at u6 u9⊢;simp at u1 u2 u3 u4 u6 u7 u8;by_cases gt:dD ⟨w1,vo,vs,⟨M4,MZ,MP⟩,t⟩=s;·rw[gt] at u9;simp at u9;simp -implicitDefEqProofs [tf,u1,u2,u3,u4,u6,u7,u8,u9,d4,d5,d6,d7,bx,gt,Lib.extract_mk]
 simp at u9;simp -implicitDefEqProofs [tf,u1,u2,u3,u4,u6,u7,u8,u9,d4,d5,d6,d7,bx,gt,eq_false gt,Lib.extract_mk];all_goals (repeat' split)<;>first|rfl|omega|simp_all<;>omega|skip
end M
set_option maxHeartbeats 4000000
namespace M
open Go
def mR{α:Type}(T:List α)(n:Nat)(a:α)(h:T[n]?=some a)(g:α->α):T.modify n g=T.set n (g a):=by
 apply gy;intro j;rw[tR,ru];by_cases e:n=j;·subst e;obtain⟨hi,hh⟩:=aJ.1 h;have hg:T[n]=a:=hh;simp[hg,hi]
 ·simp[e]
def kE{α:Type}(T:List α)(n:Nat)(a:α)(g:α->α):(T.set n a).modify n g=T.set n (g a):=by
 apply gy;intro j;rw[tR,ru,ru];by_cases e:n=j;·subst e;by_cases h:n<T.length<;>simp[h]
 ·simp[e]
def bV(k:Kp):List X:=[.str ⟨k.obj.path.toArray⟩,.dead,.dead,.int .i64 k.obj.resp.status,.dead,.str ⟨k.obj.resp.body.toArray⟩,.int .i64 k.obj.t,.int .i64 k.at_,.int .i64 k.seq]
def amb{α:Type}(w:α->Nat)(l:List α)(i:Nat)(v:α):wL w (l.set i v)<=wL w l+w v:=by
 unfold wL;rw[Jd];induction l generalizing i with
 |nil=>simp
 |cons a l ih=>
  cases i with
  |zero=>simp;omega
  |succ i=>have:=ih i;simp at this⊢;omega
def qZ{α:Type}(w:α->Nat)(a b:List α):wL w (a++b)=wL w a+wL w b:=by unfold wL;simp;omega
def VU{α:Type}(w:α->Nat)(p:α->Bool)(l:List α):wL w (l.filter p)<=wL w l:=by
 induction l with
 |nil=>simp[wL]
 |cons a l ih=>rw[Pa];split<;>simp[wL] at ih⊢ <;>omega
def KQ(k:Nat->Bool):∀(ws:List Wr) (i:Nat) (cs:List ag),wL wS (foldI (fO k) i ws cs)<=wL wS cs+wL cY ws
 |[],i,cs=>by simp[foldI]
 |w::ws,i,cs=>by
  have h:=KQ k ws (i+1) (fO k i cs w)
  have h2:wL wS (fO k i cs w)<=wL wS cs+cY w:=by
   unfold fO;split;·exact amb wS cs _ w.text
   ·omega
  have h3:wL cY (w::ws)=cY w+wL cY ws+1:=by simp[wL];omega
  rw[foldI];omega
def AG(d:aV):bC (e8 d)<=bC d:=by have:=KQ (fH [] true) d.pending 0 d.cells;show wL wS (mP (fH [] true) d.cells d.pending)+wL cY []<=wL wS d.cells+wL cY d.pending;unfold mP;have h:wL cY ([]:List Wr)=0:=rfl;omega
def Ux(d:aV)(a:Int)(t:ag):bC (iH d a t)<=bC d+t.length+1:=by
 have h:=AG d;have h1:wL cY [⟨a,t⟩]=t.length+1:=by simp[wL,cY];omega
 unfold iH;split;·show wL wS (e8 d).cells+wL cY [⟨a,t⟩]<=_;have h2:bC (e8 d)=wL wS (e8 d).cells+wL cY []:=rfl;have h:wL cY ([]:List Wr)=0:=rfl;omega
 ·show wL wS d.cells+wL cY (d.pending++[⟨a,t⟩])<=wL wS d.cells+wL cY d.pending+t.length+1;rw[qZ];omega
structure Yr (s:Sh):Prop where
 d:cg s.aD=true
 b:(s.ay.length:Int)<=5
 n:5<=s.next/\s.next<=19
 q:1<=s.seq/\s.seq<=100000
 bs:bq dn s.ay=true
 os:oT s.seq s.ai=true
def jA{s:Sh}(h:cG s=true):Yr s:=by unfold cG at h;simp only[aB,bp] at h;exact⟨h.1.1.1.1.1,h.1.1.1.1.2,h.1.1.1.2,h.1.1.2,h.1.2,h.2⟩
def aiw{s:Sh}(h:cG s=true){k:Kp}(hk:k∈s.ai):dw k.obj=true:=by unfold cG at h;simp only[aB] at h;have:=h.2;unfold oT at this;obtain⟨i,hi,rfl⟩:=tT hk;have h2:=dY.1 this (s.ai[i],i) (mo (i:=i) (by simp[hi]));unfold oL at h2;simp only[aB] at h2;exact h2.1.1.1.1
end M
set_option maxHeartbeats 4000000
namespace M
open Go
def Fc(d:aV)(a:Int):(cr d a).length<=bC d:=by
 have hw:bC d=wL wS d.cells+wL cY d.pending:=rfl;unfold cr;rw[KR];cases h:d.pending.reverse.find? (λw=>decide (w.at_=a)) with
 |none=>
  simp only[Option.elim_none];rw[ji];cases h2:d.cells[a.toNat]? with
  |none=>simp
  |some s=>have:=q5 (w:=wS) (mo h2);simp only[wS] at this;simp only[tO];omega
 |some w=>have:=List.mem_of_find?_eq_some h;have:=q5 (w:=cY) (List.mem_reverse.1 this);simp only[cY] at this;simp only[Option.elim_some];omega
def Xc(d:aV)(a:Int)(hb:d.pending.length<=9223372036854775807):aI (ak (ev LI TT) (aq TT) Bo) [(0,.ptr .af (bW .af d)),(1,.int .i64 a),(5,.int .i64 (d.pending.length - 1))]=
  (d.pending.reverse.find? (λw=>decide (w.at_=a))).elim (some (.exit 0,[(0,.ptr .af (bW .af d)),(1,.int .i64 a),(5,.int .i64 (-1)),(13,.bool false)])) (λw=>some (.ret,[(4,.str ⟨w.text.toArray⟩)])):=by
 refine afX (f:=ak (ev LI TT) (aq TT) Bo) d.pending (λi=>[(0,.ptr .af (bW .af d)),(1,.int .i64 a),(5,.int .i64 i)]) (λw=>decide (w.at_=a)) (λw=>[(4,.str ⟨w.text.toArray⟩)]) _ (λi b hi hl=>?_) ?_;·have hw:IntKind.i64.wrap ((i:Int) - 1)=i - 1:=bO (by omega) (by omega);obtain⟨_,rfl⟩:=aJ.1 hi;simp -implicitDefEqProofs [Bo,LF,hl,hw]
 ·simp -implicitDefEqProofs [Bo,LF]
def P6(d:aV)(a:Int)(hb:d.pending.length<=9223372036854775807)(h0:0<=a)(h1:a<d.cells.length):ev LI TT 147 [.ptr .af (bW .af d),.int .i64 a]=some (.str ⟨(cr d a).toArray⟩,[.dead,.dead]):=by
 rw[au (b:=FK) (rs:=[.t 4]) (n:=2) rfl rfl];have h:=Xc d a hb;have hw:IntKind.i64.wrap ((d.pending.length:Int) - 1)=d.pending.length - 1:=bO (by omega) (by omega);have h2:a.toNat<d.cells.length:=by omega
 simp at h;unfold cr;rw[KR];simp -implicitDefEqProofs [FK,hw,h];cases d.pending.reverse.find? (λw=>decide (w.at_=a))<;>simp[h0,h2]
def Xz(d:aV)(a:Int)(hb:d.pending.length<=9223372036854775807)(x:ag):aI (ak (ev LI TT) (aq TT) Ct) [(1,.int .i64 a),(2,.ptr .own (bW .af d)),(5,.str ⟨(x).toArray⟩),(6,.int .i64 0)]=some (.exit 0,[(1,.int .i64 a),(2,.ptr .own (bW .af d)),(5,.str ⟨(((d.pending).foldl (λout w=>if w.at_=a then w.text else out) x)).toArray⟩),(6,.int .i64 (d.pending).length),(24,.bool false)]):=by
 refine Mm (f:=ak (ev LI TT) (aq TT) Ct) (d.pending) (λi (x:ag)=>[(1,.int .i64 a),(2,.ptr .own (bW .af d)),(5,.str ⟨(x).toArray⟩),(6,.int .i64 i)]) (λout w=>if w.at_=a then w.text else out) (λx=>[(1,.int .i64 a),(2,.ptr .own (bW .af d)),(5,.str ⟨(x).toArray⟩),(6,.int .i64 (d.pending).length),(24,.bool false)]) (λ_ _=>True) x trivial (λi b x hi hl _=>?_) (λ_ _ _ _ _=>trivial) (λx _=>?_);·have hw:=aU i (by first|omega|(simp at hl;omega));obtain⟨_,rfl⟩:=aJ.1 hi;simp -implicitDefEqProofs [Ct,Nf,hl,hw];split<;>rfl
 ·simp -implicitDefEqProofs [Ct,Nf]
def Qr(d:aV)(a:Int)(hb:d.pending.length<=9223372036854775807):ev LI TT 163 [.agg (bW .af d),.int .i64 a]=some (.str ⟨(if cg d=true/\0<=a/\a<=19 then cr d a else []).toArray⟩,[.dead,.dead]):=by
 rw[au (b:=G4) (rs:=[.t 4]) (n:=2) rfl rfl];have h:=λx=>Xz d a hb x;have h2:=uh d hb;simp at h h2;simp -implicitDefEqProofs [G4,h,h2];by_cases hc:cg d=true/\0<=a/\a<=19
 ·obtain⟨g1,g2,g3⟩:=hc;have g4:=(fR g1).2.1;have g5:¬(a<0\/19<a):=by omega
  have g6:a.toNat<d.cells.length:=by omega
  simp[g1,g2,g3,g5,g6,h,cr]
 ·by_cases g1:cg d=true
  ·have g5:(a<0\/19<a):=by false_or_by_contra;exact hc ⟨g1,by omega,by omega⟩
   have g6:¬(0<=a/\a<=19):=by omega
   simp[g1,g5,g6]
  ·simp[g1]
def QL(x:Int):ev LI TT 182 [.int .i64 x]=some (.bool false,[.dead]):=by rw[au (b:=I4) (rs:=[.t 2]) (n:=1) rfl rfl];simp -implicitDefEqProofs [I4];all_goals (repeat' split)<;>first|rfl|omega|simp_all<;>omega|skip
def rR(a b:Int):Int:=if a<b then -1 else if b<a then 1 else 0
def Z0(a:Int)(b:Int):ev LI TT 153 [.int .i64 a,.int .i64 b]=some (.int .i64 (rR a b),[.dead,.dead]):=by
 rw[au (b:=I3) (rs:=[.t 4]) (n:=2) rfl rfl];unfold rR;by_cases g1:a<b;all_goals by_cases g2:b<a
 all_goals
 have u1:=QL a;try simp at u1
 have u2:=QL b;try simp at u2
 simp -implicitDefEqProofs [I3,u1,u2,g1,g2];all_goals (repeat' split)<;>first|rfl|omega|simp_all<;>omega|skip
def Qb(a b:Kp):ev LI TT 152 [.agg (aj .af a),.agg (aj .af b)]=some (.int .i64 (rR a.seq b.seq),[.dead,.dead]):=by
 rw[au (b:=FR) (rs:=[.t 4]) (n:=2) rfl rfl];have u1:=Z0 a.seq b.seq;try simp at u1
 simp -implicitDefEqProofs [FR,u1];all_goals (repeat' split)<;>first|rfl|omega|simp_all<;>omega|skip
def air{α:Type}(A:List α)(x k:α)(B:List α)(n:Nat)(hn:n=A.length):((A++x::k::B).set (n+1) x).set n k=A++k::x::B:=by subst hn;simp[List.set_append]
def W4(a b:Int)(fi:Int)(T:List (List X))(j:Nat)(x k:Kp)(hj:j+1<T.length)(hx:T[j]=aj .own x)(hk:T[j+1]=aj .own k)(hb:T.length<=1073741824)(ha:a=0)(hlt:k.seq<x.seq):
  ak (ev LI TT) (aq TT) tK [(0,.ref 100000 []),(1,.int .i64 a),(2,.int .i64 b),(3,.fn 152 []),(8,.int .i64 fi),(9,.int .i64 ((j+1:Nat):Int)),(100000,.row .own 9 T)]=some (.normal,[(0,.ref 100000 []),(1,.int .i64 a),(2,.int .i64 b),(3,.fn 152 []),(8,.int .i64 fi),(9,.int .i64 (j:Nat)),(100000,.row .own 9 ((T.set (j+1) (aj .own x)).set j (aj .own k)))]):=by
 subst ha;have hw:IntKind.i64.wrap ((j:Int)+1 - 1)=j:=by rw[show ((j:Int)+1 - 1)=j by omega];exact bO (by omega) (by omega)
 have dr:IntKind.i64.wrap (j:Int)=j:=bO (by omega) (by omega);have u1:=Qb k x;have hc:rR k.seq x.seq=-1:=by unfold rR;rw[ax hlt]
 rw[hc] at u1;have hj':j<T.length:=by omega
 have h0:(0:Int)<(j:Int)+1:=by omega
 have h1:(0:Int)<=(j:Int)+1:=by omega
 have hm:=mR T (j+1) _ (aJ.2 ⟨hj,hk⟩);have hm0:=mR T j _ (aJ.2 ⟨hj',hx⟩);have Fx:∀w g,(T.set j w).modify (j+1) g=(T.set j w).set (j+1) (g (aj .own k)):=λw g=>mR (T.set j w) (j+1) _ (by rw[Pf (by omega)];exact aJ.2 ⟨hj,hk⟩) g;have hm2:∀w v g,((T.set j w).set (j+1) v).modify j g=(T.set (j+1) v).set j (g w):=λw v g=>by rw[List.set_comm _ _ (by omega:j≠j+1),kE]
 have ho:aq TT 152=true:=rfl;try simp at hx hk u1 hm hm0 Fx
 simp -implicitDefEqProofs [tK,I9,wv,zA,wz,zC,zE,hw,dr,hj,hj',hx,hk,u1,h0,h1,ho,mN,hm,hm0,Fx,hm2,kE,ghost,r9]
def W3(b:Int)(fi:Int)(T:List (List X))(j:Nat)(x k:Kp)(hj:j+1<T.length)(hx:T[j]=aj .own x)(hk:T[j+1]=aj .own k)(hb:T.length<=1073741824)(hlt:¬k.seq<x.seq):
  ak (ev LI TT) (aq TT) tK [(0,.ref 100000 []),(1,.int .i64 0),(2,.int .i64 b),(3,.fn 152 []),(8,.int .i64 fi),(9,.int .i64 ((j+1:Nat):Int)),(100000,.row .own 9 T)]=some (.exit 2,[(0,.ref 100000 []),(1,.int .i64 0),(2,.int .i64 b),(3,.fn 152 []),(8,.int .i64 fi),(9,.int .i64 ((j+1:Nat):Int)),(34,.bool false),(100000,.row .own 9 T)]):=by
 have dr:IntKind.i64.wrap (j:Int)=j:=bO (by omega) (by omega);have u1:=Qb k x;have hc:¬rR k.seq x.seq<0:=by unfold rR;rw[aF hlt];split<;>omega
 obtain⟨z,hz⟩:∃z,rR k.seq x.seq=z:=⟨_,rfl⟩;rw[hz] at u1 hc;have hj':j<T.length:=by omega
 have h0:(0:Int)<(j:Int)+1:=by omega
 have h1:(0:Int)<=(j:Int)+1:=by omega
 have ho:aq TT 152=true:=rfl;try simp at hx hk u1
 simp -implicitDefEqProofs [tK,I9,wv,zA,wz,zC,zE,dr,hj,hj',hx,hk,u1,hc,h0,h1,ho,mN]
def W5(b:Int)(fi:Int)(T:List (List X)):
  ak (ev LI TT) (aq TT) tK [(0,.ref 100000 []),(1,.int .i64 0),(2,.int .i64 b),(3,.fn 152 []),(8,.int .i64 fi),(9,.int .i64 0),(100000,.row .own 9 T)]=some (.exit 2,[(0,.ref 100000 []),(1,.int .i64 0),(2,.int .i64 b),(3,.fn 152 []),(8,.int .i64 fi),(9,.int .i64 0),(34,.bool false),(100000,.row .own 9 T)]):=by simp -implicitDefEqProofs [tK,I9,wv,zA,wz,zC,zE]
def Py(b fi:Int)(k:Kp)(R:List Kp):∀(rev done:List Kp),(rev.length+done.length+R.length+1<=1073741824)->∃j:Nat,
  aI (ak (ev LI TT) (aq TT) tK) [(0,.ref 100000 []),(1,.int .i64 0),(2,.int .i64 b),(3,.fn 152 []),(8,.int .i64 fi),(9,.int .i64 (rev.length:Nat)),(100000,.row .own 9 ((rev.reverse++k::(done++R)).map (aj .own)))]=some (.exit 2,[(0,.ref 100000 []),(1,.int .i64 0),(2,.int .i64 b),(3,.fn 152 []),(8,.int .i64 fi),(9,.int .i64 (j:Nat)),(34,.bool false),(100000,.row .own 9 ((xP Kp.seq k rev done++R).map (aj .own)))])
 |[],done,_=>by refine⟨0,?_⟩;rw[cW];have:=W5 b fi ((k::(done++R)).map (aj .own));simp only[List.reverse_nil,kI,gA];rw[show (((0:Nat):Int))=0 from rfl,this];rfl
 |x::rev,done,hb=>by
  simp only[cw] at hb;have hl:((x::rev).reverse++k::(done++R)).length=rev.length+done.length+R.length+2:=by simp;omega
  have e1:(x::rev).reverse++k::(done++R)=rev.reverse++x::k::(done++R):=by simp
  have hx:((rev.reverse++x::k::(done++R)).map (aj .own))[rev.length]'(by simp)=aj .own x:=by simp
  have hk:((rev.reverse++x::k::(done++R)).map (aj .own))[rev.length+1]'(by simp)=aj .own k:=by simp
  rw[e1,cw];unfold xP;by_cases g:k.seq<x.seq
  ·rw[ax g];obtain⟨j,hj⟩:=Py b fi k R rev (x::done) (by simp;omega);refine⟨j,?_⟩;have hs:=W4 0 b fi ((rev.reverse++x::k::(done++R)).map (aj .own)) rev.length x k (by simp) hx hk (by rw[cV,<-e1,hl];omega) rfl g;rw[cW,hs];have e2:(((rev.reverse++x::k::(done++R)).map (aj .own)).set (rev.length+1) (aj .own x)).set rev.length (aj .own k)=(rev.reverse++k::((x::done)++R)).map (aj .own):=by have:=air (rev.reverse.map (aj .own)) (aj .own x) (aj .own k) ((done++R).map (aj .own)) rev.length (by simp);first|(simp;done)|simpa using this
   rw[e2];exact hj
  ·rw[aF g];refine⟨rev.length+1,?_⟩;have hs:=W3 b fi ((rev.reverse++x::k::(done++R)).map (aj .own)) rev.length x k (by simp) hx hk (by rw[cV,<-e1,hl];omega) g;rw[cW,hs];have e2:(x::rev).reverse++k::done++R=rev.reverse++x::k::(done++R):=by simp
   rw[e2];rfl
end M
