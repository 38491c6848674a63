/- What the functions come to in the machine; no conditions. -/
import Derived.Test.YtjijmdiikmeikaaGreatDoorCona
set_option linter.defProp false
set_option linter.unusedSectionVars false
set_option linter.unusedVariables false
set_option linter.unusedSimpArgs false
set_option maxHeartbeats 4000000
namespace M
open Go
def SR(c:ag):∀(n:Nat) (s:ag),∀w∈Lib.splitK c 0 n s,w.length<=s.length
 |0,s,w,h=>by simp[Lib.splitK] at h;subst h;exact e7 _
 |n+1,s,w,h=>by
  unfold Lib.splitK at h;split at h;·simp at h;subst h;exact e7 _
  ·rcases bZ.1 h with rfl|h;·simp;omega
   ·have:=SR c n _ w h;simp at this;omega
def SS(s c:ag):∀w∈Lib.split s c,w.length<=s.length:=SR c _ s
def ahw(c:ag)(n:Nat)(s:ag):Lib.splitK c 0 n s≠[]:=by
 cases n with
 |zero=>simp[Lib.splitK]
 |succ n=>unfold Lib.splitK;split<;>simp
def ahA(s c:ag):Lib.split s c≠[]:=ahw c _ s
def yT(l:ag):aJ:=⟨(Lib.cut l colon).1,(Lib.cut l colon).2.1⟩
def pU(n:Nat)(i:Nat)(g:List aJ)(l:ag):List aJ ⊕ (List aJ×Option (Nat×ag)):=
 if (Lib.cut l colon).2.2=true then (if i+1=n/\(Lib.cut l colon).1=dG then .inr (g,some (i,(Lib.cut l colon).2.1)) else .inl (g++[yT l])) else .inr (g,none)
def xh:List aJ ⊕ (List aJ×Option (Nat×ag))->Option (List aJ)
 |.inl g=>some g
 |.inr x=>if x.2.isSome=true then some x.1 else none
def RW(n:Nat):∀(ls:List ag) (i:Nat) (g:List aJ),i+ls.length=n->xh (cW (pU n) i ls g)=(lT ls).map λfs=>g++fs
 |[],i,g,_=>by simp[cW,xh,lT]
 |l::ls,i,g,h=>by
  have hl:i+1=n↔ls=[]:=by
   rw[cR] at h;constructor;·intro e;exact Nn.1 (by omega)
   ·rintro rfl;simpa using h
  have hp:pU n i g l=if (Lib.cut l colon).2.2=true then (if ls=[]/\(Lib.cut l colon).1=dG then .inr (g,some (i,(Lib.cut l colon).2.1)) else .inl (g++[yT l])) else .inr (g,none):=by unfold pU;simp only[hl]
  rw[cW,lT,hp];by_cases c1:(Lib.cut l colon).2.2=true
  ·rw[ay c1,ay c1];by_cases c2:ls=[]/\(Lib.cut l colon).1=dG;·rw[ay c2,ay c2];simp[xh]
   ·rw[aD c2,aD c2];simp only;have:=RW n ls (i+1) (g++[yT l]) (by rw[cR] at h;omega);rw[this,Option.map_map];congr 1;funext fs;simp[yT]
  ·rw[aD c1,aD c1];rfl
def PD{m:Nat}:∀{ls:List ag} {fs:List aJ},(∀l∈ls,l.length<=m)->lT ls=some fs->fs.length<=ls.length/\∀f∈fs,aN f<=2*m
 |[],fs,_,h=>by simp[lT] at h;subst h;simp
 |l::ls,fs,hm,h=>by
  rw[lT] at h;split at h
  ·split at h;·simp at h;subst h;simp
   ·obtain⟨fs',h1,rfl⟩:=kI.1 h;have ih:=PD (λx hx=>hm x (b8 _ hx)) h1;refine⟨by simp;exact ih.1,λf hf=>?_⟩;rcases bZ.1 hf with rfl|hf;·have:=Dh l colon;have:=hm l (bF ..);simp only[aN];omega
    ·exact ih.2 f hf
  ·cases h
def RY{s:ag}{p:ag×List aJ×ag}(h:lf s=some p):p.1.length<=s.length/\wL aN p.2.1<=10*(2*s.length+1)/\p.2.2.length<=s.length:=by
 unfold lf at h;split at h
 ·rename_i g;obtain⟨fs,h1,rfl⟩:=kI.1 h;have hc:=Dh s bh;have hm:=SS (Lib.cut s bh).1 crlf;have hw:=PD (m:=s.length) (λl hl=>by have:=hm l (List.mem_of_mem_tail hl);omega) h1;refine⟨?_,qg hw.2 (by have:=hw.1;have:=g.2;simp at*;omega),hc.2⟩;cases hs:Lib.split (Lib.cut s bh).1 crlf with
  |nil=>simp
  |cons a l=>have:=hm a (by rw[hs];simp);simp only[List.headD_cons];omega
 ·cases h
def ahc{s:ag}{r:cg}(h:ow s=some r):bC r<=10*(2*s.length+1)+s.length:=by
 unfold ow at h;cases hp:lf s with
 |none=>rw[hp] at h;cases h
 |some p=>rw[hp] at h;obtain⟨w,_,rfl⟩:=kI.1 h;have:=RY hp;simp only[bC];omega
def UK(b l0:ag)(lt:List ag)(hm:∀l∈lt,l.length<=1073741824)(hl9:lt.length<=9):
  aG (ai (ev LI TT) (aj TT) rq) [(7,.str ⟨b.toArray⟩),(9,.row .own 1 ((l0::lt).map eS)),(10,.row .own 2 []),(31,.ref 9 []),(32,.cut 9 [] 1 (lt.length+1)),(33,.int .i64 lt.length),(34,.int .i64 0)]=
  (match cW (pU lt.length) 0 lt [] with
   |.inl g=>some (.exit 0,[(7,.str ⟨b.toArray⟩),(9,.row .own 1 ((l0::lt).map eS)),(10,.row .own 2 (g.map aK)),(31,.ref 9 []),(32,.cut 9 [] 1 (lt.length+1)),(33,.int .i64 lt.length),(34,.int .i64 lt.length),(35,.bool false)])
   |.inr (g,none)=>some (.ret,[(2,.str ⟨#[]⟩),(3,.row .own 2 []),(4,.str ⟨#[]⟩),(5,.bool false),(10,.row .own 2 (g.map aK))])
   |.inr (g,some (i,v))=>some (.exit 0,[(7,.str ⟨b.toArray⟩),(9,.row .own 1 ((l0::lt).map eS)),(10,.row .own 2 (g.map aK)),(13,.str ⟨dG.toArray⟩),(14,.str ⟨v.toArray⟩),(31,.ref 9 []),(32,.cut 9 [] 1 (lt.length+1)),(33,.int .i64 lt.length),(34,.int .i64 i),(55,.bool true)])):=by
 have:=AW (xt:=0) (f:=ai (ev LI TT) (aj TT) rq) lt (λi (g:List aJ)=>[(7,.str ⟨b.toArray⟩),(9,.row .own 1 ((l0::lt).map eS)),(10,.row .own 2 (g.map aK)),(31,.ref 9 []),(32,.cut 9 [] 1 (lt.length+1)),(33,.int .i64 lt.length),(34,.int .i64 i)]) (pU lt.length)
  (λg=>[(7,.str ⟨b.toArray⟩),(9,.row .own 1 ((l0::lt).map eS)),(10,.row .own 2 (g.map aK)),(31,.ref 9 []),(32,.cut 9 [] 1 (lt.length+1)),(33,.int .i64 lt.length),(34,.int .i64 lt.length),(35,.bool false)])
  (λe=>match e with|(g,none)=>(.ret,[(2,.str ⟨#[]⟩),(3,.row .own 2 []),(4,.str ⟨#[]⟩),(5,.bool false),(10,.row .own 2 (g.map aK))])|(g,some (i,v))=>(.exit 0,[(7,.str ⟨b.toArray⟩),(9,.row .own 1 ((l0::lt).map eS)),(10,.row .own 2 (g.map aK)),(13,.str ⟨dG.toArray⟩),(14,.str ⟨v.toArray⟩),(31,.ref 9 []),(32,.cut 9 [] 1 (lt.length+1)),(33,.int .i64 lt.length),(34,.int .i64 i),(55,.bool true)]))
  (λi g=>g.length<=i) [] (by simp) (λi l g hi hl hg=>?_) (λi l g g' hi hg gO=>?_) (λg hg=>?_)
 ·simp only[mD] at this;refine this.trans ?_;cases cW (pU lt.length) 0 lt [] with
  |inl g=>rfl
  |inr e=>obtain⟨g,b⟩:=e;cases b with|none=>rfl|some x=>rfl
 ·have hw:=aQ i (by omega);obtain⟨_,rfl⟩:=aF.1 hi;have e1:1+i=i+1:=by omega
  have u1:=vp lt[i] [58,32] (by have:=hm _ (bx hl);omega);have fF:IntKind.i64.wrap ((lt.length:Int)+1 - 2)=(lt.length:Int)+1 - 2:=bK (by omega) (by omega);have hlz:(g.length+1)*32<=140737488355328:=by omega
  unfold pU yT colon;cases h1:(Lib.cut lt[i] [58,32]).2.2
  ·rw[h1] at u1;try simp at u1
   simp -implicitDefEqProofs [rq,v8,hl,hw,fF,e1,u1,h1,lv,hlz,dB]
  ·rw[h1] at u1;by_cases h2:i+1=lt.length
   ·have gL:(i:Int)=(lt.length:Int)+1 - 2:=by omega
    by_cases h3:(Lib.cut lt[i] [58,32]).1=dG
    ·rw[h3] at u1;try simp[dG] at u1
     simp -implicitDefEqProofs [rq,v8,hl,hw,fF,e1,u1,h1,eq_true h2,eq_true gL,h3,lv,hlz,dB,dG]
    ·have DK:=h3;simp[dG] at DK;try simp at u1
     simp -implicitDefEqProofs [rq,v8,hl,hw,fF,e1,u1,h1,eq_true h2,eq_true gL,eq_false h3,eq_false DK,lv,hlz,dB]
   ·have gL:¬(i:Int)=(lt.length:Int)+1 - 2:=by omega
    try simp at u1
    simp -implicitDefEqProofs [rq,v8,hl,hw,fF,e1,u1,h1,eq_false h2,eq_false gL,lv,hlz,dB]
 ·unfold pU at gO;split at gO
  ·split at gO;·cases gO
   ·cases gO;simp;omega
  ·cases gO
 ·simp -implicitDefEqProofs [rq,v8]
def Xg(s:ag)(hb:s.length<=16777216):ev LI TT 243 [.str ⟨s.toArray⟩]=some (.au [.str ⟨((lf s).elim [] (λp=>p.1)).toArray⟩,.row .own 2 (((lf s).elim [] (λp=>p.2.1)).map aK),.str ⟨((lf s).elim [] (λp=>p.2.2)).toArray⟩,.bool ((lf s).isSome)],[.dead]):=by
 rw[aq (b:=ru) (rs:=[.t 2,.t 3,.t 4,.t 5]) (n:=1) rfl rfl];have u1:=vp s [13,10,13,10] (by omega);have hc:=Dh s [13,10,13,10];have u2:=YN (Lib.cut s [13,10,13,10]).1 [13,10] (by omega) (by simp);have hm:=SS (Lib.cut s [13,10,13,10]).1 [13,10];have hne:=ahA (Lib.cut s [13,10,13,10]).1 [13,10];have ep:lf s=if (Lib.cut s [13,10,13,10]).2.2=true/\((Lib.split (Lib.cut s [13,10,13,10]).1 [13,10]).length:Int)<=10 then (lT (Lib.split (Lib.cut s [13,10,13,10]).1 [13,10]).tail).map λfs=>((Lib.split (Lib.cut s [13,10,13,10]).1 [13,10]).headD [],fs,(Lib.cut s [13,10,13,10]).2.1) else none:=rfl
 rw[ep];clear ep;generalize Lib.split (Lib.cut s [13,10,13,10]).1 [13,10]=ls at u2 hm hne;generalize Lib.cut s [13,10,13,10]=p at u1 u2 hm hc;obtain⟨hd,bd,ok⟩:=p;try simp only at u1 u2 hm hc
 obtain⟨l0,lt,rfl⟩:∃l0 lt,ls=l0::lt:=by cases ls with|nil=>exact absurd rfl hne|cons a l=>exact⟨_,_,rfl⟩
 cases ok
 ·try simp at u1 u2
  simp -implicitDefEqProofs [ru,u1,u2]
 by_cases g:(((l0::lt).length:Nat):Int)<=10;rotate_left
 ·have g':10<(lt.length:Int)+1:=by simp at g;omega
  have g2:¬(lt.length:Int)+1<=10:=by omega
  try simp at u1 u2
  simp -implicitDefEqProofs [ru,u1,u2,g',g2]
 have g':¬10<(lt.length:Int)+1:=by simp at g;omega
 have g2:(lt.length:Int)+1<=10:=by omega
 have g5:(1:Int)<=(lt.length:Int)+1:=by omega
 have u3:=UK bd l0 lt (λl hl=>by have:=hm l (b8 _ hl);omega) (by omega);have u4:=RW lt.length lt 0 [] (by simp);simp only[eN,Option.map_id'] at u4;try simp at u1 u2
 cases hr:cW (pU lt.length) 0 lt [] with
 |inl fs=>rw[hr] at u3 u4;simp[xh] at u3 u4;simp -implicitDefEqProofs [ru,u1,u2,g',g2,g5,u3,<-u4]
 |inr x=>
 obtain⟨fs,x⟩:=x;cases x;·rw[hr] at u3 u4;simp[xh] at u3 u4;simp -implicitDefEqProofs [ru,u1,u2,g',g2,g5,u3,<-u4]
 rw[hr] at u3 u4;simp[xh] at u3 u4;simp -implicitDefEqProofs [ru,u1,u2,g',g2,g5,u3,<-u4];all_goals (repeat' split)<;>first|rfl|omega|(simp_all;done)|(simp_all;omega)|skip
def WX(s:ag)(hb:s.length<=16777216):ev LI TT 204 [.str ⟨s.toArray⟩]=some (.au [.agg (iI .own ((cS s).1)),.bool ((cS s).2)],[.dead]):=by
 rw[aq (b:=n7) (rs:=[.c 2 3 true 61,.t 3]) (n:=1) rfl rfl];have u1:=Xg s hb;try simp at u1
 rw[ag4];have hw:=λr=>ahc (s:=s) (r:=r);have gP:=λp=>RY (s:=s) (p:=p);have er:ow s=(lf s).bind λp=>(kF (bu 32 p.1)).map λw=>(⟨(((bq w).getD 0:Nat):Int),p.2.1,p.2.2⟩:cg):=rfl;rw[er] at hw⊢;clear er;generalize lf s=po at u1 hw gP⊢;cases po with
 |none=>
  have u2:=sP [] 32 (by simp);try simp at u1 u2
  simp -implicitDefEqProofs [n7,u1,u2,cu]
 |some p=>
 obtain⟨f,fs,b⟩:=p;have hq:=gP _ rfl;simp only at hq;have u2:=sP f 32 (by omega);have hm:=oF 32 f;simp only[gj] at hw⊢;rcases eH:bu 32 f with _|⟨w0,_|⟨w1,_|⟨w2,_|⟨w3,ws⟩⟩⟩⟩;·exact absurd eH (xL 32 f)
 ·rw[eH] at u2;simp at u1 u2;simp -implicitDefEqProofs [n7,u1,u2,kF,cu]
 ·rw[eH] at u2;simp at u1 u2;simp -implicitDefEqProofs [n7,u1,u2,kF,cu]
 rotate_left
 ·rw[eH] at u2;have hn:¬((ws.length:Int)+1+1+1+1=3):=by omega
  simp at u1 u2;simp -implicitDefEqProofs [n7,u1,u2,kF,cu,hn]
 rw[eH] at u2 hw;have hw1:=hm w1 (by rw[eH];simp);have u3:=vk w1 (by omega);have hr:=hw ⟨(((bq w1).getD 0:Nat):Int),fs,b⟩ rfl;have u4:=N0 ⟨(((bq w1).getD 0:Nat):Int),fs,b⟩ (by omega);simp only[kF,cj];obtain⟨n,hn⟩:∃n,(((bq w1).getD 0:Nat):Int)=n:=⟨_,rfl⟩;rw[hn] at u3 u4⊢;by_cases g0:s=[];·subst g0;simp at u1 u2 u3 u4;simp -implicitDefEqProofs [n7,u1,u2,u3,cu]
 by_cases g:fQ ⟨n,fs,b⟩=s;·rw[g] at u4;simp at u1 u2 u3 u4;simp -implicitDefEqProofs [n7,u1,u2,u3,u4,g,g0,cu]
 simp at u1 u2 u3 u4;simp -implicitDefEqProofs [n7,u1,u2,u3,u4,g,g0,cu];all_goals (repeat' split)<;>first|rfl|omega|(simp_all;done)|(simp_all;omega)|skip
end M
set_option maxHeartbeats 4000000
namespace M
open Go
def VM(s:ag)(hb:s.length<=1073741824):
  aG (ai (ev LI TT) (aj TT) p9) [(0,.str ⟨s.toArray⟩),(4,.row .own 1 []),(5,.int .i64 0),(6,.int .i64 1)]=
  (match oZ s with
   |.inl g=>some (.exit 0,[(0,.str ⟨s.toArray⟩),(4,.row .own 1 (g.1.map eS)),(5,.int .i64 g.2),(6,.int .i64 ((s.length - 1:Nat)+1:Nat)),(12,.bool false)])
   |.inr g=>some (.ret,[(2,.row .own 1 (g.1.map eS)),(3,.int .i64 g.2),(4,.dead)])):=by
 have:=AW (xt:=0) (f:=ai (ev LI TT) (aj TT) p9) (s.drop 1) (λi (g:List ag×Nat)=>[(0,.str ⟨s.toArray⟩),(4,.row .own 1 (g.1.map eS)),(5,.int .i64 g.2),(6,.int .i64 ((i+1:Nat):Int))]) (λj=>gN s (j+1))
  (λg=>[(0,.str ⟨s.toArray⟩),(4,.row .own 1 (g.1.map eS)),(5,.int .i64 g.2),(6,.int .i64 ((s.length - 1:Nat)+1:Nat)),(12,.bool false)])
  (λg=>(.ret,[(2,.row .own 1 (g.1.map eS)),(3,.int .i64 g.2),(4,.dead)]))
  (λi g=>g.1.length<=i/\g.2<=i+1) ([],0) (by simp) (λi b g hi hl hg=>?_) (λi b g g' hi hg gO=>?_) (λg hg=>?_)
 ·simp only[mD] at this;refine this.trans ?_;unfold oZ;cases cW (λj=>gN s (j+1)) 0 (s.drop 1) ([],0) with
  |inl g=>rfl
  |inr e=>rfl
 ·simp only[uS] at hl;have mR:i+1<s.length:=by omega
  have hi2:s[i+1]=b:=by rw[oL] at hi;have:=(aF.1 hi);obtain⟨_,h⟩:=this;rw[<-h];congr 1;omega
  have vJ:i<s.length:=by omega
  have hw:IntKind.i64.wrap ((i:Int)+1+1)=(i:Int)+1+1:=bK (by omega) (by omega);have fF:IntKind.i64.wrap (i:Int)=i:=bK (by omega) (by omega);have nW:(0:Int)<=(i:Int)+1:=by omega
  have hlz:(g.1.length+1)*16<=140737488355328:=by omega
  have hls:((i:Int)+1<s.length):=by omega
  have ht:s[i]?=some s[i]:=cw vJ;have hle:(i:Int)<=s.length:=by omega
  unfold gN;simp only[Nat.add_sub_cancel,ht];by_cases g1:b=10;rotate_left;·have dz:¬(b.toNat:Int)=10:=λh=>g1 (sC.1 (by show b.toNat=10;omega));simp -implicitDefEqProofs [p9,uv,mR,hls,hi2,hw,fF,nW,g1,dz,lv]
  subst g1;by_cases g2:s[i]=13;rotate_left;·have nV:¬((s[i]).toNat:Int)=13:=λh=>g2 (sC.1 (by show (s[i]).toNat=13;omega));simp -implicitDefEqProofs [p9,uv,mR,hls,hi2,hw,fF,nW,g2,nV,vJ,lv]
  by_cases g3:g.2+1<=i+1;rotate_left
  ·have jc:(i:Int)<g.2:=by omega
   simp -implicitDefEqProofs [p9,uv,mR,hls,hi2,hw,fF,nW,g2,g3,jc,vJ,lv]
  have jc:¬(i:Int)<g.2:=by omega
  have PU:(g.2:Int)<=i:=by omega
  have g5:1<=i+1:=by omega
  rw[ye];obtain⟨Y,hY⟩:∃Y,(s.drop g.2).take (i - g.2)=Y:=⟨_,rfl⟩;rw[hY];cases Y with
  |nil=>simp -implicitDefEqProofs [p9,uv,mR,hls,hi2,hw,fF,nW,g2,g3,jc,PU,hY,g5,vJ,lv,hle,Lib.extract_mk]
  |cons y Y=>simp -implicitDefEqProofs [p9,uv,mR,hls,hi2,hw,fF,nW,g2,g3,jc,PU,hY,g5,vJ,lv,hle,hlz,dB,Lib.extract_mk]
 ·unfold gN at gO;split at gO
  ·split at gO;·cases gO
   ·cases gO;simp;omega
  ·cases gO;omega
 ·have h0:¬(((s.length - 1:Nat):Int)+1<s.length):=by omega
  simp only[uS];simp -implicitDefEqProofs [p9,uv,h0]
def YA(s:ag)(hb:s.length<=1073741824):ev LI TT 183 [.str ⟨s.toArray⟩]=some (.au [.row .own 1 ((iq s).map eS),.int .i64 (kV s)],[.dead]):=by
 rw[aq (b:=B0) (rs:=[.t 2,.t 3]) (n:=1) rfl rfl];have u1:=VM s hb;try simp at u1
 unfold iq kV;cases hr:oZ s with
 |inl g=>rw[hr] at u1;simp at u1;simp -implicitDefEqProofs [B0,u1]
 |inr g=>
 rw[hr] at u1;simp at u1;simp -implicitDefEqProofs [B0,u1];all_goals (repeat' split)<;>first|rfl|omega|(simp_all;done)|(simp_all;omega)|skip
def Dc(i:Nat)(_:Unit)(x:UInt8×UInt8):Unit ⊕ Nat:=if qK x=true then .inr i else .inl ()
def OS:∀(l:List (UInt8×UInt8)) (i:Nat),cW Dc i l ()=match cU qK i l with
  |some (k,_)=>.inr k
  |none=>.inl ()
 |[],_=>rfl
 |x::l,i=>by
  rw[cW,cU];unfold Dc;cases h:qK x;·simp only[fL,cT];exact OS l (i+1)
  ·simp
def VK(ls:List ag)(i:Nat)(hi:i<ls.length)(fs:List aJ)(hm:ls[i].length<=1073741824)(hf:fs.length<=1073741824):
  aG (ai (ev LI TT) (aj TT) rZ) [(0,.row .af 1 (ls.map eS)),(3,.row .own 2 (fs.map aK)),(4,.int .i64 i),(5,.int .i64 0)]=
  (match sX ls[i] with
   |none=>some (.exit 2,[(0,.row .af 1 (ls.map eS)),(3,.row .own 2 (fs.map aK)),(4,.int .i64 i),(5,.int .i64 (ls[i].zip (ls[i].drop 1)).length),(21,.bool false)])
   |some (k,_)=>some (.exit 2,[(0,.row .af 1 (ls.map eS)),(3,.row .own 2 ((fs++gS ls[i]).map aK)),(4,.int .i64 i)])):=by
 have:=AW (xt:=2) (f:=ai (ev LI TT) (aj TT) rZ) (ls[i].zip (ls[i].drop 1)) (λk (_:Unit)=>[(0,.row .af 1 (ls.map eS)),(3,.row .own 2 (fs.map aK)),(4,.int .i64 i),(5,.int .i64 k)]) Dc
  (λ_=>[(0,.row .af 1 (ls.map eS)),(3,.row .own 2 (fs.map aK)),(4,.int .i64 i),(5,.int .i64 (ls[i].zip (ls[i].drop 1)).length),(21,.bool false)])
  (λk=>(.exit 2,[(0,.row .af 1 (ls.map eS)),(3,.row .own 2 ((fs++(if ls[i].take k=dG then [] else [(⟨ls[i].take k,ls[i].drop (k+2)⟩:aJ)])).map aK)),(4,.int .i64 i)]))
  (λ_ _=>True) () trivial (λk b _ hk hl _=>?_) (λ_ _ _ _ _ _ _=>trivial) (λ_ _=>?_)
 ·refine this.trans ?_;rw[OS];unfold gS sX;cases cU qK 0 (ls[i].zip (ls[i].drop 1)) with
  |none=>rfl
  |some x=>rfl
 ·have hlz:k+1<ls[i].length:=by simp at hl;omega
  have hk1:k<ls[i].length:=by omega
  obtain⟨q1,q2⟩:=Ni.1 hk;obtain⟨_,h1⟩:=aF.1 q1;rw[oL,qi] at q2;obtain⟨_,h2⟩:=aF.1 q2;clear q1 q2;have nW:(0:Int)<=(k:Int)+1:=by omega
  have Ju:(0:Int)<=(k:Int)+2:=by omega
  have Qa:((k:Int)+2).toNat=k+2:=by omega
  have htk:(ls[i].drop (k+2)).take (ls[i].length - (k+2))=ls[i].drop (k+2):=uI (by simp);have hw:=aQ k (by omega);have fF:IntKind.i64.wrap ((k:Int)+2)=k+2:=bK (by omega) (by omega);have hla:(fs.length+1)*32<=140737488355328:=by omega
  have hls:((k:Int)+1<ls[i].length):=by omega
  have hle:(k:Int)<=ls[i].length:=by omega
  have hle2:(k:Int)+2<=ls[i].length:=by omega
  obtain⟨b1,b2⟩:=b;simp only at h1 h2;unfold Dc qK;simp only;by_cases g1:b1=58;rotate_left;·have dz:¬(b1.toNat:Int)=58:=λh=>g1 (sC.1 (by show b1.toNat=58;omega));simp -implicitDefEqProofs [rZ,xF,hi,hk1,hls,h1,hw,nW,g1,dz,lv]
  by_cases g2:b2=32;rotate_left;·have nV:¬(b2.toNat:Int)=32:=λh=>g2 (sC.1 (by show b2.toNat=32;omega));simp -implicitDefEqProofs [rZ,xF,hi,hk1,hlz,hls,h1,h2,hw,nW,Ju,g1,g2,nV,lv]
  subst g1 g2;by_cases g3:ls[i].take k=dG;·have jc:ls[i].take k=[99,111,110,116,101,110,116,45,108,101,110,103,116,104]:=g3;simp -implicitDefEqProofs [rZ,xF,BZ,hi,hk1,hlz,hls,h1,h2,hw,nW,Ju,Qa,htk,fF,g3,jc,lv,hle,hle2,Lib.extract_mk,dG]
  ·have jc:¬ls[i].take k=[99,111,110,116,101,110,116,45,108,101,110,103,116,104]:=g3;simp -implicitDefEqProofs [rZ,xF,BZ,hi,hk1,hlz,hls,h1,h2,hw,nW,Ju,Qa,htk,fF,g3,jc,lv,hle,hle2,hla,dB,Lib.extract_mk]
 ·have hlen:(ls[i].zip (ls[i].drop 1)).length=ls[i].length - 1:=by simp
  have h0:¬(((ls[i].length - 1:Nat):Int)+1<ls[i].length):=by omega
  have hw:=aQ (ls[i].length - 1) (by omega);simp only[hlen];simp -implicitDefEqProofs [rZ,xF,hi,h0,hw]
def VL(ls:List ag)(hm:∀l∈ls,l.length<=1073741824)(hb:ls.length<=1073741824):aG (ai (ev LI TT) (aj TT) xG) [(0,.row .af 1 (ls.map eS)),(3,.row .own 2 (([]).map aK)),(4,.int .i64 0)]=some (.exit 0,[(0,.row .af 1 (ls.map eS)),(3,.row .own 2 ((((ls).flatMap gS)).map aK)),(4,.int .i64 (ls).length),(11,.bool false)]):=by
 refine FC (f:=ai (ev LI TT) (aj TT) xG) (ls) gS (λi out=>[(0,.row .af 1 (ls.map eS)),(3,.row .own 2 ((out).map aK)),(4,.int .i64 i)]) (λout=>[(0,.row .af 1 (ls.map eS)),(3,.row .own 2 ((out).map aK)),(4,.int .i64 (ls).length),(11,.bool false)]) (λi b out hi hl hout=>?_) (λout hout=>?_)
 ·have hw:=aQ i (by first|omega|(simp at hl;omega));obtain⟨_,rfl⟩:=aF.1 hi;have hlo:out.length<=i:=by rw[hout];exact Pz _ (λb=>by unfold gS;split<;>(try split)<;>simp) _ _
  have u1:=VK ls i hl out (hm _ (bx hl)) (by omega);cases hc:sX ls[i] with
  |none=>
   rw[hc] at u1;have hz:gS ls[i]=[]:=by unfold gS;rw[hc]
   try simp at u1
   simp -implicitDefEqProofs [xG,GD,hl,hw,u1,hz]
  |some x=>
  obtain⟨k,x⟩:=x;rw[hc] at u1;try simp at u1
  simp -implicitDefEqProofs [xG,GD,hl,hw,u1]
 ·simp -implicitDefEqProofs [xG,GD]
def Yz(ls:List ag)(hm:∀l∈ls,l.length<=1073741824)(hb:ls.length<=1073741824):ev LI TT 184 [.row .af 1 (ls.map eS)]=some (.row .own 2 ((ls.flatMap gS).map aK),[.dead]):=by
 rw[aq (b:=GF) (rs:=[.t 2]) (n:=1) rfl rfl];have u1:=VL ls hm hb;try simp at u1
 simp -implicitDefEqProofs [GF,u1,BZ];all_goals (repeat' split)<;>first|rfl|omega|(simp_all;done)|(simp_all;omega)|skip
def Yo(s:ag)(hb:s.length<=16777216):ev LI TT 120 [.str ⟨s.toArray⟩]=some (.au [.agg (iI .own ((cS s).1)),.bool ((cS s).2)],[.dead]):=by
 rw[aq (b:=oB) (rs:=[.c 2 3 true 61,.t 3]) (n:=1) rfl rfl];have u1:=YA s (by omega);try simp at u1
 rw[ag5];have hw:=λr=>ahg (s:=s) (r:=r);have hh:=Qr s;have JO:∀l∈iq s,l.length<=16777216:=λl hl=>by have:=fu (w:=wS) hl;simp only[wS] at this;omega
 have q7:=bn (w:=wS) (iq s);have er:ox s=(if 0<=kV s/\iq s≠[] then (kF (bu 32 ((iq s).headD []))).map λw=>(⟨(((bq w).getD 0:Nat):Int),(iq s).tail.flatMap gS,s.drop (kV s).toNat⟩:cg) else none):=rfl;rw[er] at hw⊢;clear er;generalize iq s=ls at u1 hw hh JO q7⊢;generalize kV s=n at u1 hw hh⊢;by_cases g1:0<=n;rotate_left
 ·have dz:n<0:=by omega
  simp -implicitDefEqProofs [oB,u1,g1,dz,cu]
 have dz:¬n<0:=by omega
 cases ls with
 |nil=>simp at u1;simp -implicitDefEqProofs [oB,u1,g1,dz,cu]
 |cons l0 lt=>
 have hl0:=JO l0 (by simp);have u2:=vn l0 (by omega);have hm:=oF 32 l0;simp only[List.headD_cons,List.tail_cons] at hw⊢;have g2:0<=n/\l0::lt≠[]:=⟨g1,by simp⟩;have g3:¬((lt.length:Int)+1=0):=by omega
 rw[ay g2] at hw⊢;rcases eH:bu 32 l0 with _|⟨w0,_|⟨w1,_|⟨w2,_|⟨w3,ws⟩⟩⟩⟩;·exact absurd eH (xL 32 l0)
 ·rw[eH] at u2;simp at u1 u2;simp -implicitDefEqProofs [oB,u1,u2,kF,cu,dz,g3]
 ·rw[eH] at u2;simp at u1 u2;simp -implicitDefEqProofs [oB,u1,u2,kF,cu,dz,g3]
 rotate_left
 ·rw[eH] at u2;have hn:¬((ws.length:Int)+1+1+1+1=3):=by omega
  simp at u1 u2;simp -implicitDefEqProofs [oB,u1,u2,kF,cu,hn,dz,g3]
 rw[eH] at u2 hw;have hw1:=hm w1 (by rw[eH];simp);have u3:=vl w1 (by omega);have u5:=Yz lt (λl hl=>by have:=JO l (b8 _ hl);omega) (by simp at q7;omega);have hr:=hw ⟨(((bq w1).getD 0:Nat):Int),lt.flatMap gS,s.drop n.toNat⟩ rfl;have u4:=On ⟨(((bq w1).getD 0:Nat):Int),lt.flatMap gS,s.drop n.toNat⟩ (by omega);have hn2:n<=s.length:=hh.2.1;have QD:(lt.map eS).take lt.length=lt.map eS:=uI (by simp);have vK:(1:Int)<=(lt.length:Int)+1:=by omega
 have htk:(s.drop n.toNat).take (s.length - n.toNat)=s.drop n.toNat:=uI (by simp);simp only[kF,cj];obtain⟨st,hst⟩:∃st,(((bq w1).getD 0:Nat):Int)=st:=⟨_,rfl⟩;rw[hst] at u3 u4⊢;by_cases g:fQ ⟨st,lt.flatMap gS,s.drop n.toNat⟩=s;·rw[g] at u4;simp at u1 u2 u3 u4 u5;simp -implicitDefEqProofs [oB,Gi,Gj,u1,u2,u3,u4,u5,g,g1,dz,g3,hn2,vK,htk,QD,cu,Lib.extract_mk]
 simp at u1 u2 u3 u4 u5;simp -implicitDefEqProofs [oB,u1,u2,u3,u4,u5,g,g1,dz,g3,hn2,vK,htk,QD,cu,Lib.extract_mk,Gi,Gj];all_goals (repeat' split)<;>first|rfl|omega|(simp_all;done)|(simp_all;omega)|skip
end M
set_option maxHeartbeats 4000000
namespace M
open Go
def Lp(s:ag):bC (cS s).1<=800:=by
 cases h:(cS s).2;·have:cS s=(cu,false):=Sc h;rw[this];decide
 ·exact Sk (Sd h).1
def alu(fs:List aJ):wL wS (gF fs)<=(wL aN fs+1)*(wL aN fs+1):=by refine qg (λw hw=>?_) (Mv fs);unfold gF at hw;obtain⟨x,hx,rfl⟩:=bp.1 hw;have h1:=Cn _ x hx;have h2:=vG fs jF;simp only[wS,ct,dx];omega
def Tq(s:ag):wL wS (gF (cS s).1.fields)<=641601:=by
 have h1:=Lp s;have h2:=alu (cS s).1.fields;have h3:wL aN (cS s).1.fields+1<=801:=by have:bC (cS s).1=wL aN (cS s).1.fields+(cS s).1.body.length:=rfl;omega
 exact eO h2 (Nat.mul_le_mul h3 h3)
def I0(s:ag):(fU s).1.length<=s.length/\(fU s).2.length<=s.length:=by
 unfold fU;cases h:cH 10 s with
 |none=>simp
 |some p=>have:=sY h;simp only[uL];omega
def O1(s:ag):∃b,Lib.cut s [10]=((fU s).1,(fU s).2,b):=by
 rw[Di];unfold fU;cases h:cH 10 s with
 |none=>exact⟨_,rfl⟩
 |some p=>exact⟨_,rfl⟩
def S5:∀(n:Nat) (s:ag),(eu n s).1.length=n/\(∀v∈(eu n s).1,v.length<=s.length)/\(eu n s).2.length<=s.length
 |0,s=>by simp[eu]
 |n+1,s=>by
  have h1:=I0 s;have ih:=S5 n (fU s).2;rw[eu];refine⟨by simp[ih.1],λv hv=>?_,by simp only;omega⟩;rcases bZ.1 hv with rfl|hv;·exact h1.1
  ·have:=ih.2.1 v hv;omega
def NC(s p:ag)(tt:Int)(n:Nat)(hn:n<=4):∀(m i:Nat) (g:List ag) (t:ag),i+m=n->g.length=i->t.length<=16777216->
  aG (ai (ev LI TT) (aj TT) zP) [(0,.str ⟨s.toArray⟩),(2,.ptr .own (bA .own cX)),(5,.str ⟨t.toArray⟩),(12,.ptr .own (bA .own ⟨p,[],g,cu,tt⟩)),(60,.int .i64 n),(61,.int .i64 i)]=some (.exit 0,[(0,.str ⟨s.toArray⟩),(2,.ptr .own (bA .own cX)),(5,.str ⟨((eu m t).2).toArray⟩),(12,.ptr .own (bA .own ⟨p,[],g++(eu m t).1,cu,tt⟩)),(60,.int .i64 n),(61,.int .i64 n),(62,.bool false)])
 |0,i,g,t,hi,hg,ht=>by
  have:i=n:=by omega
  subst this;rw[dY];simp -implicitDefEqProofs [zP,J5,eu,cu,cX]
 |m+1,i,g,t,hi,hg,ht=>by
  have hl:i<n:=by omega
  have hw:=aQ i (by omega);obtain⟨b,hb⟩:=O1 t;have u1:=vp t [10] (by omega);rw[hb] at u1;have hlz:(g.length+1)*16<=140737488355328:=by omega
  have hc:=I0 t
  have hstep:ai (ev LI TT) (aj TT) zP [(0,.str ⟨s.toArray⟩),(2,.ptr .own (bA .own cX)),(5,.str ⟨t.toArray⟩),(12,.ptr .own (bA .own ⟨p,[],g,cu,tt⟩)),(60,.int .i64 n),(61,.int .i64 i)]=some (.normal,[(0,.str ⟨s.toArray⟩),(2,.ptr .own (bA .own cX)),(5,.str ⟨((fU t).2).toArray⟩),(12,.ptr .own (bA .own ⟨p,[],g++[(fU t).1],cu,tt⟩)),(60,.int .i64 n),(61,.int .i64 ((i+1:Nat):Int))]):=by
   try simp at u1
   simp -implicitDefEqProofs [zP,J5,cu,cX,hl,hw,u1,hlz,dB]
  rw[dY,hstep];have ih:=NC s p tt n hn m (i+1) (g++[(fU t).1]) (fU t).2 (by omega) (by simp;omega) (by omega);rw[mE] at ih;exact ih
def WU(s:ag)(hb:s.length<=16777216):ev LI TT 143 [.str ⟨s.toArray⟩]=some (.au [.agg (bA .own ((gU s).1)),.bool ((gU s).2)],[.dead]):=by
 rw[aq (b:=n6) (rs:=[.c 2 7 true 63,.t 3]) (n:=1) rfl rfl];have u1:=vp s [10] (by omega);obtain⟨cb,hcb⟩:=O1 s;rw[hcb] at u1;have hc:=I0 s;rw[afQ];have eo:tY s=(lD (bu 32 (fU s).1)).bind λw=>(bq w.2.1).bind λt=>(bq w.2.2).bind λn=>Bc w.1 t n (fU s).2:=rfl;rw[eo];clear eo hcb;generalize fU s=ln at u1 hc⊢;obtain⟨l,b⟩:=ln;simp only at u1 hc⊢;have u2:=sP l 32 (by omega);have hm:=oF 32 l;by_cases h4:(bu 32 l).length=4;rotate_left
 ·have qV:¬(((bu 32 l).length:Int)=4):=by omega
  have zv:lD (bu 32 l)=none:=by unfold lD;split;(rename_i e;rw[e] at h4;simp at h4);rfl
  rw[zv];try simp at u1 u2
  simp -implicitDefEqProofs [n6,u1,u2,qV,cX,cu]
 obtain⟨w0,w1,w2,w3,hw⟩:=Fx h4;rw[hw] at u2 hm⊢;have DU:=hm w1 (by simp);have u3:=vk w2 (by have:=hm w2 (by simp);omega);have u4:=vk w3 (by have:=hm w3 (by simp);omega);simp only[lD,gj];cases h2:bq w2 with
 |none=>rw[h2] at u3;simp at u1 u2 u3 u4;simp -implicitDefEqProofs [n6,u1,u2,u3,u4,cX,cu]
 |some t=>
 cases h3:bq w3 with
 |none=>rw[h2] at u3;rw[h3] at u4;simp at u1 u2 u3 u4;simp -implicitDefEqProofs [n6,u1,u2,u3,u4,cX,cu]
 |some n=>
 rw[h2] at u3;rw[h3] at u4;simp only[gj];unfold Bc;by_cases g:n<=4;rotate_left
 ·have g':4<(n:Int):=by omega
  simp at u1 u2 u3 u4;simp -implicitDefEqProofs [n6,u1,u2,u3,u4,g,g',cX,cu]
 have g':¬4<(n:Int):=by omega
 have u5:=NC s w1 (t:Nat) n g n 0 [] b (by omega) rfl (by omega);have hv:=S5 n b;have u6:=WX (eu n b).2 (by omega);have hrw:=Lp (eu n b).2;have hvw:=Tq (eu n b).2;have hrf:bC (cS (eu n b).2).1=wL aN (cS (eu n b).2).1.fields+(cS (eu n b).2).1.body.length:=rfl;have u7:=N5 (cS (eu n b).2).1.fields (by omega);have hvs:wL wS (eu n b).1<=4*(16777216+1):=qg (λv ez=>by have:=hv.2.1 v ez;simp only[wS];omega) (by omega);have u8:=WV ⟨w1,gF (cS (eu n b).2).1.fields,(eu n b).1,(cS (eu n b).2).1,(t:Nat)⟩ (by simp only[aZ];omega);rw[ay g];generalize gF (cS (eu n b).2).1.fields=vo at u7 u8⊢;generalize cS (eu n b).2=rr at u6 u7 u8⊢;obtain⟨⟨Lv,Ls,Li⟩,Sl⟩:=rr;simp only at u6 u7 u8⊢;generalize eu n b=tv at u5 u6 u8⊢;obtain⟨vs,rest⟩:=tv;simp only[cX,cu,eN] at u5 u6 u8⊢;simp at u1 u2 u3 u4 u5 u6 u7;cases Sl;·simp -implicitDefEqProofs [n6,u1,u2,u3,u4,u5,u6,u7,g']
 by_cases gt:eY ⟨w1,vo,vs,⟨Lv,Ls,Li⟩,(t:Int)⟩=s;·rw[gt] at u8;simp at u8;simp -implicitDefEqProofs [n6,u1,u2,u3,u4,u5,u6,u7,u8,g',gt]
 simp at u8;simp -implicitDefEqProofs [n6,u1,u2,u3,u4,u5,u6,u7,u8,g',gt,eq_false gt];all_goals (repeat' split)<;>first|rfl|omega|(simp_all;done)|(simp_all;omega)|skip
def jZ:Nat->ag->Option (List ag×ag)
 |0,s=>some ([],s)
 |n+1,s=>(cH 10 s).bind λp=>(jZ n p.2).map λq=>(p.1::q.1,q.2)
def S3:∀(n:Nat) (s:ag) (q:List ag×ag),jZ n s=some q->q.1.length=n/\(∀v∈q.1,v.length<=s.length)/\q.2.length<=s.length/\s.drop (s.length - q.2.length)=q.2
 |0,s,q,h=>by simp[jZ] at h;subst h;simp
 |n+1,s,q,h=>by
  rw[jZ] at h;obtain⟨p,h1,h2⟩:=kH.1 h;obtain⟨r,h3,rfl⟩:=kI.1 h2;have hd:=sY h1;have ih:=S3 n p.2 r h3;refine⟨by simp[ih.1],λv hv=>?_,by simp only;omega,?_⟩
  ·rcases bZ.1 hv with rfl|hv;·omega
   ·have:=ih.2.1 v hv;omega
  ·simp only;have e:s.length - r.2.length=(s.length - p.2.length)+(p.2.length - r.2.length):=by omega
   rw[e,<-CK,hd.2.1];exact ih.2.2.2
def S2(r:ag):∀(l:List ag),(∀v∈l,bN 10 v)->jZ l.length (iT l++r)=some (l,r)
 |[],_=>rfl
 |v::l,h=>by
  have e:iT (v::l)++r=v++10::(iT l++r):=by simp[iT]
  rw[e,cR,jZ,IZ v _ (h v (bF ..))];simp only[gj];rw[S2 r l λx hx=>h x (b8 _ hx)];rfl
noncomputable def xd(s:ag):Option Ob:=(cH 10 s).bind λc=>(lD (bu 32 c.1)).bind λw=>(jZ (min ((bq w.2.2).getD 0) 4) c.2).map λq=>⟨w.1,gF (cS q.2).1.fields,q.1,(cS q.2).1,(((bq w.2.1).getD 0:Nat):Int)⟩
def afT:xd []=none:=by simp[xd,cH]
def afS{o:Ob}(ho:cO o=true):xd (me o)=some o:=by
 have h:=Bb ho;unfold xd me;rw[IZ _ _ (RF h)];simp only[gj];rw[RG h];have h0:=h.t0;have h1:=h.t1;have hl:=h.len;have h4:=h.n4
 have hn:bq (eM o.t)=some o.t.toNat:=by
  have e:o.t=((o.t.toNat:Nat):Int):=by omega
  rw[e,RC _ (by omega)];simp;omega
 have hd:bq (aX o.values.length)=some o.values.length:=mc.2 ⟨by omega,rfl⟩;simp only[lD,gj,hn,hd,uL];rw[lF (by omega),S2 (ga o.resp) o.values (Tn h)];have h2:cS (ga o.resp)=(o.resp,true):=Sb (cand:=ow) (λr h=>Lu h) h.resp;simp only[cj,h2];have ht:((o.t.toNat:Nat):Int)=o.t:=by omega
 rw[ht,<-h.Tp]
def afR(s:ag):gU s=match xd s with
  |some o=>if eY o=s then (o,true) else (cX,false)
  |none=>(cX,false):=RH (λo h=>afS h) afT s
end M
set_option maxHeartbeats 4000000
namespace M
open Go
def ND(s p:ag)(tt:Int)(n:Nat)(hn:n<=1000000)(hs:s.length<=16777216):∀(m i:Nat) (g:List ag) (t:ag),i+m=min n 4->g.length=i->t.length<=s.length->s.drop (s.length - t.length)=t->
  (∀q,jZ m t=some q->aG (ai (ev LI TT) (aj TT) mA) [(0,.str ⟨s.toArray⟩),(2,.ptr .own (bA .own cX)),(5,.int .i64 ((s.length - t.length:Nat):Int)),(9,.int .i64 n),(11,.ptr .own (bA .own ⟨p,[],g,cu,tt⟩)),(12,.int .i64 i)]=some (.exit 0,[(0,.str ⟨s.toArray⟩),(2,.ptr .own (bA .own cX)),(5,.int .i64 ((s.length - q.2.length:Nat):Int)),(9,.int .i64 n),(11,.ptr .own (bA .own ⟨p,[],g++q.1,cu,tt⟩)),(12,.int .i64 (min n 4:Nat)),(59,.bool false)]))/\
  (jZ m t=none->∃g' j,aG (ai (ev LI TT) (aj TT) mA) [(0,.str ⟨s.toArray⟩),(2,.ptr .own (bA .own cX)),(5,.int .i64 ((s.length - t.length:Nat):Int)),(9,.int .i64 n),(11,.ptr .own (bA .own ⟨p,[],g,cu,tt⟩)),(12,.int .i64 i)]=some (.exit 0,[(0,.str ⟨s.toArray⟩),(2,.ptr .own (bA .own cX)),(5,.int .i64 (-1)),(9,.int .i64 n),(11,.ptr .own (bA .own ⟨p,[],g',cu,tt⟩)),(12,.int .i64 j),(59,.bool false)]))
 |0,i,g,t,hi,hg,ht,hd=>by
  refine⟨λq hq=>?_,λh=>by simp[jZ] at h⟩;simp[jZ] at hq;subst hq;have:i=min n 4:=by omega
  rw[<-this];rw[dY];by_cases g1:(i:Int)<n
  ·have g2:¬(i:Int)<4:=by omega
   have dz:i<n:=by omega
   have nV:¬i<4:=by omega
   simp -implicitDefEqProofs [mA,rW,cu,cX,g1,g2,dz,nV]
  ·have dz:¬i<n:=by omega
   simp -implicitDefEqProofs [mA,rW,cu,cX,g1,dz]
 |m+1,i,g,t,hi,hg,ht,hd=>by
  have g1:i<n:=by omega
  have g2:i<4:=by omega
  have dz:(i:Int)<n:=by omega
  have nV:(i:Int)<4:=by omega
  have hw:=aQ i (by omega);have u1:=C6 s (s.length - t.length) (by omega) (by omega);unfold wT wR at u1;rw[hd] at u1;have hlz:(g.length+1)*16<=140737488355328:=by omega
  have ij:(0:Int)<=((s.length - t.length:Nat):Int):=by omega
  obtain⟨e,he⟩:∃e,s.length - t.length=e:=⟨_,rfl⟩;rw[jZ];cases hc:cH 10 t with
  |none=>
   refine⟨λq hq=>by simp at hq,λ_=>⟨g++[[]],(i+1:Nat),?_⟩⟩;rw[hc] at u1;rw[he] at u1 ij⊢
   have hstep:ai (ev LI TT) (aj TT) mA [(0,.str ⟨s.toArray⟩),(2,.ptr .own (bA .own cX)),(5,.int .i64 (e:Int)),(9,.int .i64 n),(11,.ptr .own (bA .own ⟨p,[],g,cu,tt⟩)),(12,.int .i64 i)]=some (.normal,[(0,.str ⟨s.toArray⟩),(2,.ptr .own (bA .own cX)),(5,.int .i64 (-1)),(9,.int .i64 n),(11,.ptr .own (bA .own ⟨p,[],g++[[]],cu,tt⟩)),(12,.int .i64 ((i+1:Nat):Int))]):=by
    try simp at u1
    simp -implicitDefEqProofs [mA,rW,cu,cX,g1,g2,dz,nV,hw,u1,hlz,dB]
   rw[dY,hstep];show aG _ _=_;rw[dY];by_cases g3:i+1<n
   ·have jc:(i:Int)+1<n:=by omega
    by_cases g4:i+1<4
    ·have lV:(i:Int)+1<4:=by omega
     simp -implicitDefEqProofs [mA,rW,cu,cX,g3,jc,g4,lV]
    ·have lV:¬(i:Int)+1<4:=by omega
     simp -implicitDefEqProofs [mA,rW,cu,cX,g3,jc,g4,lV]
   ·have jc:¬(i:Int)+1<n:=by omega
    simp -implicitDefEqProofs [mA,rW,cu,cX,g3,jc]
  |some c=>
   obtain⟨l,r⟩:=c;have bh:=sY hc;simp only at bh;rw[hc] at u1;simp only at u1;have e2:(s.length - t.length)+(t.length - r.length)=s.length - r.length:=by omega
   have adP:s.drop (s.length - r.length)=r:=by rw[<-e2,<-CK,hd];exact bh.2.1
   have ih:=ND s p tt n hn hs m (i+1) (g++[l]) r (by omega) (by simp;omega) (by omega) adP;obtain⟨f,hf⟩:∃f,s.length - r.length=f:=⟨_,rfl⟩
   have u2:ev LI TT 116 [.str ⟨s.toArray⟩,.int .i64 (e:Int)]=some (.au [.str ⟨l.toArray⟩,.int .i64 (f:Int)],[.dead,.dead]):=by
    rw[he] at u1;have:(s.length:Int) - r.length=(f:Int):=by omega
    first|exact u1|(simp at u1⊢;rw[u1];simp;omega)|(rw[u1];simp;omega)
   rw[he] at ij⊢;rw[hf] at ih
   have hstep:ai (ev LI TT) (aj TT) mA [(0,.str ⟨s.toArray⟩),(2,.ptr .own (bA .own cX)),(5,.int .i64 (e:Int)),(9,.int .i64 n),(11,.ptr .own (bA .own ⟨p,[],g,cu,tt⟩)),(12,.int .i64 i)]=some (.normal,[(0,.str ⟨s.toArray⟩),(2,.ptr .own (bA .own cX)),(5,.int .i64 (f:Int)),(9,.int .i64 n),(11,.ptr .own (bA .own ⟨p,[],g++[l],cu,tt⟩)),(12,.int .i64 ((i+1:Nat):Int))]):=by
    try simp at u2
    simp -implicitDefEqProofs [mA,rW,cu,cX,g1,g2,dz,nV,hw,u2,hlz,dB]
   refine⟨λq hq=>?_,λhq=>?_⟩;·obtain⟨q',h1,rfl⟩:=kI.1 hq;rw[dY,hstep];have:=ih.1 q' h1;rw[mE] at this;exact this
   ·have h1:jZ m r=none:=by simpa using hq
    obtain⟨g',j,h2⟩:=ih.2 h1;refine⟨g',j,?_⟩;rw[dY,hstep];exact h2
def Ym(s:ag)(hb:s.length<=16777216):ev LI TT 56 [.str ⟨s.toArray⟩]=some (.au [.agg (bA .own ((gU s).1)),.bool ((gU s).2)],[.dead]):=by
 rw[aq (b:=rX) (rs:=[.c 2 7 true 63,.t 3]) (n:=1) rfl rfl];have u1:=C6 s 0 (by omega) (by omega);simp only[wT,wR,HE] at u1;rw[afR];have eo:xd s=(cH 10 s).bind λc=>(lD (bu 32 c.1)).bind λw=>(jZ (min ((bq w.2.2).getD 0) 4) c.2).map λq=>(⟨w.1,gF (cS q.2).1.fields,q.1,(cS q.2).1,(((bq w.2.1).getD 0:Nat):Int)⟩:Ob):=rfl;rw[eo];clear eo;cases hc:cH 10 s with
 |none=>rw[hc] at u1;have u2:=vn [] (by simp);simp at u1 u2;simp -implicitDefEqProofs [rX,u1,u2,cX,cu]
 |some c=>
 obtain⟨l,b⟩:=c;rw[hc] at u1;have hd:=sY hc;simp only at hd;obtain⟨d1,d2,d3⟩:=hd;have u2:=vn l (by omega);have hm:=oF 32 l;have d4:¬(((s.length - b.length:Nat):Int)<0):=by omega
 simp only[gj] at u1⊢;by_cases h4:(bu 32 l).length=4;rotate_left
 ·have qV:¬(((bu 32 l).length:Int)=4):=by omega
  have zv:lD (bu 32 l)=none:=by unfold lD;split;(rename_i e;rw[e] at h4;simp at h4);rfl
  rw[zv];obtain⟨e,he⟩:∃e,s.length - b.length=e:=⟨_,rfl⟩;rw[he] at u1 d4;try simp at u1 u2
  simp -implicitDefEqProofs [rX,u1,u2,qV,d4,cX,cu]
 obtain⟨w0,w1,w2,w3,hw⟩:=Fx h4;rw[hw] at u2 hm⊢;have u3:=vl w2 (by have:=hm w2 (by simp);omega);have u4:=vl w3 (by have:=hm w3 (by simp);omega);have DU:=hm w1 (by simp);simp only[lD,gj];obtain⟨n,hn⟩:∃n,(bq w3).getD 0=n:=⟨_,rfl⟩
 have hnb:n<=1000000:=by
  rw[<-hn];cases hq:bq w3 with
  |none=>simp
  |some x=>have:=(mc.1 hq).1;simp;omega
 rw[hn] at u4⊢;obtain⟨t,ht⟩:∃t,(((bq w2).getD 0:Nat):Int)=t:=⟨_,rfl⟩;rw[ht] at u3⊢;have u5:=ND s w1 t n hnb hb (min n 4) 0 [] b (by omega) rfl (by omega) d2;obtain⟨e,he⟩:∃e,s.length - b.length=e:=⟨_,rfl⟩;rw[he] at u1 d4 u5;cases hq:jZ (min n 4) b with
 |none=>obtain⟨g',j,u6⟩:=u5.2 hq;simp[cu,cX] at u1 u2 u3 u4 u6;simp -implicitDefEqProofs [rX,u1,u2,u3,u4,u6,d4,cX,cu]
 |some q=>
 have u6:=u5.1 q hq;have hv:=S3 _ _ _ hq;obtain⟨vs,rest⟩:=q;simp only[cj] at hv u6⊢;have hrl:rest.length<=s.length:=by omega
 have bh:s.drop (s.length - rest.length)=rest:=by
  have e2:(s.length - b.length)+(b.length - rest.length)=s.length - rest.length:=by omega
  rw[<-e2,<-CK,d2];exact hv.2.2.2
 have u7:=Yo rest (by omega);have hrw:=Lp rest;have hvw:=Tq rest;have hrf:bC (cS rest).1=wL aN (cS rest).1.fields+(cS rest).1.body.length:=rfl;have u8:=Oq (cS rest).1.fields (by omega);have hvs:wL wS vs<=4*(16777216+1):=qg (λv ez=>by have:=hv.2.1 v ez;simp only[wS];omega) (by omega);have u9:=Iy ⟨w1,gF (cS rest).1.fields,vs,(cS rest).1,t⟩ (by simp only[aZ];omega);generalize gF (cS rest).1.fields=vo at u8 u9⊢;generalize cS rest=rr at u7 u8 u9⊢;obtain⟨⟨Lv,Ls,Li⟩,Sl⟩:=rr;simp only at u7 u8 u9⊢;obtain⟨f,hf⟩:∃f,s.length - rest.length=f:=⟨_,rfl⟩;rw[hf] at u6 bh;have d5:¬((f:Int)<0):=by omega
 have d6:(f:Int)<=s.length:=by omega
 have d7:(s.drop f).take (s.length - f)=s.drop f:=uI (by simp);rw[bh] at d7;simp only[cX,cu,eN] at u6 u9⊢;simp at u1 u2 u3 u4 u6 u7 u8;by_cases gt:eY ⟨w1,vo,vs,⟨Lv,Ls,Li⟩,t⟩=s;·rw[gt] at u9;simp at u9;simp -implicitDefEqProofs [rX,u1,u2,u3,u4,u6,u7,u8,u9,d4,d5,d6,d7,bh,gt,Lib.extract_mk]
 simp at u9;simp -implicitDefEqProofs [rX,u1,u2,u3,u4,u6,u7,u8,u9,d4,d5,d6,d7,bh,gt,eq_false gt,Lib.extract_mk];all_goals (repeat' split)<;>first|rfl|omega|(simp_all;done)|(simp_all;omega)|skip
end M
set_option maxHeartbeats 4000000
namespace M
open Go
def rO{α:Type}(T:List α)(n:Nat)(a:α)(h:T[n]?=some a)(g:α->α):T.modify n g=T.set n (g a):=by
 apply hO;intro j;rw[uR,yh];by_cases e:n=j;·subst e;obtain⟨hi,hh⟩:=aF.1 h;have hg:T[n]=a:=hh;simp[hg,hi]
 ·simp[e]
def r8{α:Type}(T:List α)(n:Nat)(a:α)(g:α->α):(T.set n a).modify n g=T.set n (g a):=by
 apply hO;intro j;rw[uR,yh,yh];by_cases e:n=j;·subst e;by_cases h:n<T.length<;>simp[h]
 ·simp[e]
def di(k:Kp):List X:=[.str ⟨k.obj.path.toArray⟩,.dead,.dead,.int .i64 k.obj.resp.status,.dead,.str ⟨k.obj.resp.body.toArray⟩,.int .i64 k.obj.t,.int .i64 k.at_,.int .i64 k.seq]
def alv{α:Type}(w:α->Nat)(l:List α)(i:Nat)(v:α):wL w (l.set i v)<=wL w l+w v:=by
 unfold wL;rw[Np];induction l generalizing i with
 |nil=>simp
 |cons a l ih=>
  cases i with
  |zero=>simp;omega
  |succ i=>have:=ih i;simp at this⊢;omega
def Jm(k:Nat->Bool):∀(ws:List Wr) (i:Nat) (cs:List ag),wL wS (foldI (gR k) i ws cs)<=wL wS cs+wL cl ws
 |[],i,cs=>by simp[foldI]
 |w::ws,i,cs=>by
  have h:=Jm k ws (i+1) (gR k i cs w)
  have h2:wL wS (gR k i cs w)<=wL wS cs+cl w:=by
   unfold gR;split;·exact alv wS cs _ w.text
   ·omega
  have h3:wL cl (w::ws)=cl w+wL cl ws+1:=by simp[wL];omega
  rw[foldI];omega
def PG(d:bg):cv (dX d)<=cv d:=by have:=Jm (gy [] true) d.pending 0 d.cells;show wL wS (nh (gy [] true) d.cells d.pending)+wL cl []<=wL wS d.cells+wL cl d.pending;unfold nh;have h:wL cl ([]:List Wr)=0:=rfl;omega
structure V6 (s:Sh):Prop where
 d:dc s.aP=true
 b:(s.aU.length:Int)<=5
 n:5<=s.next/\s.next<=19
 q:1<=s.seq/\s.seq<=100000
 bs:aM dV s.aU=true
 os:tZ s.seq s.av=true
def SL{s:Sh}(h:lz s=true):V6 s:=by unfold lz at h;simp only[aA,bz] at h;exact⟨h.1.1.1.1.1,h.1.1.1.1.2,h.1.1.1.2,h.1.1.2,h.1.2,h.2⟩
def ahq{s:Sh}(h:lz s=true){k:Kp}(hk:k∈s.av):cO k.obj=true:=by unfold lz at h;simp only[aA] at h;have:=h.2;unfold tZ at this;obtain⟨i,hi,rfl⟩:=yl hk;have h2:=iX.1 this (s.av[i],i) (lE (i:=i) (by simp[hi]));unfold rC at h2;simp only[aA] at h2;exact h2.1.1.1.1
end M
set_option maxHeartbeats 4000000
namespace M
open Go
def DE(d:bg)(a:Int):(cM d a).length<=cv d:=by
 have hw:cv d=wL wS d.cells+wL cl d.pending:=rfl;unfold cM;rw[Jn];cases h:d.pending.reverse.find? (λw=>decide (w.at_=a)) with
 |none=>
  simp only[Option.elim_none];rw[kK];cases h2:d.cells[a.toNat]? with
  |none=>simp
  |some s=>have:=fu (w:=wS) (lE h2);simp only[wS] at this;simp only[uL];omega
 |some w=>have:=List.mem_of_find?_eq_some h;have:=fu (w:=cl) (List.mem_reverse.1 this);simp only[cl] at this;simp only[Option.elim_some];omega
def Uq(d:bg)(a:Int)(hb:d.pending.length<=9223372036854775807):aG (ai (ev LI TT) (aj TT) zJ) [(0,.ptr .af (bT .af d)),(1,.int .i64 a),(5,.int .i64 (d.pending.length - 1))]=
  (d.pending.reverse.find? (λw=>decide (w.at_=a))).elim (some (.exit 0,[(0,.ptr .af (bT .af d)),(1,.int .i64 a),(5,.int .i64 (-1)),(13,.bool false)])) (λw=>some (.ret,[(4,.str ⟨w.text.toArray⟩)])):=by
 refine aff (f:=ai (ev LI TT) (aj TT) zJ) d.pending (λi=>[(0,.ptr .af (bT .af d)),(1,.int .i64 a),(5,.int .i64 i)]) (λw=>decide (w.at_=a)) (λw=>[(4,.str ⟨w.text.toArray⟩)]) _ (λi b hi hl=>?_) ?_;·have hw:IntKind.i64.wrap ((i:Int) - 1)=i - 1:=bK (by omega) (by omega);obtain⟨_,rfl⟩:=aF.1 hi;simp -implicitDefEqProofs [zJ,J2,hl,hw]
 ·simp -implicitDefEqProofs [zJ,J2]
def NT(d:bg)(a:Int)(hb:d.pending.length<=9223372036854775807)(h0:0<=a)(h1:a<d.cells.length):ev LI TT 140 [.ptr .af (bT .af d),.int .i64 a]=some (.str ⟨(cM d a).toArray⟩,[.dead,.dead]):=by
 rw[aq (b:=Ef) (rs:=[.t 4]) (n:=2) rfl rfl];have h:=Uq d a hb;have hw:IntKind.i64.wrap ((d.pending.length:Int) - 1)=d.pending.length - 1:=bK (by omega) (by omega);have h2:a.toNat<d.cells.length:=by omega
 simp at h;unfold cM;rw[Jn];simp -implicitDefEqProofs [Ef,hw,h];cases d.pending.reverse.find? (λw=>decide (w.at_=a))<;>simp[h0,h2]
def Vg(d:bg)(a:Int)(hb:d.pending.length<=9223372036854775807)(x:ag):aG (ai (ev LI TT) (aj TT) Br) [(1,.int .i64 a),(2,.ptr .own (bT .af d)),(5,.str ⟨(x).toArray⟩),(6,.int .i64 0)]=some (.exit 0,[(1,.int .i64 a),(2,.ptr .own (bT .af d)),(5,.str ⟨(((d.pending).foldl (λout w=>if w.at_=a then w.text else out) x)).toArray⟩),(6,.int .i64 (d.pending).length),(24,.bool false)]):=by
 refine FD (f:=ai (ev LI TT) (aj TT) Br) (d.pending) (λi (x:ag)=>[(1,.int .i64 a),(2,.ptr .own (bT .af d)),(5,.str ⟨(x).toArray⟩),(6,.int .i64 i)]) (λout w=>if w.at_=a then w.text else out) (λx=>[(1,.int .i64 a),(2,.ptr .own (bT .af d)),(5,.str ⟨(x).toArray⟩),(6,.int .i64 (d.pending).length),(24,.bool false)]) (λ_ _=>True) x trivial (λi b x hi hl _=>?_) (λ_ _ _ _ _=>trivial) (λx _=>?_);·have hw:=aQ i (by first|omega|(simp at hl;omega));obtain⟨_,rfl⟩:=aF.1 hi;simp -implicitDefEqProofs [Br,LC,hl,hw];split<;>rfl
 ·simp -implicitDefEqProofs [Br,LC]
def Og(d:bg)(a:Int)(hb:d.pending.length<=9223372036854775807):ev LI TT 55 [.agg (bT .af d),.int .i64 a]=some (.str ⟨(if dc d=true/\0<=a/\a<=19 then cM d a else []).toArray⟩,[.dead,.dead]):=by
 rw[aq (b:=F8) (rs:=[.t 4]) (n:=2) rfl rfl];have h:=λx=>Vg d a hb x;have h2:=yF d hb;simp at h h2;simp -implicitDefEqProofs [F8,h,h2];by_cases hc:dc d=true/\0<=a/\a<=19
 ·obtain⟨g1,g2,g3⟩:=hc;have g4:=(ld g1).2.1;have g5:¬(a<0\/19<a):=by omega
  have g6:a.toNat<d.cells.length:=by omega
  simp[g1,g2,g3,g5,g6,h,cM]
 ·by_cases g1:dc d=true
  ·have g5:(a<0\/19<a):=by false_or_by_contra;exact hc ⟨g1,by omega,by omega⟩
   have g6:¬(0<=a/\a<=19):=by omega
   simp[g1,g5,g6]
  ·simp[g1]
def Ow(x:Int):ev LI TT 207 [.int .i64 x]=some (.bool false,[.dead]):=by rw[aq (b:=Hf) (rs:=[.t 2]) (n:=1) rfl rfl];simp -implicitDefEqProofs [Hf];all_goals (repeat' split)<;>first|rfl|omega|(simp_all;done)|(simp_all;omega)|skip
def qJ(a b:Int):Int:=if a<b then -1 else if b<a then 1 else 0
def YD(a:Int)(b:Int):ev LI TT 146 [.int .i64 a,.int .i64 b]=some (.int .i64 (qJ a b),[.dead,.dead]):=by
 rw[aq (b:=He) (rs:=[.t 4]) (n:=2) rfl rfl];unfold qJ;by_cases g1:a<b;all_goals by_cases g2:b<a
 all_goals
 have u1:=Ow a;try simp at u1
 have u2:=Ow b;try simp at u2
 simp -implicitDefEqProofs [He,u1,u2,g1,g2];all_goals (repeat' split)<;>first|rfl|omega|(simp_all;done)|(simp_all;omega)|skip
def N1(a b:Kp):ev LI TT 145 [.agg (aE .af a),.agg (aE .af b)]=some (.int .i64 (qJ a.seq b.seq),[.dead,.dead]):=by
 rw[aq (b:=Em) (rs:=[.t 4]) (n:=2) rfl rfl];have u1:=YD a.seq b.seq;try simp at u1
 simp -implicitDefEqProofs [Em,u1];all_goals (repeat' split)<;>first|rfl|omega|(simp_all;done)|(simp_all;omega)|skip
def aho{α:Type}(A:List α)(x k:α)(B:List α)(n:Nat)(hn:n=A.length):((A++x::k::B).set (n+1) x).set n k=A++k::x::B:=by subst hn;simp[List.set_append]
def Uj(a b:Int)(fi:Int)(T:List (List X))(j:Nat)(x k:Kp)(hj:j+1<T.length)(hx:T[j]=aE .own x)(hk:T[j+1]=aE .own k)(hb:T.length<=1073741824)(ha:a=0)(hlt:k.seq<x.seq):
  ai (ev LI TT) (aj TT) su [(0,.ref 100000 []),(1,.int .i64 a),(2,.int .i64 b),(3,.fn 145 []),(8,.int .i64 fi),(9,.int .i64 ((j+1:Nat):Int)),(100000,.row .own 9 T)]=some (.normal,[(0,.ref 100000 []),(1,.int .i64 a),(2,.int .i64 b),(3,.fn 145 []),(8,.int .i64 fi),(9,.int .i64 (j:Nat)),(100000,.row .own 9 ((T.set (j+1) (aE .own x)).set j (aE .own k)))]):=by
 subst ha;have hw:IntKind.i64.wrap ((j:Int)+1 - 1)=j:=by rw[show ((j:Int)+1 - 1)=j by omega];exact bK (by omega) (by omega)
 have fF:IntKind.i64.wrap (j:Int)=j:=bK (by omega) (by omega);have u1:=N1 k x;have hc:qJ k.seq x.seq=-1:=by unfold qJ;rw[ay hlt]
 rw[hc] at u1;have hj':j<T.length:=by omega
 have h0:(0:Int)<(j:Int)+1:=by omega
 have h1:(0:Int)<=(j:Int)+1:=by omega
 have hm:=rO T (j+1) _ (aF.2 ⟨hj,hk⟩);have hm0:=rO T j _ (aF.2 ⟨hj',hx⟩);have DU:∀w g,(T.set j w).modify (j+1) g=(T.set j w).set (j+1) (g (aE .own k)):=λw g=>rO (T.set j w) (j+1) _ (by rw[Ud (by omega)];exact aF.2 ⟨hj,hk⟩) g;have hm2:∀w v g,((T.set j w).set (j+1) v).modify j g=(T.set (j+1) v).set j (g w):=λw v g=>by rw[List.set_comm _ _ (by omega:j≠j+1),r8]
 have ho:aj TT 145=true:=rfl;try simp at hx hk u1 hm hm0 DU
 simp -implicitDefEqProofs [su,Hl,uD,xW,uE,xX,xY,hw,fF,hj,hj',hx,hk,u1,h0,h1,ho,wj,hm,hm0,DU,hm2,r8,ghost,yW]
def Ui(b:Int)(fi:Int)(T:List (List X))(j:Nat)(x k:Kp)(hj:j+1<T.length)(hx:T[j]=aE .own x)(hk:T[j+1]=aE .own k)(hb:T.length<=1073741824)(hlt:¬k.seq<x.seq):
  ai (ev LI TT) (aj TT) su [(0,.ref 100000 []),(1,.int .i64 0),(2,.int .i64 b),(3,.fn 145 []),(8,.int .i64 fi),(9,.int .i64 ((j+1:Nat):Int)),(100000,.row .own 9 T)]=some (.exit 2,[(0,.ref 100000 []),(1,.int .i64 0),(2,.int .i64 b),(3,.fn 145 []),(8,.int .i64 fi),(9,.int .i64 ((j+1:Nat):Int)),(34,.bool false),(100000,.row .own 9 T)]):=by
 have fF:IntKind.i64.wrap (j:Int)=j:=bK (by omega) (by omega);have u1:=N1 k x;have hc:¬qJ k.seq x.seq<0:=by unfold qJ;rw[aD hlt];split<;>omega
 obtain⟨z,hz⟩:∃z,qJ k.seq x.seq=z:=⟨_,rfl⟩;rw[hz] at u1 hc;have hj':j<T.length:=by omega
 have h0:(0:Int)<(j:Int)+1:=by omega
 have h1:(0:Int)<=(j:Int)+1:=by omega
 have ho:aj TT 145=true:=rfl;try simp at hx hk u1
 simp -implicitDefEqProofs [su,Hl,uD,xW,uE,xX,xY,fF,hj,hj',hx,hk,u1,hc,h0,h1,ho,wj]
def Uk(b:Int)(fi:Int)(T:List (List X)):
  ai (ev LI TT) (aj TT) su [(0,.ref 100000 []),(1,.int .i64 0),(2,.int .i64 b),(3,.fn 145 []),(8,.int .i64 fi),(9,.int .i64 0),(100000,.row .own 9 T)]=some (.exit 2,[(0,.ref 100000 []),(1,.int .i64 0),(2,.int .i64 b),(3,.fn 145 []),(8,.int .i64 fi),(9,.int .i64 0),(34,.bool false),(100000,.row .own 9 T)]):=by simp -implicitDefEqProofs [su,Hl,uD,xW,uE,xX,xY]
def Nz(b fi:Int)(k:Kp)(R:List Kp):∀(rev done:List Kp),(rev.length+done.length+R.length+1<=1073741824)->∃j:Nat,
  aG (ai (ev LI TT) (aj TT) su) [(0,.ref 100000 []),(1,.int .i64 0),(2,.int .i64 b),(3,.fn 145 []),(8,.int .i64 fi),(9,.int .i64 (rev.length:Nat)),(100000,.row .own 9 ((rev.reverse++k::(done++R)).map (aE .own)))]=some (.exit 2,[(0,.ref 100000 []),(1,.int .i64 0),(2,.int .i64 b),(3,.fn 145 []),(8,.int .i64 fi),(9,.int .i64 (j:Nat)),(34,.bool false),(100000,.row .own 9 ((wh Kp.seq k rev done++R).map (aE .own)))])
 |[],done,_=>by refine⟨0,?_⟩;rw[dY];have:=Uk b fi ((k::(done++R)).map (aE .own));simp only[List.reverse_nil,eN,kM];rw[show (((0:Nat):Int))=0 from rfl,this];rfl
 |x::rev,done,hb=>by
  simp only[cR] at hb;have hl:((x::rev).reverse++k::(done++R)).length=rev.length+done.length+R.length+2:=by simp;omega
  have e1:(x::rev).reverse++k::(done++R)=rev.reverse++x::k::(done++R):=by simp
  have hx:((rev.reverse++x::k::(done++R)).map (aE .own))[rev.length]'(by simp)=aE .own x:=by simp
  have hk:((rev.reverse++x::k::(done++R)).map (aE .own))[rev.length+1]'(by simp)=aE .own k:=by simp
  rw[e1,cR];unfold wh;by_cases g:k.seq<x.seq
  ·rw[ay g];obtain⟨j,hj⟩:=Nz b fi k R rev (x::done) (by simp;omega);refine⟨j,?_⟩;have hs:=Uj 0 b fi ((rev.reverse++x::k::(done++R)).map (aE .own)) rev.length x k (by simp) hx hk (by rw[dx,<-e1,hl];omega) rfl g;rw[dY,hs];have e2:(((rev.reverse++x::k::(done++R)).map (aE .own)).set (rev.length+1) (aE .own x)).set rev.length (aE .own k)=(rev.reverse++k::((x::done)++R)).map (aE .own):=by have:=aho (rev.reverse.map (aE .own)) (aE .own x) (aE .own k) ((done++R).map (aE .own)) rev.length (by simp);first|(simp;done)|simpa using this
   rw[e2];exact hj
  ·rw[aD g];refine⟨rev.length+1,?_⟩;have hs:=Ui b fi ((rev.reverse++x::k::(done++R)).map (aE .own)) rev.length x k (by simp) hx hk (by rw[dx,<-e1,hl];omega) g;rw[dY,hs];have e2:(x::rev).reverse++k::done++R=rev.reverse++x::k::(done++R):=by simp
   rw[e2];rfl
end M
set_option maxHeartbeats 4000000
namespace M
open Go
def NA(n:Nat)(hn:n<=1073741824):∀(R S:List Kp),rS Kp.seq S->S.length+R.length=n->
  aG (ai (ev LI TT) (aj TT) uC) [(0,.ref 100000 []),(1,.int .i64 0),(2,.int .i64 n),(3,.fn 145 []),(8,.int .i64 (S.length:Nat)),(100000,.row .own 9 ((S++R).map (aE .own)))]=some (.exit 0,[(0,.ref 100000 []),(1,.int .i64 0),(2,.int .i64 n),(3,.fn 145 []),(8,.int .i64 n),(14,.bool false),(100000,.row .own 9 ((R.foldl (λS k=>eV Kp.seq k S) S).map (aE .own)))])
 |[],S,ho,hl=>by
  have:S.length=n:=by simpa using hl
  subst this;rw[dY];simp -implicitDefEqProofs [uC,Ho]
 |k::R,S,ho,hl=>by
  simp only[cR] at hl;have hlt:S.length<n:=by omega
  have hw:=aQ S.length (by omega);obtain⟨j,hj⟩:=Nz n (S.length:Nat) k R S.reverse [] (by simp;omega);rw[QW S.reverse [] (by simpa using ho) (by simp)] at hj;have e1:S.reverse.reverse++k::([]++R)=S++k::R:=by simp
  have e2:S.reverse.reverse++[]=S:=by simp
  rw[e1,e2,HI] at hj
  have hstep:ai (ev LI TT) (aj TT) uC [(0,.ref 100000 []),(1,.int .i64 0),(2,.int .i64 n),(3,.fn 145 []),(8,.int .i64 (S.length:Nat)),(100000,.row .own 9 ((S++k::R).map (aE .own)))]=some (.normal,[(0,.ref 100000 []),(1,.int .i64 0),(2,.int .i64 n),(3,.fn 145 []),(8,.int .i64 ((eV Kp.seq k S).length:Nat)),(100000,.row .own 9 ((eV Kp.seq k S++R).map (aE .own)))]):=by
   rw[QU];try simp at hj
   simp -implicitDefEqProofs [uC,Ho,hlt,hw,hj]
  rw[dY,hstep];exact NA n hn R (eV Kp.seq k S) (QV ho) (by rw[QU];omega)
def YJ(l:List Kp)(hb:l.length<=1073741824):ev LI TT 245 [.row .own 9 (l.map (aE .own)),.int .i64 0,.int .i64 l.length,.fn 145 []]=some (.au [],[.row .own 9 ((gX Kp.seq l).map (aE .own)),.dead,.dead,.dead]):=by
 rw[aq (b:=Cx) (rs:=[]) (n:=4) rfl rfl];cases l with
 |nil=>
  have h:aG (ai (ev LI TT) (aj TT) uC) [(0,.ref 100000 []),(1,.int .i64 0),(2,.int .i64 0),(3,.fn 145 []),(8,.int .i64 1),(100000,.row .own 9 [])]=some (.exit 0,[(0,.ref 100000 []),(1,.int .i64 0),(2,.int .i64 0),(3,.fn 145 []),(8,.int .i64 1),(14,.bool false),(100000,.row .own 9 [])]):=by rw[dY];simp -implicitDefEqProofs [uC,Ho]
  have h1:IntKind.i64.wrap 1=1:=bK (by omega) (by omega);simp -implicitDefEqProofs [Cx,h,h1,gX]
 |cons a l=>
 have h:=NA (a::l).length hb l [a] (by simp[rS]) (by simp;omega);have h1:IntKind.i64.wrap 1=1:=bK (by omega) (by omega);have e:gX Kp.seq (a::l)=l.foldl (λS k=>eV Kp.seq k S) [a]:=rfl;rw[e];generalize l.foldl (λS k=>eV Kp.seq k S) [a]=Z at h⊢;try simp at h
 simp -implicitDefEqProofs [Cx,h,h1,uD,xW,uE,xX,xY];all_goals (repeat' split)<;>first|rfl|omega|(simp_all;done)|(simp_all;omega)|skip
def YK(l:List Kp)(hb:l.length<=15):ev LI TT 206 [.row .own 9 (l.map (aE .own)),.int .i64 l.length,.fn 145 []]=some (.au [],[.row .own 9 ((gX Kp.seq l).map (aE .own)),.dead,.dead]):=by
 rw[aq (b:=Hp) (rs:=[]) (n:=3) rfl rfl];have h0:¬(20:Int)<=l.length:=by omega
 have h0':¬(20:Int)<l.length:=by omega
 have h1:aG (ai (ev LI TT) (aj TT) MD) [(0,.ref 100000 []),(1,.int .i64 l.length),(2,.fn 145 []),(6,.int .i64 20),(7,.int .i64 0),(8,.int .i64 20),(100000,.row .own 9 (l.map (aE .own)))]=some (.exit 0,[(0,.ref 100000 []),(1,.int .i64 l.length),(2,.fn 145 []),(6,.int .i64 20),(7,.int .i64 0),(8,.int .i64 20),(13,.bool false),(100000,.row .own 9 (l.map (aE .own)))]):=by rw[dY];simp -implicitDefEqProofs [MD,TA,h0]
 have h2:∀Z,aG (ai (ev LI TT) (aj TT) ME) [(0,.ref 100000 []),(1,.int .i64 l.length),(2,.fn 145 []),(6,.int .i64 20),(100000,.row .own 9 Z)]=some (.exit 2,[(0,.ref 100000 []),(1,.int .i64 l.length),(2,.fn 145 []),(6,.int .i64 20),(30,.bool false),(100000,.row .own 9 Z)]):=by intro Z;rw[dY];simp -implicitDefEqProofs [ME,TB,h0']
 have h3:=YJ l (by omega);try simp at h1 h3
 simp -implicitDefEqProofs [Hp,h1,h2,h3];all_goals (repeat' split)<;>first|rfl|omega|(simp_all;done)|(simp_all;omega)|skip
def YI(l:List Kp)(hb:l.length<=15):ev LI TT 144 [.row .own 9 (l.map (aE .own)),.fn 145 []]=some (.au [],[.row .own 9 ((gX Kp.seq l).map (aE .own)),.dead]):=by
 rw[aq (b:=Hj) (rs:=[]) (n:=2) rfl rfl];have u1:=YK l hb;try simp at u1
 simp -implicitDefEqProofs [Hj,u1];all_goals (repeat' split)<;>first|rfl|omega|(simp_all;done)|(simp_all;omega)|skip
def N2(s:Sh)(n:Int)(hs:0<=s.seq/\s.seq<=1000000)(hn:0<=n/\n<=1000000):ev LI TT 142 [.ptr .own (aL .own s),.int .i64 n]=some (.au [],[.ptr .own (aL .own ⟨s.aP,s.av,s.aU,s.next,if n<100000 then max s.seq (n+1) else s.seq⟩),.dead]):=by
 rw[aq (b:=vV) (rs:=[]) (n:=2) rfl rfl];have hw:IntKind.i64.wrap (n+1)=n+1:=bK (by omega) (by omega);by_cases g:n<100000;rotate_left;·simp -implicitDefEqProofs [vV,g]
 by_cases g2:n+1>s.seq
 ·have e:max s.seq (n+1)=n+1:=by omega
  have g3:s.seq<n+1:=by omega
  simp -implicitDefEqProofs [vV,g,g2,g3,hw,e]
 have e:max s.seq (n+1)=s.seq:=by omega
 have g3:¬s.seq<n+1:=by omega
 simp -implicitDefEqProofs [vV,g,g2,g3,hw,e];all_goals (repeat' split)<;>first|rfl|omega|(simp_all;done)|(simp_all;omega)|skip
def FY(s:ag):0<=(cA s).1/\(cA s).1<=100000:=by
 cases h:(cA s).2.2;·rw[Sf h];simp
 ·have:=FZ h;omega
def UG(d:bg)(hd:dc d=true)(hwd:cv d<=16777216):
  aG (ai (ev LI TT) (aj TT) tH) [(0,.aC 100000 [] 0 0),(8,.int .i64 0),(100000,.ptr .own (aL .own ⟨d,[],[],5,1⟩))]=
  (match cW (jE d) 0 (List.range 5) ([],0) with
   |.inl g=>some (.exit 0,[(0,.aC 100000 [] 0 0),(8,.int .i64 5),(9,.bool false),(100000,.ptr .own (aL .own ⟨d,[],g.1,5,g.2+1⟩))])
   |.inr e=>some (.ret,[(0,.aC 100000 [] 0 0),(3,.int .i64 e.2.1),(6,.ptr .own (aW e.2.2.1)),(8,.int .i64 (e.2.2.2:Nat)),(31,.bool true),(100000,.ptr .own (aL .own ⟨d,[],e.1.1,5,e.1.2+1⟩))])):=by
 obtain⟨k0,k1,k2⟩:=ld hd
 have:=AW (xt:=0) (f:=ai (ev LI TT) (aj TT) tH) (List.range 5) (λi (g:List Bn×Int)=>[(0,.aC 100000 [] 0 0),(8,.int .i64 i),(100000,.ptr .own (aL .own ⟨d,[],g.1,5,g.2+1⟩))]) (jE d)
  (λg=>[(0,.aC 100000 [] 0 0),(8,.int .i64 5),(9,.bool false),(100000,.ptr .own (aL .own ⟨d,[],g.1,5,g.2+1⟩))])
  (λe=>(.ret,[(0,.aC 100000 [] 0 0),(3,.int .i64 e.2.1),(6,.ptr .own (aW e.2.2.1)),(8,.int .i64 (e.2.2.2:Nat)),(31,.bool true),(100000,.ptr .own (aL .own ⟨d,[],e.1.1,5,e.1.2+1⟩))]))
  (λi g=>(∀b∈g.1,dV b=true)/\g.1.length<=i/\0<=g.2/\g.2<100000) ([],0) (by simp) (λi b g hi hl hg=>?_) (λi b g g' hi hg gO=>(FG d hg).1 g' gO) (λg hg=>?_)
 ·refine yc ?_ (this.trans ?_);·simp
  ·cases cW (jE d) 0 (List.range 5) ([],0) with
   |inl g=>rfl
   |inr e=>rfl
 ·have tc:i<5:=by simpa using hl
  have eT:(i:Int)<5:=by omega
  have hw:=aQ i (by omega);have u1:=NT d i (by omega) (by omega) (by omega);have JL:=DE d i;have u2:=NX (cM d i) (by omega);have hrl:=FX (cM d i);have mT:=FY (cM d i);have u3:=WG (cA (cM d i)).2.1 (by omega);have hlz:(g.1.length+1)*48<=140737488355328:=by omega
  unfold jE;generalize cA (cM d i)=rr at u2 u3 hrl mT⊢;obtain⟨n,bd,ok⟩:=rr;simp only at u2 u3 hrl mT⊢;generalize gu bd=br at u3⊢;obtain⟨⟨bk,ba,bb,bt⟩,sN⟩:=br;have u4:=N2 ⟨d,[],g.1++[⟨bk,ba,bb,bt⟩],5,g.2+1⟩ n (by simp only;omega) (by omega);have tg:(if n<100000 then max (g.2+1) (n+1) else g.2+1)=tV g.2 n+1:=by unfold tV;split<;>omega
  simp only[tg] at u4;simp at u1 u2 u3 u4;cases ok;·simp -implicitDefEqProofs [tH,zV,vT,vU,eT,hw,u1,u2,u3,lv]
  cases sN;·simp -implicitDefEqProofs [tH,zV,vT,vU,eT,hw,u1,u2,u3,lv]
  simp -implicitDefEqProofs [tH,zV,vT,vU,eT,hw,u1,u2,u3,u4,lv,hlz,dB]
 ·simp -implicitDefEqProofs [tH,zV]
def W4(d:bg)(hd:dc d=true)(hwd:cv d<=16777216):ev LI TT 74 [.ptr .own (aL .own ⟨d,[],[],5,1⟩)]=some (.au [],[.ptr .own (aL .own ⟨d,[],(dA d).1,5,(dA d).2+1⟩)]):=by
 rw[aq (b:=zW) (rs:=[]) (n:=1) rfl rfl];have u1:=UG d hd hwd;try simp at u1
 unfold dA;cases hr:cW (jE d) 0 (List.range 5) ([],0) with
 |inl g=>rw[hr] at u1;simp at u1;simp -implicitDefEqProofs [zW,u1,yE]
 |inr e=>
 rw[hr] at u1;simp at u1;simp -implicitDefEqProofs [zW,u1,u1,yE,vT,vU];all_goals (repeat' split)<;>first|rfl|omega|(simp_all;done)|(simp_all;omega)|skip
def VE(d:bg)(hd:dc d=true)(hwd:cv d<=16777216):
  aG (ai (ev LI TT) (aj TT) rY) [(1,.ptr .own (bT .af d)),(4,.row .own 4 []),(5,.int .i64 0),(6,.int .i64 0)]=
  (match cW (jE d) 0 (List.range 5) ([],0) with
   |.inl g=>some (.exit 0,[(1,.ptr .own (bT .af d)),(4,.row .own 4 (g.1.map aW)),(5,.int .i64 g.2),(6,.int .i64 5),(14,.bool false)])
   |.inr e=>some (.ret,[(2,.row .own 4 (e.1.1.map aW)),(3,.int .i64 e.1.2),(4,.dead)])):=by
 obtain⟨k0,k1,k2⟩:=ld hd
 have:=AW (xt:=0) (f:=ai (ev LI TT) (aj TT) rY) (List.range 5) (λi (g:List Bn×Int)=>[(1,.ptr .own (bT .af d)),(4,.row .own 4 (g.1.map aW)),(5,.int .i64 g.2),(6,.int .i64 i)]) (jE d)
  (λg=>[(1,.ptr .own (bT .af d)),(4,.row .own 4 (g.1.map aW)),(5,.int .i64 g.2),(6,.int .i64 5),(14,.bool false)])
  (λe=>(.ret,[(2,.row .own 4 (e.1.1.map aW)),(3,.int .i64 e.1.2),(4,.dead)]))
  (λi g=>(∀b∈g.1,dV b=true)/\g.1.length<=i/\0<=g.2/\g.2<100000) ([],0) (by simp) (λi b g hi hl hg=>?_) (λi b g g' hi hg gO=>(FG d hg).1 g' gO) (λg hg=>?_)
 ·refine yc ?_ (this.trans ?_);·simp
  ·cases cW (jE d) 0 (List.range 5) ([],0) with
   |inl g=>rfl
   |inr e=>rfl
 ·have tc:i<5:=by simpa using hl
  have eT:(i:Int)<5:=by omega
  have hw:=aQ i (by omega);have u1:=Og d i (by omega);have hin:dc d=true/\(0:Int)<=i/\(i:Int)<=19:=⟨hd,by omega,by omega⟩;rw[ay hin] at u1;have JL:=DE d i;have u2:=Ol (cM d i) (by omega);have hrl:=FX (cM d i);have mT:=FY (cM d i);have u3:=Ya (cA (cM d i)).2.1 (by omega);have hlz:(g.1.length+1)*48<=140737488355328:=by omega
  unfold jE;generalize cA (cM d i)=rr at u2 u3 hrl mT⊢;obtain⟨n,bd,ok⟩:=rr;simp only at u2 u3 hrl mT⊢;generalize gu bd=br at u3⊢;obtain⟨⟨bk,ba,bb,bt⟩,sN⟩:=br;have zk:max g.2 n=if n<g.2 then g.2 else n:=by split<;>omega
  simp at u1 u2 u3;cases ok;·simp -implicitDefEqProofs [rY,xy,eT,hw,u1,u2,u3,lv]
  cases sN;·simp -implicitDefEqProofs [rY,xy,eT,hw,u1,u2,u3,lv]
  by_cases gq:n<100000;·simp -implicitDefEqProofs [rY,xy,eT,hw,u1,u2,u3,lv,hlz,dB,gq,tV,zk]
  ·simp -implicitDefEqProofs [rY,xy,eT,hw,u1,u2,u3,lv,hlz,dB,gq,tV]
 ·simp -implicitDefEqProofs [rY,xy]
def Yu(d:bg)(hd:dc d=true)(hwd:cv d<=16777216):ev LI TT 53 [.agg (bT .af d)]=some (.au [.row .own 4 ((dA d).1.map aW),.int .i64 (dA d).2],[.dead]):=by
 rw[aq (b:=BS) (rs:=[.t 2,.t 3]) (n:=1) rfl rfl];have u1:=VE d hd hwd;try simp at u1
 unfold dA;cases hr:cW (jE d) 0 (List.range 5) ([],0) with
 |inl g=>rw[hr] at u1;simp at u1;simp -implicitDefEqProofs [BS,u1,yE]
 |inr e=>
 rw[hr] at u1;simp at u1;simp -implicitDefEqProofs [BS,u1,u1,yE];all_goals (repeat' split)<;>first|rfl|omega|(simp_all;done)|(simp_all;omega)|skip
end M
set_option maxHeartbeats 4000000
namespace M
open Go
def K0(d:bg):wL aV (dA d).1<=1000:=by have:=rK d;have:=qg (w:=aV) (n:=120) (m:=5) (l:=(dA d).1) (λb hb=>Wn (this.1 b hb)) this.2.1;omega
def UH(d:bg)(bs:List Bn)(m:Int)(hd:dc d=true)(hwd:cv d<=16777216)(JA:wL aV bs<=1000)(hm:0<=m/\m<100000):
  aG (ai (ev LI TT) (aj TT) pI) [(0,.aC 100000 [] 0 0),(3,.row .own 9 []),(4,.int .i64 5),(100000,.ptr .own (aL .own ⟨d,[],bs,5,m+1⟩))]=
  some (.exit 0,[(0,.aC 100000 [] 0 0),(3,.row .own 9 ((k8 bs d m).1.map (aE .own))),(4,.int .i64 20),(11,.bool false),(100000,.ptr .own (aL .own ⟨d,[],bs,5,(k8 bs d m).2+1⟩))]):=by
 obtain⟨k0,k1,k2⟩:=ld hd
 have:=iu (xt:=0) (f:=ai (ev LI TT) (aj TT) pI) (List.range 15) (λi (g:List Kp×Int)=>[(0,.aC 100000 [] 0 0),(3,.row .own 9 (g.1.map (aE .own))),(4,.int .i64 ((5+i:Nat):Int)),(100000,.ptr .own (aL .own ⟨d,[],bs,5,g.2+1⟩))]) (rN bs d)
  (λg=>[(0,.aC 100000 [] 0 0),(3,.row .own 9 (g.1.map (aE .own))),(4,.int .i64 20),(11,.bool false),(100000,.ptr .own (aL .own ⟨d,[],bs,5,g.2+1⟩))])
  (λi g=>i<=15/\sH i g) ([],m) ⟨by omega,⟨by simp,by simp,hm,by simp,by simp,by simp⟩⟩ (λi b g hi hl hg=>?_) (λi b g hi hg=>?_) (λg hg=>?_)
 ·refine yc ?_ this;simp
 ·have tc:i<15:=by simpa using hl
  obtain⟨at_,ij⟩:∃a,((5+i:Nat):Int)=a:=⟨_,rfl⟩;have eT:at_<20:=by omega
  have hw:IntKind.i64.wrap (at_+1)=at_+1:=bK (by omega) (by omega);have DP:((5+(i+1):Nat):Int)=at_+1:=by omega
  have u1:=NT d at_ (by omega) (by omega) (by omega);have JL:=DE d at_;have u2:=NX (cM d at_) (by omega);have hrl:=FX (cM d at_);have mT:=FY (cM d at_);have u3:=WU (cA (cM d at_)).2.1 (by omega);have how:=RJ (cA (cM d at_)).2.1;have lX:=hg.2.n;have hlz:(g.1.length+1)*136<=140737488355328:=by omega
  have hgm:=hg.2.m;unfold rN;rw[ij,DP];generalize cA (cM d at_)=rr at u2 u3 hrl mT how⊢;obtain⟨n,bd,ok⟩:=rr;simp only at u2 u3 hrl mT how⊢;generalize gU bd=br at u3 how⊢;obtain⟨⟨op,on,ov,⟨rs,rf,rb⟩,ot⟩,sN⟩:=br;simp only at how;have u4:=N2 ⟨d,[],bs,5,g.2+1⟩ n (by simp only;omega) (by omega);have u5:=WS bs ⟨op,on,ov,⟨rs,rf,rb⟩,ot⟩ (by omega) (by omega);simp only at u5⊢;generalize o8 bs ⟨op,on,ov,⟨rs,rf,rb⟩,ot⟩=hb at u5⊢;simp at u1 u2 u3;cases ok;·simp -implicitDefEqProofs [pI,tI,eT,hw,u1,u2,u3,lv]
  cases sN;·simp -implicitDefEqProofs [pI,tI,eT,hw,u1,u2,u3,lv]
  by_cases gq:n<100000;rotate_left
  ·have oW:100000<=n:=by omega
   simp -implicitDefEqProofs [pI,tI,eT,hw,u1,u2,u3,lv,gq,oW]
  have oW:¬100000<=n:=by omega
  have tg:(if n<100000 then max (g.2+1) (n+1) else g.2+1)=max g.2 n+1:=by rw[ay gq];omega
  simp only[tg] at u4;simp at u4 u5;cases hb;·simp -implicitDefEqProofs [pI,tI,eT,hw,u1,u2,u3,u4,u5,lv,hlz,dB,gq,oW]
  ·simp -implicitDefEqProofs [pI,tI,eT,hw,u1,u2,u3,u4,u5,lv,gq,oW]
 ·have tc:i<15:=by have:=(aF.1 hi).1;simpa using this
  exact⟨by omega,K3 bs d tc b hg.2⟩
 ·simp -implicitDefEqProofs [pI,tI]
def W5(d:bg)(bs:List Bn)(m:Int)(hd:dc d=true)(hwd:cv d<=16777216)(JA:wL aV bs<=1000)(hm:0<=m/\m<100000):ev LI TT 75 [.ptr .own (aL .own ⟨d,[],bs,5,m+1⟩)]=some (.row .own 9 ((gX Kp.seq (k8 bs d m).1).map (aE .own)),[.ptr .own (aL .own ⟨d,[],bs,5,(k8 bs d m).2+1⟩)]):=by
 rw[aq (b:=En) (rs:=[.t 2]) (n:=1) rfl rfl];have u1:=UH d bs m hd hwd JA hm;try simp at u1
 have u2:=YI (k8 bs d m).1 (afg bs d m hm);try simp at u2
 simp -implicitDefEqProofs [En,u1,u2];all_goals (repeat' split)<;>first|rfl|omega|(simp_all;done)|(simp_all;omega)|skip
def Xe(x k:Kp)(hx:aZ x.obj<=1073741824)(hk:aZ k.obj<=1073741824):ev LI TT 77 [.agg (aE .af x),.ptr .af (aE .af k)]=some (.bool (decide (x.seq=k.seq)||jJ x.obj k.obj),[.dead,.dead]):=by
 rw[aq (b:=EK) (rs:=[.t 3]) (n:=2) rfl rfl];have u1:=N8 x.obj k.obj hx hk;try simp at u1
 by_cases g:x.seq=k.seq;all_goals
 simp -implicitDefEqProofs [EK,u1,g];all_goals (repeat' split)<;>first|rfl|omega|(simp_all;done)|(simp_all;omega)|skip
def UF(d:bg)(bs:List Bn)(sq:Int)(all:List Kp)(o9:all.length<=15)(hall:∀k∈all,uV k):
  aG (ai (ev LI TT) (aj TT) vZ) [(2,.ptr .own (aL .own ⟨⟨[],[]⟩,[],[],0,0⟩)),(3,.ptr .own (aL .own ⟨d,[],bs,5,sq⟩)),(4,.row .own 9 (all.map (aE .own))),(12,.ref 4 []),(13,.int .i64 all.length),(14,.int .i64 0)]=
  some (.exit 0,[(2,.ptr .own (aL .own ⟨⟨[],[]⟩,[],[],0,0⟩)),(3,.ptr .own (aL .own ⟨d,(kC all).1,bs,(kC all).2,sq⟩)),(4,.row .own 9 (all.map di)),(12,.ref 4 []),(13,.int .i64 all.length),(14,.int .i64 all.length),(15,.bool false)]):=by
 have:=iu (xt:=0) (f:=ai (ev LI TT) (aj TT) vZ) all (λi (g:List Kp×Int)=>[(2,.ptr .own (aL .own ⟨⟨[],[]⟩,[],[],0,0⟩)),(3,.ptr .own (aL .own ⟨d,g.1,bs,g.2,sq⟩)),(4,.row .own 9 ((all.take i).map di++(all.drop i).map (aE .own))),(12,.ref 4 []),(13,.int .i64 all.length),(14,.int .i64 i)]) (nq all)
  (λg=>[(2,.ptr .own (aL .own ⟨⟨[],[]⟩,[],[],0,0⟩)),(3,.ptr .own (aL .own ⟨d,g.1,bs,g.2,sq⟩)),(4,.row .own 9 (all.map di)),(12,.ref 4 []),(13,.int .i64 all.length),(14,.int .i64 all.length),(15,.bool false)])
  (λi g=>g.1.length<=i) ([],5) (by simp) (λi b g hi hl hg=>?_) (λi b g hi hg=>?_) (λg hg=>?_)
 ·rw[Q8] at this;refine yc ?_ this;simp
 ·obtain⟨_,rfl⟩:=aF.1 hi;have hw:=aQ i (by omega);have hlz:(g.1.length+1)*136<=140737488355328:=by omega
  obtain⟨T,hT⟩:∃T,(all.take i).map di++(all.drop i).map (aE .own)=T:=⟨_,rfl⟩;have hk:=hall _ (bx hl);have u1:=IG (all.drop (i+1)) all[i] 77 (λx=>decide (x.seq=(all[i]).seq)||jJ x.obj (all[i]).obj) rfl (λx hx=>Xe x all[i] (by have:=xb (hall x (TU hx)).o;omega) (by have:=xb hk.o;omega)) (by simp;omega);have u2:=W9 (all[i]).at_ hk.a;have hlb:n9 all i all[i]= !aM (λx=> !(decide (x.seq=(all[i]).seq)||jJ x.obj (all[i]).obj)) (all.drop (i+1)):=by unfold n9 aM;rw[T8];simp
  have s7:T.length=all.length:=by rw[<-hT];simp;omega
  have iK:i<T.length:=by omega
  have e:all.drop i=all[i]::all.drop (i+1):=ql hl;have q7:((all.take i).map di).length=i:=by rw[dx,HJ];omega
  have jy:T[i]=aE .own all[i]:=by
   have h2:T[i]?=some (aE .own all[i]):=by rw[<-hT,iC (by omega),q7,x7,e];rfl
   exact(aF.1 h2).2
  have Qh:T.set i (di all[i])=(all.take (i+1)).map di++(all.drop (i+1)).map (aE .own):=by rw[<-hT,Hu _ _ (by omega),q7,x7,e,bD,CB,oI hl,jq,mE];rfl
  have hml:∀(l:List (List X)),X.bY .af l=l.map (X.dZ .af):=λl=>by
   induction l with
   |nil=>rfl
   |cons a l ih=>simp[X.bY,ih]
  have kz:((X.bY .af (T.set i (di all[i]))).take all.length).drop (i+1)=(all.map (aE .af)).drop (i+1):=by
   have hd1:(((all.take (i+1)).map di).map (X.dZ .af)).length=i+1:=by rw[dx,dx,HJ];omega
   rw[uI (by rw[hml,dx,Np];omega),Qh,hml,jq];rw[List.drop_left' hd1,cK,<-lJ];apply b9;intro x _;simp
  have hm:=rO T i _ (aF.2 ⟨iK,jy⟩);rw[hT,<-Qh];unfold nq;rw[hlb];generalize aM (λx=> !(decide (x.seq=(all[i]).seq)||jJ x.obj (all[i]).obj)) (all.drop (i+1))=q at u1⊢;have eT:(i:Int)<all.length:=by omega
  have D6:(i:Int)+1<=all.length:=by omega
  have hc0:(0:Int)<=(i:Int)+1:=by omega
  have ho:aj TT 77=true:=rfl;have htk:T.take all.length=T:=uI (by omega);rw[<-s7] at htk;try simp[di] at u1 u2 jy hm kz
  cases q;·simp -implicitDefEqProofs [vZ,EL,hl,eT,hw,iK,s7,jy,hm,kz,D6,hc0,u1,u2,r8,jH,gC,fI,dB,hlz,di,htk]
  ·simp -implicitDefEqProofs [vZ,EL,hl,eT,hw,iK,s7,jy,hm,kz,D6,hc0,u1,u2,r8,jH,gC,fI,dB,hlz,di,htk]
 ·unfold nq;split;·omega
  ·simp;omega
 ·simp -implicitDefEqProofs [vZ,EL]
end M
set_option maxHeartbeats 4000000
namespace M
open Go
def L7:Sh:=⟨⟨List.replicate 20 [],[]⟩,[],[],5,1⟩
def Yg:ev LI TT 114 []=some (.agg (bT .own ⟨List.replicate 20 [],[]⟩),[]):=by rw[aq (b:=F9) (rs:=[.c 0 2 true 39]) (n:=0) rfl rfl];simp -implicitDefEqProofs [F9];all_goals (repeat' split)<;>first|rfl|omega|(simp_all;done)|(simp_all;omega)|skip
def Yp:ev LI TT 52 []=some (.agg (aL .own L7),[]):=by
 rw[aq (b:=Gk) (rs:=[.c 0 6 true 43]) (n:=0) rfl rfl];have u1:=Yg;try simp at u1
 simp -implicitDefEqProofs [Gk,u1,L7];all_goals (repeat' split)<;>first|rfl|omega|(simp_all;done)|(simp_all;omega)|skip
def Oa(d:bg)(hd:dc d=true)(hwd:cv d<=16777216):ev LI TT 27 [.agg (bT .own d)]=some (.agg (aL .own (fh d)),[.dead]):=by rw[aq (b:=EM) (rs:=[.c 2 6 true 43]) (n:=1) rfl rfl];have B:=rK d;have O:=AX d;have u1:=W4 d hd hwd;have u2:=W5 d (dA d).1 (dA d).2 hd hwd (K0 d) B.2.2;have u3:=UF d (dA d).1 ((ji d).2+1) (gT d) (KZ d) (λk hk=>(FF hk).1);rw[show k8 (dA d).1 d (dA d).2=ji d from rfl,show gX Kp.seq (ji d).1=gT d from rfl] at u2;have e:fh d=⟨d,(kC (gT d)).1,(dA d).1,(kC (gT d)).2,(ji d).2+1⟩:=rfl;rw[e];clear e B O;generalize kC (gT d)=lk at u3⊢;generalize gT d=all at u2 u3;generalize ji d=od at u2 u3⊢;generalize dA d=mb at u1 u2 u3⊢;obtain⟨av,nx⟩:=lk;obtain⟨od1,od2⟩:=od;obtain⟨bs,ms⟩:=mb;simp at u1 u2 u3;simp -implicitDefEqProofs [EM,u1,u2,u3];all_goals (repeat' split)<;>first|rfl|omega|(simp_all;done)|(simp_all;omega)|skip
noncomputable def wZ(d:bg):Sh:=if dc d=true then fh d else L7
def QO{α:Type}(q:α->Int)(k:α):∀(l:List α) (g:List α×Bool),(l.foldl (jB q k) g).1.length<=g.1.length+2*l.length
 |[],g=>by simp
 |x::l,g=>by
  rw[qm];have h:=QO q k l (jB q k g x);have h2:(jB q k g x).1.length<=g.1.length+2:=by unfold jB;(try dsimp only);split<;>simp
  simp only[cR];omega
def Cy{n m:Nat}(h:n<=m)(hm:m<=100000:=by decide):(n+1)*136<=140737488355328:=by omega
def HK{i n:Nat}(h:i<n)(hb:n<=1000):i<9223372036854775807:=by omega
def V3(T:List (List X))(n i:Nat)(k x:Kp)(out:List Kp)(iK:i<T.length)(hb:T.length<=1000)(jy:T[i]=aE .own x)(ho:out.length<=1000)(hq:k.seq<x.seq):
  ai (ev LI TT) (aj TT) oE [(0,.ref 100000 []),(3,.ptr .own (aE .own k)),(5,.row .own 9 (out.map (aE .own))),(6,.bool false),(7,.int .i64 i),(100000,.row .own 9 T)]=some (.normal,[(0,.ref 100000 []),(3,.ptr .own (di k)),(5,.row .own 9 ((out++[k,x]).map (aE .own))),(6,.bool true),(7,.int .i64 ((i+1:Nat):Int)),(100000,.row .own 9 (T.set i (di x)))]):=by
 have hz1:=Cy ho;have hz2:=Cy (Nat.succ_le_succ ho);have qX:(i:Int)<T.length:=CJ.2 iK;have hw:=aQ i (HK iK hb);have hm:=rO T i _ (aF.2 ⟨iK,jy⟩);try simp at jy hm
 simp -implicitDefEqProofs [oE,BT,iK,qX,jy,hm,r8,hz1,hz2,hq,hw,dB,di]
def V4(T:List (List X))(n i:Nat)(k x:Kp)(out:List Kp)(iK:i<T.length)(hb:T.length<=1000)(jy:T[i]=aE .own x)(ho:out.length<=1000)(hq:¬k.seq<x.seq):
  ai (ev LI TT) (aj TT) oE [(0,.ref 100000 []),(3,.ptr .own (aE .own k)),(5,.row .own 9 (out.map (aE .own))),(6,.bool false),(7,.int .i64 i),(100000,.row .own 9 T)]=some (.normal,[(0,.ref 100000 []),(3,.ptr .own (aE .own k)),(5,.row .own 9 ((out++[x]).map (aE .own))),(6,.bool false),(7,.int .i64 ((i+1:Nat):Int)),(100000,.row .own 9 (T.set i (di x)))]):=by
 have hz1:=Cy ho;have qX:(i:Int)<T.length:=CJ.2 iK;have hw:=aQ i (HK iK hb);have hm:=rO T i _ (aF.2 ⟨iK,jy⟩);try simp at jy hm
 simp -implicitDefEqProofs [oE,BT,iK,qX,jy,hm,r8,hz1,hq,hw,dB,di]
def V5(T:List (List X))(n i:Nat)(k x:Kp)(out:List Kp)(iK:i<T.length)(hb:T.length<=1000)(jy:T[i]=aE .own x)(ho:out.length<=1000):
  ai (ev LI TT) (aj TT) oE [(0,.ref 100000 []),(3,.ptr .own (di k)),(5,.row .own 9 (out.map (aE .own))),(6,.bool true),(7,.int .i64 i),(100000,.row .own 9 T)]=some (.normal,[(0,.ref 100000 []),(3,.ptr .own (di k)),(5,.row .own 9 ((out++[x]).map (aE .own))),(6,.bool true),(7,.int .i64 ((i+1:Nat):Int)),(100000,.row .own 9 (T.set i (di x)))]):=by
 have hz1:=Cy ho;have qX:(i:Int)<T.length:=CJ.2 iK;have hw:=aQ i (HK iK hb);have hm:=rO T i _ (aF.2 ⟨iK,jy⟩);try simp at jy hm
 simp -implicitDefEqProofs [oE,BT,iK,qX,jy,hm,r8,hz1,hw,dB,di]
def aha(l:List Kp)(i:Nat)(hl:i<l.length)(hb:l.length<=15):((l.take i).map di++(l.drop i).map (aE .own)).length=l.length/\((l.take i).map di++(l.drop i).map (aE .own))[i]?=some (aE .own l[i])/\((l.take i).map di++(l.drop i).map (aE .own)).set i (di l[i])=(l.take (i+1)).map di++(l.drop (i+1)).map (aE .own):=by
 have e:l.drop i=l[i]::l.drop (i+1):=ql hl;have q7:((l.take i).map di).length=i:=by rw[dx,HJ];omega
 refine⟨by simp;omega,?_,?_⟩;·rw[iC (by omega),q7,x7,e];rfl
 ·rw[Hu _ _ (by omega),q7,x7,e,bD,CB,oI hl,jq,mE];rfl
def qa(k:Kp)(b:Bool):List X:=if b=true then di k else aE .own k
def ahr(ks:List Nat)(k:Kp)(b:Bool):X.om ks (qa k b)=qa k b:=by cases b<;>simp[qa,di]
def VF(l:List Kp)(k:Kp)(o9:l.length<=15):
  aG (ai (ev LI TT) (aj TT) oE) [(0,.ref 100000 []),(3,.ptr .own (aE .own k)),(5,.row .own 9 []),(6,.bool false),(7,.int .i64 0),(100000,.row .own 9 (l.map (aE .own)))]=some (.exit 0,[(0,.ref 100000 []),(3,.ptr .own (qa k (l.foldl (jB Kp.seq k) ([],false)).2)),(5,.row .own 9 ((l.foldl (jB Kp.seq k) ([],false)).1.map (aE .own))),(6,.bool (l.foldl (jB Kp.seq k) ([],false)).2),(7,.int .i64 l.length),(12,.bool false),(100000,.row .own 9 (l.map di))]):=by
 have:=iu (xt:=0) (f:=ai (ev LI TT) (aj TT) oE) l (λi (g:List Kp×Bool)=>[(0,.ref 100000 []),(3,.ptr .own (qa k g.2)),(5,.row .own 9 (g.1.map (aE .own))),(6,.bool g.2),(7,.int .i64 i),(100000,.row .own 9 ((l.take i).map di++(l.drop i).map (aE .own)))]) (λ_ g x=>jB Kp.seq k g x)
  (λg=>[(0,.ref 100000 []),(3,.ptr .own (qa k g.2)),(5,.row .own 9 (g.1.map (aE .own))),(6,.bool g.2),(7,.int .i64 l.length),(12,.bool false),(100000,.row .own 9 (l.map di))])
  (λi g=>g.1.length<=2*i) ([],false) (by simp) (λi b g hi hl hg=>?_) (λi b g hi hg=>?_) (λg hg=>?_)
 ·rw[Jl] at this;refine yc ?_ this;simp[qa]
 ·obtain⟨_,rfl⟩:=aF.1 hi;obtain⟨r1,r2,r3⟩:=aha l i hl o9;rw[<-r3];generalize (l.take i).map di++(l.drop i).map (aE .own)=T at r1 r2⊢;obtain⟨q1,q2⟩:=aF.1 r2;obtain⟨out,pt⟩:=g;simp only at hg;unfold jB qa;cases pt
  ·by_cases hq:k.seq<(l[i]).seq;·have:=V3 T 0 i k l[i] out q1 (by omega) q2 (by omega) hq;simp only[hq,fL,cT,x9,cG,decide_true,Bool.or_true];exact this
   ·have:=V4 T 0 i k l[i] out q1 (by omega) q2 (by omega) hq;simp only[hq,fL,cT,and_false,M3,Bool.or_false];exact this
  ·have:=V5 T 0 i k l[i] out q1 (by omega) q2 (by omega);simp only[M8,cT,cG,false_and,Bool.true_or];exact this
 ·unfold jB;simp only;split<;>simp<;>omega
 ·simp -implicitDefEqProofs [oE,BT,ahr]
def Yv(l:List Kp)(k:Kp)(o9:l.length<=15):ev LI TT 59 [.row .own 9 (l.map (aE .own)),.agg (aE .own k)]=some (.row .own 9 ((eV Kp.seq k l).map (aE .own)),[.dead,.dead]):=by
 rw[aq (b:=Gx) (rs:=[.t 4]) (n:=2) rfl rfl];have u1:=VF l k o9;have hi:=aex Kp.seq k l [];simp only[eN] at hi;rw[<-hi];have hlen:=QO Kp.seq k l ([],false);generalize l.foldl (jB Kp.seq k) ([],false)=g at u1 hlen⊢;obtain⟨out,pt⟩:=g;simp only[kM] at hlen;have hz1:(out.length+1)*136<=140737488355328:=by omega
 unfold ES;unfold qa at u1;cases pt;all_goals simp at u1
 all_goals
 simp -implicitDefEqProofs [Gx,u1,hz1,dB];all_goals (repeat' split)<;>first|rfl|omega|(simp_all;done)|(simp_all;omega)|skip
def NK{α:Type}(p:α->Bool):∀(l:List α) (i:Nat) (g:Bool),foldI (λ_ (g:Bool) x=>g && p x) i l g=(g && aM p l)
 |[],i,g=>by simp[foldI,aM]
 |x::l,i,g=>by rw[foldI,NK p l];simp[aM,j0]
def Wi{α:Type}(p:α->Bool)(l:List α):aM (λx=> !p x) l= !(l.any p):=by unfold aM;rw[T8];simp
def iS(all:List Kp)(i:Nat):List (List X):=all.mapIdx λj k=>if j<i/\n9 all j k=false then di k else aE .own k
def GV(all:List Kp)(i:Nat):(iS all i).length=all.length:=by simp[iS]
def S0(all:List Kp)(i j:Nat)(h:i<=j)(hj:j<all.length):(iS all i)[j]?=some (aE .own all[j]):=by unfold iS;rw[CL,cw hj];simp only[cj];rw[aD (by omega)]
def ahM(all:List Kp):iS all 0=all.map (aE .own):=by
 apply hO;intro j;unfold iS;rw[CL,cY];cases all[j]? with
 |none=>rfl
 |some k=>simp only[cj];rw[aD (by omega)]
def GU(all:List Kp)(i j:Nat):(iS all i)[j]?=all[j]?.map λk=>if j<i/\n9 all j k=false then di k else aE .own k:=by unfold iS;rw[CL]
def ahL(all:List Kp)(i:Nat)(hi:i<all.length):iS all (i+1)=if n9 all i all[i]=true then iS all i else (iS all i).set i (di all[i]):=by
 apply hO;intro j;rw[GU];by_cases e:j=i
 ·subst e;cases hb:n9 all j all[j];·simp only[fL,cT];rw[List.getElem?_set_self (by rw[GV];exact hi),cw hi];simp only[cj,hb,and_true];rw[ay (by omega)]
  ·simp only[cG];rw[GU,cw hi];simp only[cj,hb,M8,and_false,cT]
 ·have e2:j<i+1↔j<i:=⟨λh=>by omega,λh=>by omega⟩;simp only[e2];split;·rw[GU]
  ·rw[Ud (by omega),GU]
def VZ(d:bg)(bs:List Bn)(sq:Int)(av:List Kp)(nx:Int)(all:List Kp)(o9:all.length<=15)(hall:∀k∈all,uV k)(i:Nat)(hi:i<all.length)(T:List (List X))(hT:∀j,i<=j->(h:j<all.length)->T[j]?=some (aE .own all[j]))(s7:T.length=all.length):
  aG (ai (ev LI TT) (aj TT) uj) [(2,.ptr .own (aL .own ⟨⟨[],[]⟩,[],[],0,0⟩)),(5,.row .own 9 T),(12,.ptr .own (aL .own ⟨d,av,bs,nx,sq⟩)),(13,.int .i64 i),(14,.bool true),(15,.int .i64 ((i+1:Nat):Int))]=
  some (.exit 4,[(2,.ptr .own (aL .own ⟨⟨[],[]⟩,[],[],0,0⟩)),(5,.row .own 9 T),(12,.ptr .own (aL .own ⟨d,av,bs,nx,sq⟩)),(13,.int .i64 i),(14,.bool (!n9 all i all[i])),(15,.int .i64 all.length),(83,.bool false)]):=by
 have:=iu (xt:=4) (f:=ai (ev LI TT) (aj TT) uj) (all.drop (i+1)) (λj (g:Bool)=>[(2,.ptr .own (aL .own ⟨⟨[],[]⟩,[],[],0,0⟩)),(5,.row .own 9 T),(12,.ptr .own (aL .own ⟨d,av,bs,nx,sq⟩)),(13,.int .i64 i),(14,.bool g),(15,.int .i64 ((i+1+j:Nat):Int))]) (λ_ (g:Bool) x=>g && !(decide (x.seq=(all[i]).seq)||jJ x.obj (all[i]).obj))
  (λg=>[(2,.ptr .own (aL .own ⟨⟨[],[]⟩,[],[],0,0⟩)),(5,.row .own 9 T),(12,.ptr .own (aL .own ⟨d,av,bs,nx,sq⟩)),(13,.int .i64 i),(14,.bool g),(15,.int .i64 all.length),(83,.bool false)])
  (λ_ _=>True) true trivial (λj b g hj hl _=>?_) (λ_ _ _ _ _=>trivial) (λg _=>?_)
 ·rw[NK,Wi] at this;exact this
 ·rw[oL] at hj;obtain⟨hjl,rfl⟩:=aF.1 hj;obtain⟨n,hn⟩:∃n,i+1+j=n:=⟨_,rfl⟩;have hn2:i+1+(j+1)=n+1:=by omega
  simp only[hn] at hjl⊢;rw[hn2];obtain⟨q1,q2⟩:=aF.1 (hT n (by omega) hjl);obtain⟨q3,q4⟩:=aF.1 (hT i (by omega) hi);have hw:=aQ n (by omega);have eT:(n:Int)<T.length:=by omega
  have u1:=Yw (all[n]).obj (all[i]).obj (by have:=xb (hall _ (bx hjl)).o;omega) (by have:=xb (hall _ (bx hi)).o;omega);clear hT hj hl;generalize jJ (all[n]).obj (all[i]).obj=tw at u1⊢;try simp at u1 q2 q4
  by_cases gq:(all[n]).seq=(all[i]).seq;·simp -implicitDefEqProofs [uj,BA,eT,hw,q1,q2,q3,q4,gq]
  ·cases tw;·simp -implicitDefEqProofs [uj,BA,eT,hw,q1,q2,q3,q4,gq,u1]
   ·simp -implicitDefEqProofs [uj,BA,eT,hw,q1,q2,q3,q4,gq,u1]
 ·have e:i+1+(all.drop (i+1)).length=all.length:=by rw[uS];omega
  rw[e];simp -implicitDefEqProofs [uj,BA,s7]
end M
set_option maxHeartbeats 4000000
namespace M
open Go
def V2(d:bg)(bs:List Bn)(sq:Int)(av:List Kp)(nx:Int)(all:List Kp)(o9:all.length<=15)(hall:∀k∈all,uV k)(i:Nat)(hi:i<all.length)(ho:av.length<=1000):
  ai (ev LI TT) (aj TT) uk [(2,.ptr .own (aL .own ⟨⟨[],[]⟩,[],[],0,0⟩)),(5,.row .own 9 (iS all i)),(12,.ptr .own (aL .own ⟨d,av,bs,nx,sq⟩)),(13,.int .i64 i)]=
  some (.normal,[(2,.ptr .own (aL .own ⟨⟨[],[]⟩,[],[],0,0⟩)),(5,.row .own 9 (iS all (i+1))),(12,.ptr .own (aL .own ⟨d,(nq all i (av,nx) all[i]).1,bs,(nq all i (av,nx) all[i]).2,sq⟩)),(13,.int .i64 ((i+1:Nat):Int))]):=by
 have hz:=Cy ho;have hw:=aQ i (HK hi (by omega));have hk:=hall _ (bx hi);have u2:=Yt (all[i]).at_ hk.a;have u1:=VZ d bs sq av nx all o9 hall i hi (iS all i) (λj h1 h2=>S0 all i j h1 h2) (GV all i);have hg:=S0 all i i (e7 _) hi;have s7:=GV all i;rw[ahL all i hi];unfold nq;generalize iS all i=T at u1 hg s7⊢;obtain⟨q1,q2⟩:=aF.1 hg;have hm:=rO T i _ hg;have qX:(i:Int)<T.length:=CJ.2 q1;have Qi:(i:Int)<all.length:=CJ.2 hi;clear hall hk hg;cases hlb:n9 all i all[i]
 ·rw[hlb] at u1;try simp at u1 u2 q2 hm
  simp -implicitDefEqProofs [uk,Gg,hi,q1,qX,Qi,hw,u1,u2,q2,hm,r8,hz,dB,di]
 ·rw[hlb] at u1;try simp at u1 u2 q2 hm
  simp -implicitDefEqProofs [uk,Gg,hi,q1,qX,Qi,hw,u1,u2,q2]
def V1(d:bg)(bs:List Bn)(sq:Int)(all:List Kp)(o9:all.length<=15)(hall:∀k∈all,uV k):
  aG (ai (ev LI TT) (aj TT) uk) [(2,.ptr .own (aL .own ⟨⟨[],[]⟩,[],[],0,0⟩)),(5,.row .own 9 (all.map (aE .own))),(12,.ptr .own (aL .own ⟨d,[],bs,5,sq⟩)),(13,.int .i64 0)]=
  some (.exit 2,[(2,.ptr .own (aL .own ⟨⟨[],[]⟩,[],[],0,0⟩)),(5,.row .own 9 (iS all all.length)),(12,.ptr .own (aL .own ⟨d,(kC all).1,bs,(kC all).2,sq⟩)),(13,.int .i64 all.length),(75,.bool false)]):=by
 have:=iu (xt:=2) (f:=ai (ev LI TT) (aj TT) uk) all (λi (g:List Kp×Int)=>[(2,.ptr .own (aL .own ⟨⟨[],[]⟩,[],[],0,0⟩)),(5,.row .own 9 (iS all i)),(12,.ptr .own (aL .own ⟨d,g.1,bs,g.2,sq⟩)),(13,.int .i64 i)]) (nq all)
  (λg=>[(2,.ptr .own (aL .own ⟨⟨[],[]⟩,[],[],0,0⟩)),(5,.row .own 9 (iS all all.length)),(12,.ptr .own (aL .own ⟨d,g.1,bs,g.2,sq⟩)),(13,.int .i64 all.length),(75,.bool false)])
  (λi g=>g.1.length<=i/\i<=15) ([],5) (by simp) (λi b g hi hl hg=>?_) (λi b g hi hg=>?_) (λg hg=>?_)
 ·rw[Q8,ahM] at this;exact this
 ·obtain⟨_,rfl⟩:=aF.1 hi;obtain⟨av,nx⟩:=g;exact V2 d bs sq av nx all o9 hall i hl (by have:=hg.1;simp only at this;omega)
 ·have hl:=(aF.1 hi).1;unfold nq;split;·omega
  ·simp;omega
 ·simp -implicitDefEqProofs [uk,Gg,GV]
def V0(d:bg)(bs:List Bn)(m:Int)(hd:dc d=true)(hwd:cv d<=16777216)(JA:wL aV bs<=1000)(hm:0<=m/\m<100000):
  aG (ai (ev LI TT) (aj TT) p6) [(1,.ptr .own (bT .af d)),(2,.ptr .own (aL .own ⟨⟨[],[]⟩,[],[],0,0⟩)),(3,.ref 22 [(0,0)]),(4,.int .i64 m),(5,.row .own 9 []),(6,.int .i64 5),(20,.au [.ref 22 [(0,0)],.int .i64 m]),(22,.au [.row .own 4 (bs.map aW),.int .i64 m])]=
  some (.exit 0,[(1,.ptr .own (bT .af d)),(2,.ptr .own (aL .own ⟨⟨[],[]⟩,[],[],0,0⟩)),(3,.ref 22 [(0,0)]),(4,.int .i64 (k8 bs d m).2),(5,.row .own 9 ((gX Kp.seq (k8 bs d m).1).map (aE .own))),(6,.int .i64 20),(20,.au [.ref 22 [(0,0)],.int .i64 m]),(22,.au [.row .own 4 (bs.map aW),.int .i64 m]),(27,.bool false)]):=by
 obtain⟨k0,k1,k2⟩:=ld hd
 have:=iu (xt:=0) (f:=ai (ev LI TT) (aj TT) p6) (List.range 15) (λi (g:List Kp×Int)=>[(1,.ptr .own (bT .af d)),(2,.ptr .own (aL .own ⟨⟨[],[]⟩,[],[],0,0⟩)),(3,.ref 22 [(0,0)]),(4,.int .i64 g.2),(5,.row .own 9 ((gX Kp.seq g.1).map (aE .own))),(6,.int .i64 ((5+i:Nat):Int)),(20,.au [.ref 22 [(0,0)],.int .i64 m]),(22,.au [.row .own 4 (bs.map aW),.int .i64 m])]) (rN bs d)
  (λg=>[(1,.ptr .own (bT .af d)),(2,.ptr .own (aL .own ⟨⟨[],[]⟩,[],[],0,0⟩)),(3,.ref 22 [(0,0)]),(4,.int .i64 g.2),(5,.row .own 9 ((gX Kp.seq g.1).map (aE .own))),(6,.int .i64 20),(20,.au [.ref 22 [(0,0)],.int .i64 m]),(22,.au [.row .own 4 (bs.map aW),.int .i64 m]),(27,.bool false)])
  (λi g=>i<=15/\sH i g) ([],m) ⟨by omega,⟨by simp,by simp,hm,by simp,by simp,by simp⟩⟩ (λi b g hi hl hg=>?_) (λi b g hi hg=>?_) (λg hg=>?_)
 ·refine yc ?_ this;simp[gX]
 ·have tc:i<15:=by simpa using hl
  obtain⟨at_,ij⟩:∃a,((5+i:Nat):Int)=a:=⟨_,rfl⟩;have eT:at_<20:=by omega
  have hw:IntKind.i64.wrap (at_+1)=at_+1:=bK (by omega) (by omega);have DP:((5+(i+1):Nat):Int)=at_+1:=by omega
  have u1:=Og d at_ (by omega);have hin:dc d=true/\(0:Int)<=at_/\at_<=19:=⟨hd,by omega,by omega⟩;rw[ay hin] at u1;have JL:=DE d at_;have u2:=Ol (cM d at_) (by omega);have hrl:=FX (cM d at_);have mT:=FY (cM d at_);have u3:=Ym (cA (cM d at_)).2.1 (by omega);have how:=RJ (cA (cM d at_)).2.1;have lX:=hg.2.n;have D6:(gX Kp.seq g.1).length<=15:=by rw[(L8 Kp.seq g.1).length_eq];omega
  unfold rN;rw[ij,DP];clear ij DP;generalize cA (cM d at_)=rr at u2 u3 hrl mT how⊢;obtain⟨n,bd,ok⟩:=rr;simp only at u2 u3 hrl mT how⊢;generalize gU bd=br at u3 how⊢;obtain⟨⟨op,on,ov,⟨rs,rf,rb⟩,ot⟩,sN⟩:=br;simp only at how;have u5:=Yk bs ⟨op,on,ov,⟨rs,rf,rb⟩,ot⟩ (by omega) (by omega);have u6:=Yv (gX Kp.seq g.1) ⟨⟨op,on,ov,⟨rs,rf,rb⟩,ot⟩,at_,n⟩ D6;rw[<-ahv] at u6;have zk:max g.2 n=if n<g.2 then g.2 else n:=by split<;>omega
  simp only at u5⊢;generalize o8 bs ⟨op,on,ov,⟨rs,rf,rb⟩,ot⟩=hb at u5⊢;obtain⟨g1,g2⟩:=g;simp only at u6 zk⊢;simp at u1 u2 u3 u5 u6;cases ok;·simp -implicitDefEqProofs [p6,uh,eT,hw,u1,u2,u3]
  cases sN;·simp -implicitDefEqProofs [p6,uh,eT,hw,u1,u2,u3]
  by_cases gq:n<100000;rotate_left
  ·have oW:100000<=n:=by omega
   simp -implicitDefEqProofs [p6,uh,eT,hw,u1,u2,u3,gq,oW]
  have oW:¬100000<=n:=by omega
  cases hb;·simp -implicitDefEqProofs [p6,uh,eT,hw,u1,u2,u3,u5,u6,gq,oW,zk]
  ·simp -implicitDefEqProofs [p6,uh,eT,hw,u1,u2,u3,u5,gq,oW,zk]
 ·have tc:i<15:=by have:=(aF.1 hi).1;simpa using this
  exact⟨by omega,K3 bs d tc b hg.2⟩
 ·simp -implicitDefEqProofs [p6,uh]
def Oj(d:bg)(hwd:cv d<=16777216):ev LI TT 17 [.agg (bT .af d)]=some (.agg (aL .own (wZ d)),[.dead]):=by
 rw[aq (b:=BB) (rs:=[.c 2 6 true 43]) (n:=1) rfl rfl];have QG:cv d=wL wS d.cells+wL cl d.pending:=rfl;have l1:=bn (w:=wS) d.cells;have l2:=bn (w:=cl) d.pending;unfold wZ;have u1:=yF d (by omega);try simp at u1
 have u2:=Ys d (by omega) (by omega);try simp at u2
 by_cases g:dc d=true;rotate_left;·have u3:=Yp;rw[show dc d=false by simpa using g] at u1⊢;simp at u1 u3;simp -implicitDefEqProofs [BB,u1,u3]
 have B:=rK d;have u3:=Yu d g hwd;have u4:=V0 d (dA d).1 (dA d).2 g hwd (K0 d) B.2.2;have u5:=V1 d (dA d).1 ((ji d).2+1) (gT d) (KZ d) (λk hk=>(FF hk).1);have O:=(AX d).m;have hw:IntKind.i64.wrap ((ji d).2+1)=(ji d).2+1:=bK (by omega) (by omega);rw[show k8 (dA d).1 d (dA d).2=ji d from rfl,show gX Kp.seq (ji d).1=gT d from rfl] at u4;have e:fh d=⟨d,(kC (gT d)).1,(dA d).1,(kC (gT d)).2,(ji d).2+1⟩:=rfl;rw[g] at u1;rw[g,ay rfl,e];clear e B O;generalize kC (gT d)=lk at u5⊢;generalize gT d=all at u4 u5;generalize ji d=od at u4 u5 hw⊢;generalize dA d=mb at u3 u4 u5⊢;obtain⟨av,nx⟩:=lk;obtain⟨od1,od2⟩:=od;obtain⟨bs,ms⟩:=mb;simp at u1 u2 u3 u4 u5;simp -implicitDefEqProofs [BB,u1,u2,u3,u4,u5,hw];all_goals (repeat' split)<;>first|rfl|omega|(simp_all;done)|(simp_all;omega)|skip
end M
set_option maxHeartbeats 4000000
namespace M
open Go
def FJ(d:bg):cm (fh d)<=cv d+25000:=by have h1:=K0 d;have h2:wL bP (jC (gT d))<=15*(1300+1):=qg (λk hk=>xb (FF ((AO _).subset hk)).1.o) (eO (AO _).length_le (KZ d));show cv d+wL bP (jC (gT d))+wL aV (dA d).1<=_;omega
end M
namespace M
open Go
end M
set_option maxHeartbeats 4000000
namespace M
open Go
end M
set_option maxHeartbeats 4000000
namespace M
open Go
def B5(a b:cg):Bool:=decide (a.status=b.status) && decide (a.body=b.body) && decide (a.fields=b.fields)
def Xi(a:cg)(b:cg)(ha:a.fields.length<=1073741824)(hb:b.fields.length<=1073741824):ev LI TT 151 [.agg (iI .af a),.agg (iI .af b)]=some (.bool (B5 a b),[.dead,.dead]):=by
 rw[aq (b:=EO) (rs:=[.t 4]) (n:=2) rfl rfl];unfold B5;have u1:=Oy a.fields b.fields (by omega);try simp at u1
 by_cases g1:a.status=b.status;all_goals by_cases g2:a.body=b.body
 all_goals
 simp -implicitDefEqProofs [EO,u1,g1,g2];all_goals (repeat' split)<;>first|rfl|omega|(simp_all;done)|(simp_all;omega)|skip
end M
set_option maxHeartbeats 4000000
namespace M
open Go
end M
set_option maxHeartbeats 4000000
namespace M
open Go
def e9(d:bg)(keep:List Bool):bg:=⟨nh (gy keep false) d.cells d.pending,[]⟩
def OW{d:bg}(keep:List Bool)(h:dc d=true):dc (e9 d keep)=true:=by obtain⟨h0,h1,h1'⟩:=ld h;have:=Q7 (gy keep false) d.cells d.pending;unfold dc e9;simp only[this,h1];rfl
def WQ(d:bg)(h:dc d=true):ev LI TT 28 [.agg (bT .af d)]=some (.agg (bT .own (dX d)),[.dead]):=by
 rw[aq (b:=Eh) (rs:=[.c 2 2 true 39]) (n:=1) rfl rfl];obtain⟨h0,h1,h1'⟩:=ld h;have hw:d.cells.length<=1073741824:=by omega
 have u1:=Ia d (by omega);try simp at u1
 have u2:=Xa d (by omega) (by omega);try simp at u2
 have u3:=WN d h;try simp at u3
 rw[h] at u1;simp -implicitDefEqProofs [Eh,u1,u2,u3];all_goals (repeat' split)<;>first|rfl|omega|(simp_all;done)|(simp_all;omega)|skip
def NB(d:bg)(keep:List Bool)(hb:d.pending.length<=9223372036854775807)(ho:CW d.pending)(hk:keep.length<=9223372036854775807)(cs:List ag)(hinv:cs.length=20):aG (ai (ev LI TT) (aj TT) vP) [(1,.row .af 1 (keep.map eB)),(2,.ptr .own (bT .af d)),(4,.ptr .own [.row .own 1 [],.row .own 2 []]),(5,.ptr .own [.row .own 1 ((cs).map eS),.row .own 2 []]),(16,.aC 2 [] 0 1),(17,.row .af 2 (d.pending.map eW)),(18,.int .i64 d.pending.length),(19,.int .i64 0)]=some (.exit 0,[(1,.row .af 1 (keep.map eB)),(2,.ptr .own (bT .af d)),(4,.ptr .own [.row .own 1 [],.row .own 2 []]),(5,.ptr .own [.row .own 1 (((foldI (gR (gy keep false)) 0 (d.pending) cs)).map eS),.row .own 2 []]),(16,.aC 2 [] 0 1),(17,.row .af 2 (d.pending.map eW)),(18,.int .i64 d.pending.length),(19,.int .i64 (d.pending).length),(20,.bool false)]):=by
 refine iu (f:=ai (ev LI TT) (aj TT) vP) (d.pending) (λi (cs:List ag)=>[(1,.row .af 1 (keep.map eB)),(2,.ptr .own (bT .af d)),(4,.ptr .own [.row .own 1 [],.row .own 2 []]),(5,.ptr .own [.row .own 1 ((cs).map eS),.row .own 2 []]),(16,.aC 2 [] 0 1),(17,.row .af 2 (d.pending.map eW)),(18,.int .i64 d.pending.length),(19,.int .i64 i)]) (gR (gy keep false)) (λcs=>[(1,.row .af 1 (keep.map eB)),(2,.ptr .own (bT .af d)),(4,.ptr .own [.row .own 1 [],.row .own 2 []]),(5,.ptr .own [.row .own 1 ((cs).map eS),.row .own 2 []]),(16,.aC 2 [] 0 1),(17,.row .af 2 (d.pending.map eW)),(18,.int .i64 d.pending.length),(19,.int .i64 (d.pending).length),(20,.bool false)]) (λi (cs:List ag)=>cs.length=20) cs hinv (λi b cs hi hl hinv=>?_) (λi b cs hi hinv=>?_) (λcs hinv=>?_)
 ·have hw:=aQ i (by first|omega|(simp at hl;omega));obtain⟨_,rfl⟩:=aF.1 hi;have h1:=ho _ (bx hl);have h2:(d.pending[i]).at_.toNat<cs.length:=by omega
  by_cases h4:i<keep.length;rotate_left;·simp -implicitDefEqProofs [vP,Eb,hl,hw,h1,h2,gR,gy,h4]
  cases h5:keep[i];all_goals
  simp -implicitDefEqProofs [vP,Eb,hl,hw,h1,h2,gR,gy,h4,h5]
 ·rw[Fw];exact hinv
 ·simp -implicitDefEqProofs [vP,Eb]
def WM(d:bg)(keep:List Bool)(h:dc d=true)(hk:keep.length<=9223372036854775807):ev LI TT 29 [.agg (bT .af d),.row .af 1 (keep.map eB)]=some (.agg (bT .own (e9 d keep)),[.dead,.dead]):=by
 rw[aq (b:=Ec) (rs:=[.c 4 2 true 39]) (n:=2) rfl rfl];obtain⟨h0,h1,h1'⟩:=ld h;have u2:=NB d keep (by omega) h0 hk d.cells h1;try simp at u2
 have u1:=Ia d (by omega);try simp at u1
 have u2:=Q2 d.cells (by omega);try simp at u2
 rw[h] at u1;have v2:=NB d keep (by omega) h0 hk d.cells h1;try simp at v2
 simp -implicitDefEqProofs [Ec,u1,u2,v2,e9,nh];all_goals (repeat' split)<;>first|rfl|omega|(simp_all;done)|(simp_all;omega)|skip
def Yf(d:bg)(keep:List Bool)(h:dc d=true)(hk:keep.length<=9223372036854775807):ev LI TT 21 [.agg (bT .af d),.row .af 1 (keep.map eB)]=some (.agg (bT .own (e9 d keep)),[.dead,.dead]):=by
 rw[aq (b:=F7) (rs:=[.c 4 2 true 39]) (n:=2) rfl rfl];obtain⟨h0,h1,h1'⟩:=ld h;unfold e9;have u1:=yF d (by omega);try simp at u1
 have u2:=Ot d keep false h hk;try simp at u2
 rw[h] at u1;simp -implicitDefEqProofs [F7,u1,u2];all_goals (repeat' split)<;>first|rfl|omega|(simp_all;done)|(simp_all;omega)|skip
def VH(a:List Bn)(b:List Bn)(hb:a.length<=9223372036854775807)(gM:b.length<=9223372036854775807):aG (ai (ev LI TT) (aj TT) xD) [(0,.row .af 4 (a.map aW)),(1,.row .af 4 (b.map aW)),(5,.int .i64 0)]=(cU (λx=>decide (x.1≠x.2)) 0 (a.zip b)).elim (some (.exit 0,[(0,.row .af 4 (a.map aW)),(1,.row .af 4 (b.map aW)),(5,.int .i64 (a.zip b).length),(15,.bool false)])) λx=>some (.ret,(λ(i:Nat) b=>[(4,.bool false)]) x.1 x.2):=by
 refine rI (f:=ai (ev LI TT) (aj TT) xD) (a.zip b) (λi=>[(0,.row .af 4 (a.map aW)),(1,.row .af 4 (b.map aW)),(5,.int .i64 i)]) (λx=>decide (x.1≠x.2)) (λ(i:Nat) b=>[(4,.bool false)]) _ (λi b hi hl=>?_) ?_
 ·have hw:=aQ i (by first|omega|(simp at hl;omega));obtain⟨_,rfl⟩:=aF.1 hi;have ha:i<a.length:=by simp at hl;omega
  have hb':i<b.length:=by simp at hl;omega
  have hbe:∀x y:Bn,(x=y)↔x.kind=y.kind/\x.a=y.a/\x.b=y.b/\x.t=y.t:=λx y=>by cases x;cases y;simp
  simp -implicitDefEqProofs [xD,Gz,hl,hw,ha,hb',hbe];all_goals (repeat' split)<;>first|rfl|omega|(simp_all;done)|(simp_all;omega)|skip
 ·have hz:(a.zip b).length=min a.length b.length:=by simp
  rw[hz];by_cases hh:a.length<=b.length;·rw[lF hh];simp -implicitDefEqProofs [xD,Gz]
  have h1:b.length<=a.length:=by omega
  have h2:(b.length:Int)<a.length:=by omega
  have h3:b.length<a.length:=by omega
  rw[MY h1];simp -implicitDefEqProofs [xD,Gz,h2,h3]
def Ou(a:List Bn)(b:List Bn)(hb:a.length<=9223372036854775807)(gM:b.length<=9223372036854775807):ev LI TT 20 [.row .af 4 (a.map aW),.row .af 4 (b.map aW)]=some (.bool (decide (a=b)),[.dead,.dead]):=by
 rw[aq (b:=xE) (rs:=[.t 4]) (n:=2) rfl rfl];have h:=VH a b hb gM;cases g:cU (λx:Bn×Bn=>decide (x.1≠x.2)) 0 (a.zip b) with
 |some x=>obtain⟨i,x⟩:=x;obtain⟨_,h1,h2⟩:=qR g;have h3:¬a=b:=Ug (lE h1) (by simpa using h2);rw[g] at h;simp only[Option.elim] at h;simp -implicitDefEqProofs [xE,h,h3]
 |none=>
 have h1:=Dw.1 g;rw[g] at h;simp only[Option.elim] at h;try simp at h
 by_cases hl:a.length=b.length
 ·have h2:=Ns h1 hl;subst h2;try simp at h
  simp -implicitDefEqProofs [xE,h]
 have h3:¬a=b:=λe=>hl (by rw[e]);have h4:¬(a.length:Int)=b.length:=by omega
 simp -implicitDefEqProofs [xE,h,h3,h4];all_goals (repeat' split)<;>first|rfl|omega|(simp_all;done)|(simp_all;omega)|skip
def B4(a b:Ob):Bool:=jJ a b && decide (a.t=b.t) && B5 a.resp b.resp
def Xh(a:Ob)(b:Ob)(ha:aZ a<=1073741824)(hb:aZ b<=1073741824):ev LI TT 85 [.agg (bA .af a),.agg (bA .af b)]=some (.bool (B4 a b),[.dead,.dead]):=by
 rw[aq (b:=Ab) (rs:=[.t 4]) (n:=2) rfl rfl];have hw:aZ a=a.path.length+wL wS a.names+wL wS a.values+bC a.resp:=rfl;have fF:aZ b=b.path.length+wL wS b.names+wL wS b.values+bC b.resp:=rfl;have tA:bC a.resp=wL aN a.resp.fields+a.resp.body.length:=rfl;have zv:bC b.resp=wL aN b.resp.fields+b.resp.body.length:=rfl;have l1:=bn (w:=aN) a.resp.fields;have l2:=bn (w:=aN) b.resp.fields;unfold B4;have u1:=N8 a b ha hb;try simp at u1
 have u2:=Xi a.resp b.resp (by omega) (by omega);try simp at u2
 generalize jJ a b=b1 at u1;generalize B5 a.resp b.resp=b2 at u2;cases b1;·simp -implicitDefEqProofs [Ab,u1]
 by_cases g:a.t=b.t;all_goals
 simp -implicitDefEqProofs [Ab,u1,u2,g];all_goals (repeat' split)<;>first|rfl|omega|(simp_all;done)|(simp_all;omega)|skip
def mZ(k x:Kp):Bool:=decide (x.at_=k.at_) && decide (x.seq=k.seq) && B4 x.obj k.obj
def W3(x k:Kp)(hx:aZ x.obj<=1073741824)(hk:aZ k.obj<=1073741824):ev LI TT 84 [.agg (aE .af x),.ptr .af (aE .af k)]=some (.bool (mZ k x),[.dead,.dead]):=by
 rw[aq (b:=Ek) (rs:=[.t 3]) (n:=2) rfl rfl];unfold mZ;have u1:=Xh x.obj k.obj hx hk;try simp at u1
 by_cases g1:x.at_=k.at_;all_goals by_cases g2:x.seq=k.seq
 all_goals
 simp -implicitDefEqProofs [Ek,u1,g1,g2];all_goals (repeat' split)<;>first|rfl|omega|(simp_all;done)|(simp_all;omega)|skip
def k6(l:List Kp)(k:Kp):Bool:= !aM (λx=> !mZ k x) l
def Ux(m s:Sh)(hm:cm m<=1073741824)(hs:cm s<=1073741824):aG (ai (ev LI TT) (aj TT) zU) [(0,.ptr .af (aL .af m)),(1,.ptr .af (aL .af s)),(8,.ptr .af (aL .af s)),(9,.ptr .af (aL .af s)),(10,.ptr .af ((aL .af s).drop 2)),(11,.row .af 9 (s.av.map (aE .af))),(12,.int .i64 s.av.length),(13,.int .i64 0)]=if aM (k6 m.av) (s.av)=true then some (.exit 0,[(0,.ptr .af (aL .af m)),(1,.ptr .af (aL .af s)),(8,.ptr .af (aL .af s)),(9,.ptr .af (aL .af s)),(10,.ptr .af ((aL .af s).drop 2)),(11,.row .af 9 (s.av.map (aE .af))),(12,.int .i64 s.av.length),(13,.int .i64 (s.av).length),(14,.bool false)]) else some (.ret,[(4,.bool false)]):=by
 refine cZ (f:=ai (ev LI TT) (aj TT) zU) (s.av) (λi=>[(0,.ptr .af (aL .af m)),(1,.ptr .af (aL .af s)),(8,.ptr .af (aL .af s)),(9,.ptr .af (aL .af s)),(10,.ptr .af ((aL .af s).drop 2)),(11,.row .af 9 (s.av.map (aE .af))),(12,.int .i64 s.av.length),(13,.int .i64 i)]) (k6 m.av) _ _ (λi b hi hl=>?_) ?_
 ·have hw:=aQ i (by have eH:cm s=cv s.aP+wL bP s.av+wL aV s.aU:=rfl;have:=bn (w:=bP) s.av;omega);obtain⟨_,rfl⟩:=aF.1 hi;have eH:cm s=cv s.aP+wL bP s.av+wL aV s.aU:=rfl;have hwm:cm m=cv m.aP+wL bP m.av+wL aV m.aU:=rfl;have hlm:=bn (w:=bP) m.av;have hk:=xU (bx hl);have u1:=IG m.av s.av[i] 84 (mZ s.av[i]) rfl (λx hx=>W3 x s.av[i] (by have:=xU hx;omega) (by omega)) (by omega);unfold k6;generalize aM (λx=> !mZ s.av[i] x) m.av=q at u1;try simp at u1
  cases q;all_goals
  simp -implicitDefEqProofs [zU,J8,hl,hw,u1,jH,gC,fI];all_goals (repeat' split)<;>first|rfl|omega|(simp_all;done)|(simp_all;omega)|skip
 ·simp -implicitDefEqProofs [zU,J8]
def WZ(m s:Sh)(hm:cm m<=1073741824)(hs:cm s<=1073741824):ev LI TT 30 [.ptr .af (aL .af m),.ptr .af (aL .af s)]=some (.bool (aM (k6 m.av) s.av),[.dead,.dead]):=by
 rw[aq (b:=El) (rs:=[.t 4]) (n:=2) rfl rfl];have u1:=Ux m s hm hs;try simp at u1
 cases g:aM (k6 m.av) s.av<;>rw[g] at u1<;>simp at u1;all_goals
 simp -implicitDefEqProofs [El,u1];all_goals (repeat' split)<;>first|rfl|omega|(simp_all;done)|(simp_all;omega)|skip
def afU{a b:Ob}(ha:cO a=true)(hb:cO b=true):eY a=eY b↔a=b:=by
 constructor;·intro h;unfold eY at h;rw[ay ha,ay hb] at h;exact WC (cand:=tY) (λr h=>RE h) ha hb h
 ·rintro rfl;rfl
def ahl(a b:Ob):B4 a b=decide (a=b):=by
 unfold B4 jJ B5;rw[Hz];simp only[aA,bz];obtain⟨p,n,v,⟨s,f,bd⟩,t⟩:=a;obtain⟨p',n',v',⟨s',f',bd'⟩,t'⟩:=b;simp only[Ob.mk.injEq,cg.mk.injEq];constructor;·rintro ⟨⟨⟨⟨h1,h2⟩,h3⟩,h4⟩,⟨h5,h6⟩,h7⟩;exact⟨h1,h2,h3,⟨h5,h7,h6⟩,h4⟩
 ·rintro ⟨h1,h2,h3,⟨h5,h7,h6⟩,h4⟩;exact⟨⟨⟨⟨h1,h2⟩,h3⟩,h4⟩,⟨h5,h6⟩,h7⟩
def aeZ{k x:Kp}(hk:cO k.obj=true)(hx:cO x.obj=true):mZ k x=(decide (x.at_=k.at_) && decide (x.seq=k.seq) && decide (eY x.obj=eY k.obj)):=by unfold mZ;rw[ahl];congr 1;exact decide_eq_decide.2 (afU hx hk).symm
def VI(s:Sh)(k:Kp)(hs:cm s<=1073741824)(hk:aZ k.obj<=1073741824)(hok:cO k.obj=true)(hos:∀x∈s.av,cO x.obj=true):aG (ai (ev LI TT) (aj TT) BU) [(2,.ptr .own (aL .af s)),(3,.ptr .own (aE .af k)),(5,.int .i64 0)]=(cU (mZ k) 0 (s.av)).elim (some (.exit 0,[(2,.ptr .own (aL .af s)),(3,.ptr .own (aE .af k)),(5,.int .i64 (s.av).length),(11,.bool false)])) λx=>some (.ret,(λ(i:Nat) b=>[(4,.bool true)]) x.1 x.2):=by
 refine rI (f:=ai (ev LI TT) (aj TT) BU) (s.av) (λi=>[(2,.ptr .own (aL .af s)),(3,.ptr .own (aE .af k)),(5,.int .i64 i)]) (mZ k) (λ(i:Nat) b=>[(4,.bool true)]) _ (λi b hi hl=>?_) ?_
 ·have hw:=aQ i (by have eH:cm s=cv s.aP+wL bP s.av+wL aV s.aU:=rfl;have:=bn (w:=bP) s.av;omega);obtain⟨_,rfl⟩:=aF.1 hi;have eH:cm s=cv s.aP+wL bP s.av+wL aV s.aU:=rfl;have hx:=xU (bx hl);have u1:=Iy (s.av[i]).obj (by omega);have u2:=Iy k.obj (by omega);rw[aeZ hok (hos _ (bx hl))];generalize eY (s.av[i]).obj=t1 at u1;generalize eY k.obj=t2 at u2;try simp at u1 u2
  by_cases g1:(s.av[i]).at_=k.at_;all_goals by_cases g2:(s.av[i]).seq=k.seq
  all_goals by_cases g3:t1=t2
  all_goals
  simp -implicitDefEqProofs [BU,L1,hl,hw,u1,u2,g1,g2,g3];all_goals (repeat' split)<;>first|rfl|omega|(simp_all;done)|(simp_all;omega)|skip
 ·simp -implicitDefEqProofs [BU,L1]
def Yy(s:Sh)(k:Kp)(hs:cm s<=1073741824)(hk:aZ k.obj<=1073741824)(hok:cO k.obj=true)(hos:∀x∈s.av,cO x.obj=true):ev LI TT 19 [.agg (aL .af s),.agg (aE .af k)]=some (.bool (k6 s.av k),[.dead,.dead]):=by
 rw[aq (b:=BV) (rs:=[.t 4]) (n:=2) rfl rfl];have u1:=VI s k hs hk hok hos;try simp at u1
 unfold k6;rw[<-Jg (mZ k) s.av 0];cases g:cU (mZ k) 0 s.av with
 |none=>rw[g] at u1;simp at u1;simp -implicitDefEqProofs [BV,u1]
 |some x=>
 rw[g] at u1;simp at u1;simp -implicitDefEqProofs [BV,u1];all_goals (repeat' split)<;>first|rfl|omega|(simp_all;done)|(simp_all;omega)|skip
noncomputable def EV(c:Ca):Bool:=mJ c && aM (k6 (fh (dX c.aI.aP)).av) c.aI.av && decide ((fh (dX c.aI.aP)).aU=c.aI.aU) && decide ((fh (e9 c.aI.aP [])).aU=c.aI.aU)
def WB(x y:Bn):(x=y)↔x.kind=y.kind/\x.a=y.a/\x.b=y.b/\x.t=y.t:=by cases x;cases y;simp
def VR(ps:List (Bn×Bn))(hb:ps.length<=9223372036854775807):aG (ai (ev LI TT) (aj TT) Cp) [(0,.row .af 4 (ps.map λx=>aW x.1)),(1,.row .af 4 (ps.map λx=>aW x.2)),(12,.int .i64 ps.length),(13,.int .i64 0)]=if aM cy (ps)=true then some (.exit 0,[(0,.row .af 4 (ps.map λx=>aW x.1)),(1,.row .af 4 (ps.map λx=>aW x.2)),(12,.int .i64 ps.length),(13,.int .i64 ps.length),(14,.bool false)]) else some (.ret,[(4,.bool false)]):=by
 refine cZ (f:=ai (ev LI TT) (aj TT) Cp) (ps) (λi=>[(0,.row .af 4 (ps.map λx=>aW x.1)),(1,.row .af 4 (ps.map λx=>aW x.2)),(12,.int .i64 ps.length),(13,.int .i64 i)]) cy _ _ (λi b hi hl=>?_) ?_;·have hw:=aQ i (by first|omega|(simp at hl;omega));obtain⟨_,rfl⟩:=aF.1 hi;simp -implicitDefEqProofs [Cp,My,hl,hw,cy,WB];first|done|(split<;>simp_all;done)|(split<;>simp_all<;>(intro h1 h2 h3;simp_all))
 ·simp -implicitDefEqProofs [Cp,My]
def Ox(a b:List Bn)(hb:a.length<=9223372036854775807):ev LI TT 31 [.row .af 4 (a.map aW),.row .af 4 (b.map aW)]=some (.bool (decide (a=b)),[.dead,.dead]):=by
 rw[aq (b:=Hg) (rs:=[.t 4]) (n:=2) rfl rfl];simp -implicitDefEqProofs [Hg];by_cases h:a.length=b.length;·obtain⟨ps,rfl,rfl⟩:=lK h;have h1:=VR ps (by simpa using hb);have h2:=kO ps;simp at h1;rw[<-h2];cases h3:aM cy ps<;>rw[h3] at h1<;>simp[h1,kJ]
 ·have:¬a=b:=λe=>h (by rw[e]);simp[this];omega
def IJ{c:Ca}(h:mJ c=true):lz c.aI=true:=by unfold mJ at h;simp only[aA] at h;exact h.1.1.1.1
def OX(d:bg)(keep:List Bool):cv (e9 d keep)<=cv d:=by have h:=Jm (gy keep false) d.pending 0 d.cells;show wL wS (nh (gy keep false) d.cells d.pending)+wL cl []<=wL wS d.cells+wL cl d.pending;have e:wL cl []=0:=rfl;unfold nh;omega
def afW{s:Sh}(h:lz s=true):∀k∈s.av,cO k.obj=true:=λk hk=>ahq h hk
def afA{d:bg}:∀k∈(fh d).av,cO k.obj=true:=λk hk=>(FF ((AO _).subset hk)).1.o
def WT(c:Ca)(hc:dU c<=16000000):ev LI TT 8 [.agg (fo .af c)]=some (.bool (EV c),[.dead]):=by
 rw[aq (b:=vQ) (rs:=[.t 2]) (n:=1) rfl rfl];have hwc:dU c=cm c.aI+wL cz c.bO+wL dm c.seen+wL dh c.sent:=rfl;have eH:cm c.aI=cv c.aI.aP+wL bP c.aI.av+wL aV c.aI.aU:=rfl;have hlb:=bn (w:=aV) c.aI.aU;unfold EV;have u1:=WI c (by omega);try simp at u1
 by_cases g:mJ c=true;rotate_left;·rw[show mJ c=false by simpa using g] at u1⊢;simp -implicitDefEqProofs [vQ,u1]
 rw[g] at u1⊢;have hd:=(SL (IJ g)).d;have hf:=PG c.aI.aP;have je:=OX c.aI.aP [];have v1:=WQ c.aI.aP hd;have v2:=Oa (dX c.aI.aP) (PF hd) (by omega);have v3:=WM c.aI.aP [] hd (by simp);have v4:=Oa (e9 c.aI.aP []) (OW [] hd) (by omega);have m1:=FJ (dX c.aI.aP);have m2:=FJ (e9 c.aI.aP []);have b1:=(rK (dX c.aI.aP)).2.1;have b2:=(rK (e9 c.aI.aP [])).2.1;have v5:=WZ (fh (dX c.aI.aP)) c.aI (by omega) (by omega);have v6:=Ox (fh (dX c.aI.aP)).aU c.aI.aU (by show (dA (dX c.aI.aP)).1.length<=_;omega);have v7:=Ox (fh (e9 c.aI.aP [])).aU c.aI.aU (by show (dA (e9 c.aI.aP [])).1.length<=_;omega);clear b1 b2 m1 m2;generalize aM (k6 (fh (dX c.aI.aP)).av) c.aI.av=q1 at v5⊢;generalize decide ((fh (dX c.aI.aP)).aU=c.aI.aU)=q2 at v6⊢;generalize decide ((fh (e9 c.aI.aP [])).aU=c.aI.aU)=q3 at v7⊢;generalize fh (dX c.aI.aP)=m1 at v2 v5 v6;generalize fh (e9 c.aI.aP [])=m2 at v4 v7;generalize dX c.aI.aP=d1 at v1 v2;generalize e9 c.aI.aP []=d2 at v3 v4;simp at v1 v2 v3 v4 v5 v6 v7;cases q1;·simp -implicitDefEqProofs [vQ,u1,v1,v2,v3,v4,v5]
 cases q2;all_goals
 simp -implicitDefEqProofs [vQ,u1,v1,v2,v3,v4,v5,v6,v7];all_goals (repeat' split)<;>first|rfl|omega|(simp_all;done)|(simp_all;omega)|skip
def Vl(c:Ca)(m:Sh)(hc:dU c<=16000000)(hm:cm m<=1073741824)(hok:∀k∈c.aI.av,cO k.obj=true)(hos:∀x∈m.av,cO x.obj=true):aG (ai (ev LI TT) (aj TT) Bx) [(1,.ptr .own (fo .af c)),(3,.ptr .own (aL .own m)),(4,.int .i64 0)]=if aM (k6 m.av) (c.aI.av)=true then some (.exit 0,[(1,.ptr .own (fo .af c)),(3,.ptr .own (aL .own m)),(4,.int .i64 (c.aI.av).length),(18,.bool false)]) else some (.ret,[(2,.bool false)]):=by
 refine cZ (f:=ai (ev LI TT) (aj TT) Bx) (c.aI.av) (λi=>[(1,.ptr .own (fo .af c)),(3,.ptr .own (aL .own m)),(4,.int .i64 i)]) (k6 m.av) _ _ (λi b hi hl=>?_) ?_
 ·have hw:=aQ i (by have:=Oz c;have:=bn (w:=bP) c.aI.av;omega);obtain⟨_,rfl⟩:=aF.1 hi;have hk:=ae1 (c:=c) (bx hl);have u1:=Yy m c.aI.av[i] hm (by omega) (hok _ (bx hl)) hos;generalize k6 m.av c.aI.av[i]=q at u1;try simp at u1
  cases q;all_goals
  simp -implicitDefEqProofs [Bx,LH,hl,hw,u1];all_goals (repeat' split)<;>first|rfl|omega|(simp_all;done)|(simp_all;omega)|skip
 ·simp -implicitDefEqProofs [Bx,LH]
def Yl(c:Ca)(hc:dU c<=16000000):ev LI TT 6 [.agg (fo .af c)]=some (.bool (EV c),[.dead]):=by
 rw[aq (b:=xq) (rs:=[.t 2]) (n:=1) rfl rfl];have hwc:dU c=cm c.aI+wL cz c.bO+wL dm c.seen+wL dh c.sent:=rfl;have eH:cm c.aI=cv c.aI.aP+wL bP c.aI.av+wL aV c.aI.aU:=rfl;have hlb:=bn (w:=aV) c.aI.aU;unfold EV;have u1:=Yc c (by omega);try simp at u1
 by_cases g:mJ c=true;rotate_left;·rw[show mJ c=false by simpa using g] at u1⊢;simp -implicitDefEqProofs [xq,u1]
 rw[g] at u1⊢;have hd:=(SL (IJ g)).d;have hf:=PG c.aI.aP;have je:=OX c.aI.aP [];have v1:=Yi c.aI.aP hd;have v2:=Oj (dX c.aI.aP) (by omega);rw[show wZ (dX c.aI.aP)=fh (dX c.aI.aP) by unfold wZ;rw[ay (PF hd)]] at v2;have v3:=Yf c.aI.aP [] hd (by simp);have v4:=Oj (e9 c.aI.aP []) (by omega);rw[show wZ (e9 c.aI.aP [])=fh (e9 c.aI.aP []) by unfold wZ;rw[ay (OW [] hd)]] at v4;have m1:=FJ (dX c.aI.aP);have m2:=FJ (e9 c.aI.aP []);have b1:=(rK (dX c.aI.aP)).2.1;have b2:=(rK (e9 c.aI.aP [])).2.1;have v5:=Vl c (fh (dX c.aI.aP)) hc (by omega) (afW (IJ g)) afA;have v6:=Ou (fh (dX c.aI.aP)).aU c.aI.aU (by show (dA (dX c.aI.aP)).1.length<=_;omega) (by omega);have v7:=Ou (fh (e9 c.aI.aP [])).aU c.aI.aU (by show (dA (e9 c.aI.aP [])).1.length<=_;omega) (by omega);clear b1 b2 m1 m2;generalize decide ((fh (dX c.aI.aP)).aU=c.aI.aU)=q2 at v6⊢;generalize decide ((fh (e9 c.aI.aP [])).aU=c.aI.aU)=q3 at v7⊢;generalize fh (dX c.aI.aP)=m1 at v2 v5 v6⊢;generalize fh (e9 c.aI.aP [])=m2 at v4 v7;generalize dX c.aI.aP=d1 at v1 v2;generalize e9 c.aI.aP []=d2 at v3 v4;cases q1:aM (k6 m1.av) c.aI.av<;>rw[q1] at v5;all_goals simp at v1 v2 v3 v4 v5 v6 v7
 ·simp -implicitDefEqProofs [xq,u1,v1,v2,v3,v4,v5]
 cases q2;all_goals
 simp -implicitDefEqProofs [xq,u1,v1,v2,v3,v4,v5,v6,v7];all_goals (repeat' split)<;>first|rfl|omega|(simp_all;done)|(simp_all;omega)|skip
end M
set_option maxHeartbeats 4000000
namespace M
open Go
def an6(a0:Ca)(k0:CY a0):∃ps,ev LI TT 3 [.agg (fo .sl a0)]=some (.bool true,ps):=by
 rw[aq (b:=Ah) (rs:=[.t 2]) (n:=1) rfl rfl];have s0:=XC a0 1048576 k0 (by omega) (by omega);have w0:=bR 1048576 (dU a0);obtain⟨m0,e0⟩:∃m,m=aB 1048576 (dU a0):=⟨_,rfl⟩;rw[<-e0] at s0 w0;try simp at s0
 by_cases z0:m0<0;·simp -implicitDefEqProofs [Ah,s0,z0]
 have t0:=XU a0 (by omega);try simp at t0
 have q0:=Xl a0 a0 (by omega);try simp at q0
 have hS:=Yl a0 (by omega);have hI:=WT a0 (by omega);try simp at hS
 try simp at hI
 simp -implicitDefEqProofs [Ah,s0,z0,t0,q0,hS,hI]
end M
