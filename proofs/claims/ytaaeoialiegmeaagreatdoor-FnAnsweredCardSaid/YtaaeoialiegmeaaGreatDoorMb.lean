/- A machine of values for loaded Go functions, sound for the calculus of calls; part 2; no conditions. -/
import Derived.Test.YtaaeoialiegmeaaGreatDoorMa
import Derived.Laws.IdiomCopy
import Derived.Lib.SliceRun
import Derived.Laws.Cover3
set_option linter.defProp false
set_option linter.unusedSectionVars false
set_option linter.unusedVariables false
set_option linter.unusedSimpArgs false
namespace M
open Go Go.RowKit
variable [Bs]
section
variable {P:Program}{c:Ctx}{G:Nat->C}{zl:Nat->Nat->Prop}{s:af}{a:Act}{w:World}{o:Oper}{K:af->Prop}
def RB{zb:Nat->Nat->Prop}(h:Inv w zl zb G s){v:Value}{r:Nat}{p:Path}{i k:Nat}(hr:(C.av v r p i k).rf G){l:List C}(hs:storable s r p i k (l.map C.er))(hl:∀x∈l,bX x.er=true->x.bX):
  ∃g k0 d,v=.pointer (some ⟨g,k0,none⟩)/\(G r).sub p=some d/\∀q x,l[q]?=some x->dn d i (k+q) x g (k0+q):=by
 obtain⟨d,hd,hp⟩:=hr;unfold storable look at hs;rw[<-h.er,C.ep,hd] at hs;simp only[bM] at hs;rcases hp with ⟨m,sz,g,o,len,cap,e,rfl,rfl⟩|⟨m,g,o,n,f,rfl,rfl,rfl⟩
 ·refine⟨g,o+i*sz+k,_,rfl,hd,λq x hq=>?_⟩;simp only[C.er] at hs;cases m with
  |own=>
   simp only[C.b8] at hs;split at hs
   ·rename_i e0 iL;split at iL
    ·rename_i hi;injection iL with iL
     obtain⟨h1,h2⟩:=hs;have hlen:e0.length=sz:=by rw[<-iL];simp
     have kz:=(br.1 hq).1;simp only[cM] at h1;have:=dn.row (d:=.row .own sz (some (g,o,none)) len cap e) (i:=i) (c:=k+q) (y:=x) rfl hi (by omega) (hl x (me hq) (y7 h2 _ (gR (me hq))));rwa [show o+i*sz+(k+q)=o+i*sz+k+q by omega] at this
    ·cases iL
   ·exact hs.elim
  |sl=>exact hs.elim
  |ah=>exact hs.elim
 ·refine⟨g,o+k,_,rfl,hd,λq x hq=>?_⟩;simp only[C.er] at hs;cases m with
  |own=>have kz:=(br.1 hq).1;simp only[cM,pX] at hs;have:=dn.ptr (d:=.ptr .own g o n f) (i:=0) (c:=k+q) (y:=x) rfl rfl (by omega);rwa [show o+(k+q)=o+k+q by omega] at this
  |sl=>exact hs.elim
  |ah=>exact hs.elim
def HR{x:C}(h:bX x.er=true):x.bX:=by cases x<;>first|trivial|(simp[C.er,bX] at h)
def QI(h:St c G zl s a w){sz:Nat}{tk:Tk}{ty:TypeId}{x y:AV}{x' y':Operand}(ho:o.op=.store ty y' x')(hsz:∃i,P.info? ty=some i/\i.size=sz)(h0:0<sz)(hd:o.dst=none)(hx:aG x' x=true)(hy:aG y' y=true)
  (hK:aI P (.store sz tk y x) s K):Good P c o a w K:=by
 obtain⟨p,e1,e2,e3⟩:=bp h hx;obtain⟨q,G1,f1,f2,f3,f4⟩:=lW tk h.inv e3;obtain⟨k1,k2⟩:=hK;rw[e1] at f1 f4;have h1:=h.rX f4;obtain⟨u,u1,u2,u3⟩:=bp h1 hy;rw[<-u1] at k2;cases u with
 |av v r pp i k=>
  simp only[C.er] at k2;obtain⟨k2,k3⟩:=k2;rw[<-f1,<-oo] at k1 k2 k3;have hsh:=y6 f4.rf;have hT:=aU.flat (aU.one f4) (λx hx=>by rw[ew] at hx;subst hx;exact hsh);simp only[gO,DB,nW] at hT;obtain⟨g,k0,d,hv,hsub,hsp⟩:=RB h1.inv u3.rf k2 (λx _ hs=>HR hs);have hlen:q.cells.length=sz:=by simpa using k1
  obtain⟨w',G',j1,j2,j3,j4,j5⟩:=HZ (P:=P) r pp i (k0:=k0) q.cells.length q.cells rfl k 0 h1.inv hsub (by simpa using hsp) ⟨λx hx=>⟨(qi hsh f4.ok hx).1,(qi hsh f4.ok hx).2,Ay f4.rf hx,(hT.all x hx).2.1,(hT.all x hx).2.2.1⟩,hT.apart⟩;have N0:=wq (by omega) hsh;refine⟨undef,w',.inr ⟨?_,rfl⟩,G',zl,_,k3,?_⟩
  ·have Bg:a.eval y'=.pointer (some ⟨g,k0,none⟩):=by rw[<-u2];exact hv
   obtain⟨ii,hi,gY⟩:=hsz;have OK:a.eval x'=q.val:=by rw[f2,e2]
   simp[execOp,ho,Bg,OK,Instr.storeAt,Instr.sureAddr,storeVar,N0,Go.sizeOf,typeInfo,hi,gY,hlen,j1]
  ·rw[hd];refine h.move j2 (λt=>(j3 t).trans (f4.val t)) j5 (λb k' hs=>?_) (λt b k' hf=>?_)
   ·obtain⟨rfl,hs1,hs2⟩:=hs;simp only[lZ] at hs1 hs2;have hlt:k' - k0<q.cells.length:=by omega
    have:=(hsp (k' - k0) _ (bH hlt)).fp;rw[show k0+(k' - k0)=k' by omega] at this;exact h1.tr.dom r _ _ (C.eu pp hsub (h1.inv.ok r) this)
   ·refine .inl ?_;rcases j4 t b k' hf with ⟨x,hx,hf⟩|hf;·exact(hT.all x hx).2.2.2 b k' hf
    ·exact⟨t,f4.mono t b k' hf⟩
 |_=>exact k2.elim
def bQ(len z:Nat)(e:Nat->Nat->C):List (List C):=(List.range len).map λi=>(List.range z).map λj=>e i j
def oO(len z:Nat)(e:Nat->Nat->C):∀x∈bQ len z e,x.length=z:=λx hx=>by obtain⟨i,_,rfl⟩:=aL.1 hx;simp
def GH(len z:Nat)(e:Nat->Nat->C):(bQ len z e).map (λx=>x.map C.er)=cz z len e:=by simp only[bQ,cz,bT];refine bn λi _=>?_;show ((List.range z).map λj=>e i j).map C.er=_;rw[bT];rfl
def jP{len z:Nat}{e:Nat->Nat->C}{x:C}(hx:x∈(bQ len z e).flatten):∃i j,i<len/\j<z/\x=e i j:=by obtain⟨l,hl,hx⟩:=zT.1 hx;obtain⟨i,hi,rfl⟩:=aL.1 hl;obtain⟨j,hj,rfl⟩:=aL.1 hx;exact⟨i,j,by simpa using hi,by simpa using hj,rfl⟩
def GG{len z:Nat}{e:Nat->Nat->C}{q:Nat}{x:C}(h0:0<z)(h:(bQ len z e).flatten[q]?=some x):q / z<len/\q%z<z/\x=e (q / z) (q%z):=by
 have hq:=(br.1 h).1;rw[mQ (oO len z e)] at hq;have hl:(bQ len z e).length=len:=by simp[bQ]
 rw[hl] at hq;have h1:q%z<z:=r9 _ h0;have h2:q / z<len:=I3 (by rw[l9];exact hq);have tD:q=q / z*z+q%z:=by have:=vL q z;rw[l9] at this;omega
 have:=s9 (oO len z e) (q / z) (q%z) (by rw[hl];exact h2) h1;rw[<-tD,h] at this;simp only[bQ,C.b8,aA h2,jx,aA h1] at this;exact⟨h2,h1,e8 this⟩
def BV{Z:Md->Nat->Nat->Prop}{z len cap:Nat}{A:Option Ad}{e:Nat->Nat->C}(h:(C.row .own z A len cap e).ok w Z):(bQ len z e).flatten.Pairwise λa b=>∀x k,a.fp x k->¬b.fp x k:=by
 obtain⟨h1,h2,h3,h4,h5⟩:=h;refine List.pairwise_flatten.2 ⟨λl hl=>?_,?_⟩
 ·obtain⟨i,hi,rfl⟩:=aL.1 hl;have hi:i<len:=by simpa using hi
  refine vI.2 (zJ (R:=λa b=>a<b) ?_ Dj);intro j j' hj hj' hlt b k hf;exact(h5 i j hi (by simpa using hj) b k hf).2 i j' hi (by simpa using hj') (by simp;omega)
 ·refine vI.2 (zJ (R:=λa b=>a<b) ?_ Dj);intro i i' hi hi' hlt x hx y hy b k hf;obtain⟨j,hj,rfl⟩:=aL.1 hx;obtain⟨j',hj',rfl⟩:=aL.1 hy;exact(h5 i j (by simpa using hi) (by simpa using hj) b k hf).2 i' j' (by simpa using hi') (by simpa using hj') (by simp;omega)
def A1{w1:World}{z len cap:Nat}{A:Option Ad}{e:Nat->Nat->C}(h0:0<z)(hc:∀i j,i<len->j<z->∃g o,A=some (g,o,none)/\w1.cell? ⟨g,o+i*z+j,none⟩=some (e i j).val):
  (Builtin.firstCells z len (.slice (A.map λq=>⟨q.1,q.2.1,q.2.2⟩) len cap)).run P w1=.ok ((bQ len z e).flatten.map C.val).toArray w1/\(A=none->len=0):=by
 cases A with
 |none=>
  have hl:len=0:=by
   rcases Dp len with h|h;·exact h
   ·obtain⟨g,o,hA,_⟩:=hc 0 0 h h0;cases hA
  subst hl;exact⟨run_firstCells_none w1 z 0 0 cap,λ_=>rfl⟩
 |some q=>
  refine⟨?_,λh=>by cases h⟩;refine run_firstCells_some w1 z len ⟨q.1,q.2.1,q.2.2⟩ len cap _ ?_ λj v hj=>?_;·rw[cM,mQ (oO len z e)];simp[bQ]
  ·rw[cg] at hj;cases hk:(bQ len z e).flatten[j]? with
   |none=>rw[hk] at hj;cases hj
   |some x=>
    rw[hk] at hj;obtain⟨a1,a2,rfl⟩:=GG h0 hk;injection hj with hj
    obtain⟨g,o,hA,hcl⟩:=hc _ _ a1 a2;injection hA with hA
    subst hA;have tD:j=j / z*z+j%z:=by have:=vL j z;rw[l9] at this;omega
    rw[mz,<-hj,<-hcl];congr 2;show o+j=_;omega
end
end M
namespace M
open Go Go.RowKit
variable [Bs]
section
variable {P:Program}
def aU.sub{w:World}{zl zb:Nat->Nat->Prop}{G G1:Nat->C}{s1:af}{l ks:List C}(hT:aU w zl zb G l G1 s1)(hok:∀x∈ks,x.ok w (Zf zl zb))(bu:∀x∈ks,∀b k,x.fp b k->∃y∈l,y.fp b k)
  (fJ:ks.Pairwise λa b=>∀x k,a.fp x k->¬b.fp x k):aU w zl zb G ks G1 s1 where
 inv:=hT.inv
 all:=λx hx=>⟨hok x hx,λt b k hf=>by obtain⟨y,hy,hf⟩:=bu x hx b k hf;exact(hT.all y hy).2.1 t b k hf,λb k hf=>by obtain⟨y,hy,hf⟩:=bu x hx b k hf;exact(hT.all y hy).2.2.1 b k hf,
  λb k hf=>by obtain⟨y,hy,hf⟩:=bu x hx b k hf;exact(hT.all y hy).2.2.2 b k hf⟩
 apart:=fJ
 val:=hT.val
 mono:=hT.mono
def Ext.setCells(b:Nat):∀(vs:List Value) (o:Nat) (w:World),Ext (λg k=>g=b/\o<=k/\k<o+vs.length) w (w.setCells b o vs)
 |[],o,w=>Ext.refl _ _
 |v::vs,o,w=>by rw[World.setCells];refine((Ext.setCell w b o v).mono (S':=λg k=>g=b/\o<=k/\k<o+(v::vs).length) (λg k hs _=>⟨hs.1,by omega,by simp only[cw];omega⟩)).trans (Ext.setCells b vs (o+1) _) λg k hs _=>⟨hs.1,by omega,by simp only[cw];omega⟩
def Rk{w:World}{t u ty e e':TypeId}{i:TypeInfo}(ht:P.underlying t=some (.slice e))(hu:P.underlying u=some (.slice e'))(hi:P.info? e=some i){A B:Option Addr}{len cap m cap2:Nat}{news:List Value}(h:len+m<=cap)
  (hx:(Builtin.firstCells i.size m (.slice B m cap2)).run P w=.ok news.toArray w):
  (Builtin.append_ #[t,u] ty #[.slice A len cap,.slice B m cap2]).run P w=match A with
   |some a=>((storeCells (a.add (len*i.size)) news).run P w).andThen λ_ w'=>.ok (.slice (some a) (len+m) cap) w'
   |none=>.ok (.slice none (len+m) cap) w:=by
 cases A with
 |none=>simp[Builtin.append_,run_underlying ht,run_underlying hu,Go.sizeOf,typeInfo,hi,Builtin.lenOf,h,hx]
 |some a=>simp[Builtin.append_,run_underlying ht,run_underlying hu,Go.sizeOf,typeInfo,hi,Builtin.lenOf,h,hx]
def Rj{w:World}{t u ty e e':TypeId}{i:TypeInfo}{z:Value}(ht:P.underlying t=some (.slice e))(hu:P.underlying u=some (.slice e'))(hi:P.info? e=some i)(hz:i.zero=some z){A B:Option Addr}{len cap m cap2:Nat}{olds news:List Value}(h:¬len+m<=cap)
  (h63:len+m<=9223372036854775807)(hfit:Builtin.nextslicecap (len+m) cap*i.bytes<=281474976710656)
  (hx:(Builtin.firstCells i.size m (.slice B m cap2)).run P w.drew=.ok news.toArray w.drew)(hy:(Builtin.firstCells i.size len (.slice A len cap)).run P w.drew=.ok olds.toArray w.drew):
  (Builtin.append_ #[t,u] ty #[.slice A len cap,.slice B m cap2]).run P w=.ok (.slice (some ⟨w.heap.size,0,none⟩) (len+m) (grownCap w (len+m) cap e))
    (w.drew.alloc (.cells (olds.toArray++news.toArray++Builtin.zeroCells z.cells (grownCap w (len+m) cap e - (len+m))) e)):=by
 have h63':¬(9223372036854775807<((len:Int)+(m:Int))):=by omega
 have NJ:¬(281474976710656<Builtin.nextslicecap (len+m) cap*i.bytes):=by omega
 simp[Builtin.append_,run_underlying ht,run_underlying hu,Go.sizeOf,typeInfo,zeroValue,hi,hz,Builtin.lenOf,h,h63',NJ,Question.forced,hx,hy,newRow,grownCap];congr 2;apply kU;simp[nV]
variable {c:Ctx}{G:Nat->C}{zl:Nat->Nat->Prop}{s:af}{a:Act}{w:World}{o:Oper}{K:af->Prop}
def Ab(h:St c G zl s a w){G1:Nat->C}{s1:af}{l:List C}(hT:aU w zl c.zb G l G1 s1){d z bytes:Nat}{ty ty' el wF:TypeId}{i:TypeInfo}{v:Value}{x' y':Operand}
  (ho:o.op=.call {callee:=.builtin .append,args:= #[x',y'],argTypes:= #[ty,ty']})(hu:P.underlying ty=some (.slice el))(qF:P.underlying ty'=some (.slice wF))(hi:P.info? el=some i)(hz:i.zero=some v)(hsz:i.size=z)(hb:i.bytes=bytes)(hb0:0<bytes)(h0:0<z)(hvs:v.cells.size=z)
  (hd:o.dst=some d)(hn:d<c.nt){A:Option Ad}{len cap:Nat}{e:Nat->Nat->C}(hy1:C.row .own z A len cap e∈l)(hv1:a.eval x'=(C.row .own z A len cap e).val)
  {A2:Option Ad}{m cap2:Nat}{e2:Nat->Nat->C}(tH:a.eval y'=.slice (A2.map λq=>⟨q.1,q.2.1,q.2.2⟩) m cap2)(hc2:∀i j,i<m->j<z->∃g o,A2=some (g,o,none)/\w.cell? ⟨g,o+i*z+j,none⟩=some (e2 i j).val)
  (hk2:∀i j,i<m->j<z->(e2 i j).plain/\(e2 i j).ok w (Zf zl c.zb)/\∀b k,(e2 i j).fp b k->¬(C.row .own z A len cap e).fp b k/\∃y∈l,y.fp b k)
  (hp2:(bQ m z e2).flatten.Pairwise λa b=>∀x k,a.fp x k->¬b.fp x k)(hbig:(len+m)*bytes<=140737488355328)(hpl:∀i j,i<len->j<z->(e i j).plain)
  (hK:K (put d (.row .own z (cz z len e++cz z m e2)) s1)):Good P c o a w K:=by
 obtain⟨y1,y2,y3,y4⟩:=hT.all _ hy1;have Gt:=y1;obtain⟨r1,r2,r3,r4,r5⟩:=y1;have hk1:∀i j,i<len->j<z->∀b k,(e i j).fp b k->(C.row .own z A len cap e).fp b k:=λi j hi hj b k hf=>C.gJ (r3 i j hi hj).1 (r3 i j hi hj).2.2.1 hi hj hf;have hc1:∀i j,i<len->j<z->∃g o,A=some (g,o,none)/\w.cell? ⟨g,o+i*z+j,none⟩=some (e i j).val:=λi j hi hj=>by obtain⟨g,o,q1,q2,_⟩:=r2 i j hi hj;exact⟨g,o,q1,q2⟩
 have hlen:∀x∈bQ len z e++bQ m z e2,x.length=z:=λx hx=>(dz.1 hx).elim (oO _ _ _ x) (oO _ _ _ x);have F4:(bQ len z e).length=len:=by simp[bQ]
 have F5:(bQ m z e2).length=m:=by simp[bQ]
 have wZ:(bQ len z e++bQ m z e2).length=len+m:=by rw[fT,F4,F5]
 have gX:(bQ len z e++bQ m z e2).map (λx=>x.map C.er)=cz z len e++cz z m e2:=by rw[jb,GH,GH]
 have hall:∀x∈(bQ len z e++bQ m z e2).flatten,x.plain/\x.ok w (Zf zl c.zb)/\∀b k,x.fp b k->∃y∈l,y.fp b k:=λx hx=>by
  rw[sw,dz] at hx;rcases hx with hx|hx;·obtain⟨i,j,hi,hj,rfl⟩:=jP hx;exact⟨hpl i j hi hj,(r3 i j hi hj).2.2.2,λb k hf=>⟨_,hy1,hk1 i j hi hj b k hf⟩⟩
  ·obtain⟨i,j,hi,hj,rfl⟩:=jP hx;obtain⟨a1,a2,a3⟩:=hk2 i j hi hj;exact⟨a1,a2,λb k hf=>(a3 b k hf).2⟩
 have fJ:(bQ len z e++bQ m z e2).flatten.Pairwise λa b=>∀x k,a.fp x k->¬b.fp x k:=by rw[sw];refine vH.2 ⟨BV Gt,hp2,λx hx y hy b k hf hf'=>?_⟩;obtain⟨i,j,hi,hj,rfl⟩:=jP hx;obtain⟨i',j',hi',hj',rfl⟩:=jP hy;exact((hk2 i' j' hi' hj').2.2 b k hf').1 (hk1 i j hi hj b k hf)
 have fZ:aU w zl c.zb G (bQ len z e++bQ m z e2).flatten G1 s1:=hT.sub (λx hx=>(hall x hx).2.1) (λx hx=>(hall x hx).2.2) fJ;have hfl:(bQ len z e).flatten.length=len*z:=by rw[mQ (oO _ _ _),F4]
 have kq:(bQ m z e2).flatten.length=m*z:=by rw[mQ (oO _ _ _),F5]
 have jj:∀r w',(Builtin.append_ #[ty,ty'] o.type #[(C.row .own z A len cap e).val,.slice (A2.map λq=>⟨q.1,q.2.1,q.2.2⟩) m cap2]).run P w=.ok r w'->(execOp a.eval o).run P w=.ok (.value r) w':=λr w' hr=>by simp[execOp,ho,resolve,invoke,builtin,hv1,tH,hr]
 have hmul:len+m<=(len+m)*bytes:=Nat.le_mul_of_pos_right _ hb0;subst hsz;by_cases hroom:len+m<=cap
 ·have hx:=A1 (P:=P) (cap:=cap2) h0 hc2;have hr:=Rk (P:=P) (ty:=o.type) (A:=A.map λq=>⟨q.1,q.2.1,q.2.2⟩) hu qF hi hroom hx.1;rcases r4 rfl with ⟨hA,hcap⟩|⟨g,o',arr,t,fz,hA,hh,Wg,hfr⟩
  ·
   have hm:m=0:=by omega
   have hl:len=0:=by omega
   subst hm;subst hl;subst hA;subst hcap;obtain⟨G',h'⟩:=h.fresh hT (Ext.refl _ w) hn Gt trivial (λb k hf=>.inr ⟨_,hy1,hf⟩);refine⟨_,w,.inl (jj _ _ hr),G',zl,_,hK,?_⟩;rw[hd];exact h'
  ·subst hA;have Bi:(len+m)*i.size<=cap*i.size:=j0 _ hroom;rw[dx] at Bi
   have hst:=run_storeCells_cells (P:=P) g (o'+len*i.size) ((bQ m i.size e2).flatten.map C.val) 0 w (λj hj=>by
     rw[cM,kq] at hj;rw[cell_of_row _ _ _ _ _ fz hh];rw[zO (by omega)];rfl) (λj hj=>by
     rw[cM,kq] at hj;exact hfr _ (by omega) (by omega)) (λu hu=>by
     obtain⟨x,hx,rfl⟩:=aL.1 hu;obtain⟨i',j',hi',hj',rfl⟩:=jP hx;exact Inv.mI (C.iT (hk2 i' j' hi' hj').1))
   simp only[bM,mz,hst,lZ,Result.andThen_ok] at hr;have hE:=Ext.setCells g ((bQ m i.size e2).flatten.map C.val) (o'+len*i.size) w;rw[cM,kq] at hE;have hin:=World.cell?_setCells_in g ((bQ m i.size e2).flatten.map C.val) (o'+len*i.size) w;generalize hw':w.setCells g (o'+len*i.size) ((bQ m i.size e2).flatten.map C.val)=w' at hr hE hin;have hg:g<w.heap.size:=(gQ.1 hh).1;have qA:∀k,(C.row .own i.size (some (g,o',none)) len cap e).fp g k:=λk=>⟨rfl,.inl ⟨_,rfl⟩⟩
   obtain⟨dP,lE,hs'⟩:∃dP,w'.heap[g]?=some (.cells dP t fz)/\dP.size=arr.size:=by
    rcases hE.block g hg with e'|⟨a1,a2,t',ji,q1,q2,q3,q4⟩;·exact⟨arr,e'.trans hh,rfl⟩
    ·rw[hh] at q1;injection q1 with q1
     injection q1 with b1 b2 b3
     subst b1;subst b2;subst b3;exact⟨a2,q2,q3⟩
   have hok:(oW g o' i.size cap (bQ len i.size e++bQ m i.size e2)).ok w' (Zf zl c.zb):=by
    refine HC hlen (by rw[wZ];exact hroom) lE (by omega) (λk h1 h2=>(hE.frozen hg).trans (hfr k h1 h2)) (λq x hq=>?_) (λx hx=>?_) fJ (λx hx b k hf=>?_)
    ·rw[sw] at hq;by_cases Ow:q<len*i.size
     ·rw[mc (by omega)] at hq;obtain⟨a1,a2,rfl⟩:=GG h0 hq;obtain⟨g',o2,hA,hcl⟩:=hc1 _ _ a1 a2;injection hA with hA
      injection hA with b1 b2
      injection b2 with b2
      subst b1;subst b2;have tD:q=q / i.size*i.size+q%i.size:=by have:=vL q i.size;rw[l9] at this;omega
      refine hE.cell (λhs=>by omega) ?_;rw[<-hcl];congr 2;omega
     ·rw[jy (by omega)] at hq;rw[hfl] at hq;have xl:=(br.1 hq).1;rw[kq] at xl;have:=hin (λj hj=>by rw[cM,kq] at hj;rw[cell_of_row _ _ _ _ _ fz hh,zO (by omega)];rfl) (q - len*i.size) (by rw[cM,kq];exact xl)
      rw[show o'+len*i.size+(q - len*i.size)=o'+q by omega] at this;rw[this,<-bH,cg,hq];rfl
    ·obtain⟨a1,a2,a3⟩:=hall x hx;refine⟨C.iT a1,C.uF a1,hT.fits' hE (λb k hz hs=>?_) a2 (λb k hf hs=>?_)⟩;·obtain⟨rfl,_⟩:=hs;exact hz.elim (y3 b k (qA k)).1 (y3 b k (qA k)).2
     ·obtain⟨rfl,_⟩:=hs;rw[sw,dz] at hx;rcases hx with hx|hx;·obtain⟨i',j',hi',hj',rfl⟩:=jP hx;exact(r5 i' j' hi' hj' b k hf).1 rfl o' rfl
      ·obtain⟨i',j',hi',hj',rfl⟩:=jP hx;exact((hk2 i' j' hi' hj').2.2 b k hf).1 (qA k)
    ·intro NY;subst NY;rw[sw,dz] at hx;rcases hx with hx|hx;·obtain⟨i',j',hi',hj',rfl⟩:=jP hx;exact(r5 i' j' hi' hj' b k hf).1 rfl o' rfl
     ·obtain⟨i',j',hi',hj',rfl⟩:=jP hx;exact((hk2 i' j' hi' hj').2.2 b k hf).1 (qA k)
   obtain⟨G',h'⟩:=h.fresh' hT hE (λb k hs=>.inr ⟨_,hy1,by rw[hs.1];exact qA k⟩) hn hok trivial (λb k hf=>by
    rcases HB hlen hf with rfl|⟨x,hx,hf⟩;·exact .inr ⟨_,hy1,qA k⟩
    ·exact .inr ((hall x hx).2.2 b k hf))
   refine⟨_,w',.inl (jj _ _ hr),G',zl,_,hK,?_⟩;rw[hd];rw[HA hlen,gX,Re,wZ] at h';exact h'
 ·have hx:=A1 (P:=P) (w1:=w.drew) (cap:=cap2) h0 hc2;have hy:=A1 (P:=P) (w1:=w.drew) (cap:=cap) h0 hc1;have hr:=Rj (P:=P) (ty:=o.type) hu qF hi hz hroom (by omega) (growslice_fits (by omega) (by rw[hb];exact hbig)) hx.1 hy.1;have hge:=grownCap_ge w (len+m) cap el;generalize grownCap w (len+m) cap el=cap' at hr hge;refine gB.good (good_row h (L:=bQ len i.size e++bQ m i.size e2) (cap:=cap') (fz:=(0,0)) hlen (by rw[wZ];exact hge) fZ (λx hx=>(hall x hx).1) hd hn (E4 w _) (tw w.drew _) ?_ (λk _ hh=>by simp at hh) (λq x hq=>?_) (by rw[wZ];exact jj _ _ hr) (by rw[gX];exact hK));·simp only[Dq,pQ,cM,hfl,kq,size_zeroCells,hvs];rw[<-dx,<-dx];exact j0 _ (by omega)
  ·rw[sw] at hq;have xl:=(br.1 hq).1;have hmap:(((bQ len i.size e).flatten++(bQ m i.size e2).flatten).map C.val)[q]?=some x.val:=by rw[cg,hq];rfl
   rw[Dz (by rw[Dq,pQ,pQ,cM,cM,<-fT];exact xl)];rw[<-hmap,jb];simp
end
end M
namespace M
open Go Go.RowKit
variable [Bs]
namespace C
def belows(r:Nat)(p:Path):Nat->Path->Bool:=λs q=>s==r && k9 p q
def tZ(r:Nat)(p:Path){α:Type}(f:α->X):∀l:List α,X.lM r p (l.map f)=l.map λa=>(f a).de r p
 |[]=>rfl
 |a::l=>by simp only[aS,X.lM,tZ r p f l]
def qQ(r:Nat)(p:Path):∀c:C,(c.ak (belows r p)).er=c.er.de r p
 |.ref v s q=>by simp only[ak,er,X.de,belows];cases s==r && k9 p q<;>rfl
 |.av v s q i c=>by simp only[ak,er,X.de,belows];cases s==r && k9 p q<;>rfl
 |.cut v s q i c=>by simp only[ak,er,X.de,belows];cases s==r && k9 p q<;>rfl
 |.ptr m g o n c=>by simp only[ak,er,X.de,tZ];congr 1;exact bn λj _=>qQ r p (c j)
 |.agg n c=>by simp only[ak,er,X.de,tZ];congr 1;exact bn λj _=>qQ r p (c j)
 |.aq n c=>by simp only[ak,er,X.de,tZ];congr 1;exact bn λj _=>qQ r p (c j)
 |.fn f n c=>by simp only[ak,er,X.de,tZ];congr 1;exact bn λj _=>qQ r p (c j)
 |.dead _=>by simp only[ak,er,X.de]
 |.int _ _=>by simp only[ak,er,X.de]
 |.bool _=>by simp only[ak,er,X.de]
 |.str _=>by simp only[ak,er,X.de]
 |.row _ _ _ _ _ _=>by simp only[ak,er,X.de]
def mE(G:Nat->C):∀c:C,c.bare->c.rf G
 |.ref _ _ _,h=>h.elim
 |.av _ _ _ _ _,h=>h.elim
 |.cut _ _ _ _ _,h=>h.elim
 |.ptr m g o n c,h=>λj hj=>mE G (c j) (h j hj)
 |.agg n c,h=>λj hj=>mE G (c j) (h j hj)
 |.aq n c,h=>λj hj=>mE G (c j) (h j hj)
 |.fn f n c,h=>λj hj=>mE G (c j) (h j hj)
 |.dead _,_=>trivial
 |.int _ _,_=>trivial
 |.bool _,_=>trivial
 |.str _,_=>trivial
 |.row _ _ _ _ _ _,_=>trivial
def p9{l:List X}:X.bare.fD l=true↔∀x∈l,x.bare=true:=by
 induction l with
 |nil=>simp[X.bare.fD]
 |cons a l ih=>simp[X.bare.fD,ih]
def jc:∀c:C,c.er.bare=true↔c.bare
 |.ref _ _ _=>by simp[er,X.bare,bare]
 |.av _ _ _ _ _=>by simp[er,X.bare,bare]
 |.cut _ _ _ _ _=>by simp[er,X.bare,bare]
 |.ptr m g o n c=>by simp only[er,X.bare,bare,p9,aL,nY];exact⟨λh j hj=>(jc (c j)).1 (h _ ⟨j,hj,rfl⟩),λh x ⟨j,hj,e⟩=>e▸(jc (c j)).2 (h j hj)⟩
 |.agg n c=>by simp only[er,X.bare,bare,p9,aL,nY];exact⟨λh j hj=>(jc (c j)).1 (h _ ⟨j,hj,rfl⟩),λh x ⟨j,hj,e⟩=>e▸(jc (c j)).2 (h j hj)⟩
 |.aq n c=>by simp only[er,X.bare,bare,p9,aL,nY];exact⟨λh j hj=>(jc (c j)).1 (h _ ⟨j,hj,rfl⟩),λh x ⟨j,hj,e⟩=>e▸(jc (c j)).2 (h j hj)⟩
 |.fn f n c=>by simp only[er,X.bare,bare,p9,aL,nY];exact⟨λh j hj=>(jc (c j)).1 (h _ ⟨j,hj,rfl⟩),λh x ⟨j,hj,e⟩=>e▸(jc (c j)).2 (h j hj)⟩
 |.dead _=>by simp[er,X.bare,bare]
 |.int _ _=>by simp[er,X.bare,bare]
 |.bool _=>by simp[er,X.bare,bare]
 |.str _=>by simp[er,X.bare,bare]
 |.row _ _ _ _ _ _=>by simp[er,X.bare,bare]
def Hl:∀{p q:Path},X.pfx p q=true->¬p.length<q.length->q=p
 |[],[],_,_=>rfl
 |[],_::_,_,h=>by simp at h
 |_::_,[],h,_=>by simp[X.pfx] at h
 |x::p,y::q,h,hl=>by simp only[X.pfx,au,cT] at h;obtain⟨⟨h1,h2⟩,h3⟩:=h;rw[Hl h3 (by simpa using hl)];congr 1;cases x;cases y;simp only at h1 h2;rw[h1,h2]
end C
def FP(r:Nat)(p:Path)(t:Nat):∀s:af,get (nq r p s) t=(get s t).de r p
 |[]=>by simp[nq,get,X.de]
 |(k,v)::s=>by
  simp only[nq,get];cases k==t;·exact FP r p t s
  ·rfl
namespace Inv
variable {w w':World}{zl ay zb:Nat->Nat->Prop}{G:Nat->C}{s:af}{S:Nat->Nat->Prop}
def de(h:Inv w zl zb G s)(r:Nat)(p:Path):Inv w zl zb (λt=>(G t).ak (C.belows r p)) (nq r p s):=
 h.off _ λt=>by rw[C.qQ,FP,h.er]
def Ah(h:Inv w zl zb G s)(r:Nat)(p:Path)(hfree:∀t,(G t).free (C.belows r p)){d d':C}(hsub:(G r).sub p=some d)(hF:C.dX d d')(hl:C.eP d d')(Ga:d'.rf G/\d'.free (C.belows r p))(hE:Ext S w w')
  (hS:∀b k,S b k->d.fp b k\/((∀t,¬(G t).fp b k)/\¬zl b k/\¬zb b k))(hok:d'.ok w' (Zf ay zb))(hz1:∀b k,zl b k->ay b k)(hz2:∀b k,ay b k->¬d'.fp b k/\b<w'.heap.size/\∀t,(G t).fp b k->d.fp b k)
  (bu:∀b k,d'.fp b k->d.fp b k\/((∀t,¬(G t).fp b k)/\¬zb b k)):
  Inv w' ay zb (dI G r (C.putAt p (G r) d')) ((r,X.putAt p (get s r) d'.er)::s)/\(∀t,(dI G r (C.putAt p (G r) d') t).val=(G t).val)/\
   ∀t b k,(dI G r (C.putAt p (G r) d') t).fp b k->d'.fp b k\/((G t).fp b k/\¬d.fp b k):=by
 have dc:∀{b k},d.fp b k->(G r).fp b k:=λhf=>C.eu p hsub (h.ok r) hf
 have hZ:∀m b k,Zf zl zb m b k->¬S b k:=λm b k hz hs=>by
  rcases hS b k hs with hs|hs;·exact h.sB r m b k hz (dc hs)
  ·cases m with
   |own=>exact hz.elim
   |sl=>exact hs.2.1 hz
   |ah=>exact hz.elim hs.2.1 hs.2.2
 have hM:∀m b k,Zf zl zb m b k->Zf ay zb m b k:=λm b k hz=>by
  cases m with
  |own=>exact hz
  |sl=>exact hz1 b k hz
  |ah=>exact hz.imp (hz1 b k) id
 obtain⟨i1,i2,i3⟩:=C.uA hM hE hZ p (G r) d d' (h.ok r) hsub hok hl (λb k hs=>(hS b k hs).imp id λhn=>hn.1 r) (λb k hf=>(bu b k hf).imp id λhn=>hn.1 r)
 have hr':∀t,t≠r->∀b k,(C.putAt p (G r) d').fp b k->¬(G t).fp b k:=λt e b k hf=>by
  rcases i2 b k hf with hf|hf
  ·rcases bu b k hf with hf|hf;·exact h.sep r t (λe'=>e e'.symm) b k (dc hf)
   ·exact hf.1 t
  ·exact h.sep r t (λe'=>e e'.symm) b k hf.1
 have key:∀c':C,c'.free (C.belows r p)->c'.rf G->c'.rf (dI G r (C.putAt p (G r) d')):=λc' hf hr=>C.iV (C.belows r p) (λs' q' y' hk hs=>by
  by_cases e:s'=r
  ·subst e;rw[cu];cases hp:X.pfx p q' with
   |false=>exact C.ze p q' (G s') d' y' hp hs
   |true=>
    have hlen:¬p.length<q'.length:=by simpa [C.belows,k9,hp] using hk
    have he:=C.Hl hp hlen;subst he;rw[hsub] at hs;injection hs with hs
    subst hs;exact .inl ⟨d',hF,C.zf _ hsub⟩
  ·rw[cm _ _ e];exact C.self y' _ q' hs) c' hf hr
 refine⟨⟨λt=>?_,λt=>?_,λt u hne b k hf=>?_,λt b k hf=>?_,λt=>?_,λb k hz=>?_⟩,λt=>?_,λt b k hf=>?_⟩
 ·rw[qx];by_cases e:t=r;·subst e;rw[cu,aA rfl,C.Cn,h.er]
  ·rw[cm _ _ e,aC e];exact h.er t
 ·by_cases e:t=r;·subst e;rw[cu];exact i1
  ·rw[cm _ _ e];refine C.eo hM _ (C.dF hE hZ _ (λb k hf hs=>?_) (h.ok t));rcases hS b k hs with hs|hs;·exact h.sep t r e b k hf (dc hs)
   ·exact hs.1 t hf
 ·by_cases e:t=r;·subst e;rw[cu] at hf;rw[cm _ _ (λe=>hne e.symm)];exact hr' u (λe=>hne e.symm) b k hf
  ·rw[cm _ _ e] at hf;by_cases e':u=r;·subst e';rw[cu];exact λhc=>hr' t e b k hc hf
   ·rw[cm _ _ e'];exact h.sep t u hne b k hf
 ·by_cases e:t=r
  ·subst e;rw[cu] at hf;rcases i2 b k hf with hf|⟨hf,hn⟩
   ·refine⟨λhz=>(hz2 b k hz).1 hf,λhz=>?_⟩;rcases bu b k hf with hf|hf;·exact(h.fz t b k (dc hf)).2 hz
    ·exact hf.2 hz
   ·exact⟨λhz=>hn ((hz2 b k hz).2.2 t hf),(h.fz t b k hf).2⟩
  ·rw[cm _ _ e] at hf;exact⟨λhz=>h.sep t r e b k hf (dc ((hz2 b k hz).2.2 t hf)),(h.fz t b k hf).2⟩
 ·by_cases e:t=r
  ·subst e;rw[cu]
   have inner:∀(p':Path) (c':C),c'.free (C.belows t p)->c'.rf G->(C.putAt p' c' d').rf (dI G t (C.putAt p (G t) d')):=by
    intro p';induction p' with
    |nil=>intro c' _ _;exact key d' Ga.2 Ga.1
    |cons x p' ih=>
     intro c' fG gH;simp only[C.putAt];cases hst:c'.step x with
     |none=>exact key c' fG gH
     |some z=>
      cases c' with
      |row m sz A len cap e=>trivial
      |ptr m g o n c=>
       simp only[C.step] at hst;split at hst
       ·rename_i hq;injection hst with hst
        intro j hj;simp only[C.bg];split;·exact ih z (by rw[<-hst];exact fG _ hq.2) (by rw[<-hst];exact gH _ hq.2)
        ·exact key _ (fG j hj) (gH j hj)
       ·cases hst
      |agg n c=>
       simp only[C.step] at hst;split at hst
       ·rename_i hq;injection hst with hst
        intro j hj;simp only[C.bg];split;·exact ih z (by rw[<-hst];exact fG _ hq.2) (by rw[<-hst];exact gH _ hq.2)
        ·exact key _ (fG j hj) (gH j hj)
       ·cases hst
      |aq n c=>
       simp only[C.step] at hst;split at hst
       ·rename_i hq;injection hst with hst
        intro j hj;simp only[C.bg];split;·exact ih z (by rw[<-hst];exact fG _ hq.2) (by rw[<-hst];exact gH _ hq.2)
        ·exact key _ (fG j hj) (gH j hj)
       ·cases hst
      |_=>simp[C.step] at hst
   exact inner p (G t) (hfree t) (h.rf t)
  ·rw[cm _ _ e];exact key _ (hfree t) (h.rf t)
 ·exact hz.elim (λhz=>(hz2 b k hz).2.1) λhz=>iy (h.bF b k (.inr hz)) hE.size
 ·by_cases e:t=r;·subst e;rw[cu];exact i3.val
  ·rw[cm _ _ e]
 ·by_cases e:t=r;·subst e;rw[cu] at hf;exact i2 b k hf
  ·rw[cm _ _ e] at hf;exact .inr ⟨hf,λhd=>h.sep t r e b k hf (dc hd)⟩
def Ee(h:Inv w zl zb G s)(hE:Ext S w w')(hS:∀b k,S b k->(∀t,¬(G t).fp b k)/\¬zl b k/\¬zb b k)(hz1:∀b k,zl b k->ay b k)(hz2:∀b k,ay b k->b<w'.heap.size/\∀t,¬(G t).fp b k):Inv w' ay zb G s:=by
 have h1:=h.ext hE (λt b k hf hs=>(hS b k hs).1 t hf) (λb k hz hs=>hz.elim (hS b k hs).2.1 (hS b k hs).2.2);refine⟨h1.er,λt=>C.eo (λm b k hz=>?_) _ (h1.ok t),h1.sep,λt b k hf=>⟨λhz=>(hz2 b k hz).2 t hf,(h1.fz t b k hf).2⟩,h1.rf,λb k hz=>hz.elim (λhz=>(hz2 b k hz).1) λhz=>h1.bF b k (.inr hz)⟩;cases m with
 |own=>exact hz
 |sl=>exact hz1 b k hz
 |ah=>exact hz.imp (hz1 b k) id
end Inv
end M
namespace M
open Go Go.RowKit
variable [Bs]
section
variable {P:Program}{c:Ctx}{G:Nat->C}{zl:Nat->Nat->Prop}{s:af}{a:Act}{w:World}{o:Oper}{K:af->Prop}
def Qo(h:St c G zl s a w){sz:Nat}{z:List X}{ty el:TypeId}{ii:TypeInfo}{v:Value}{x:AV}{x':Operand}(ho:o.op=.call {callee:=.builtin .clear,args:= #[x'],argTypes:= #[ty]})(hu:P.underlying ty=some (.slice el))(hi:P.info? el=some ii)(hz:ii.zero=some v)
  (Bi:jG v.cells.toList z=true)(hzs:z.length=sz)(h0:0<sz)(hd:o.dst=none)(hx:aG x' x=true)(hK:aI P (.qk sz z x) s K):Good P c o a w K:=by
 obtain⟨q,q1,q2,q3⟩:=bp h hx;simp only[aI] at hK;rw[<-q1] at hK;cases q with
 |cut vv r p lo hi'=>
  simp only[C.er] at hK;obtain⟨m,aW,A,len,cap,e,A',cap',hs,hv,hlo,hhi,hcap,gV,-,-⟩:=q3.rf;unfold look at hK;rw[<-h.inv.er,C.ep,hs] at hK;cases m with
  |own=>
   simp only[bM,C.er] at hK;obtain⟨rfl,hK⟩:=hK;obtain⟨zs,Z⟩:=vO w zl c.zb Bi;have hzl:zs.length=z.length:=by rw[<-Z.er];simp
   have hvs:v.cells.size=z.length:=by rw[<-hzl,<-vK,<-Z.val];simp
   have hok:=C.eO p hs (h.inv.ok r);have hin:∀b k,(C.row .own aW A len cap e).fp b k->(G r).fp b k:=λb k hf=>C.eu p hs (h.inv.ok r) hf;obtain⟨h1,h2,h3,h4,h5⟩:=hok;let e':Nat->Nat->C:=λi j=>if lo<=i/\i<hi' then zs.getD j (.dead undef) else e i j
   have he:∀i j,(lo<=i/\i<hi')->e' i j=zs.getD j (.dead undef):=λi j hh=>aA hh;have hne:∀i j,¬(lo<=i/\i<hi')->e' i j=e i j:=λi j hh=>aC hh;have tN:∀j,j<aW->zs.getD j (.dead undef)∈zs:=λj hj=>bO (by omega) _;have gZ:∀i j,i<len->j<aW->∀b k,(e i j).fp b k->(C.row .own aW A len cap e).fp b k:=λi j hi hj b k hf=>⟨rfl,.inr ⟨i,j,hi,hj,hf⟩⟩
   have oz:∀b k,(C.row .own aW A len cap e').fp b k->(C.row .own aW A len cap e).fp b k:=λb k hf=>by
    obtain⟨_,hA|⟨i,j,hi2,hj,hf⟩⟩:=hf;·exact⟨rfl,.inl hA⟩
    ·by_cases hh:lo<=i/\i<hi';·rw[he i j hh] at hf;exact((Z.all _ (tN j hj)).2.2 b k hf).elim
     ·rw[hne i j hh] at hf;exact gZ i j hi2 hj b k hf
   have run:∃w',(execOp a.eval o).run P w=.ok (.value (.tuple #[])) w'/\Ext (λb k=>∃o',A=some (b,o',none)) w w'/\∀i j,i<len->j<aW->∃g o',A=some (g,o',none)/\w'.cell? ⟨g,o'+i*aW+j,none⟩=some (e' i j).val:=by
    have jj:∀n' A2 c2 r w',a.eval x'=.slice A2 n' c2->(Builtin.clear_ #[ty] o.type #[.slice A2 n' c2]).run P w=.ok r w'->(execOp a.eval o).run P w=.ok (.value r) w':=by intro n' A2 c2 r w' hh hr;simp[execOp,ho,hh,resolve,invoke,builtin,hr]
    by_cases hn0:hi' - lo=0
    ·refine⟨w,?_,Ext.refl _ _,λi j jk hj=>?_⟩
     ·have tH:a.eval x'=.slice (Option.map (λq:Ad=>⟨q.1,q.2.1,q.2.2⟩) A') 0 cap':=by rw[<-q2,C.val,hv,hn0]
      refine jj _ _ _ _ _ tH ?_;cases A'<;>simp[Builtin.clear_,run_underlying hu]
     ·obtain⟨g,o',b1,b2,_⟩:=h2 i j jk hj;exact⟨g,o',b1,by rw[b2,hne i j (by omega)]⟩
    ·obtain⟨g,o',b1,_,_⟩:=h2 lo 0 (by omega) h0;have NM:A'=some (g,o'+lo*aW,none):=by rw[gV (by omega),b1,bM,kZ]
     have hall:∀i j,i<len->j<aW->w.cell? ⟨g,o'+i*aW+j,none⟩=some (e i j).val:=λi j jk hj=>by
      obtain⟨g2,o2,c1,c2,_⟩:=h2 i j jk hj;rw[b1] at c1;injection c1 with c1
      injection c1 with c3 c4
      injection c4 with c4
      subst c3;subst c4;exact c2
     have Oa:∀k,o'<=k->k<o'+cap*aW->w.frozen? ⟨g,k,none⟩=false:=by
      rcases h4 rfl with ⟨d1,_⟩|⟨g2,o2,arr,t,fz,d1,d2,d3,d4⟩;·rw[b1] at d1;cases d1
      ·rw[b1] at d1;injection d1 with d1
       injection d1 with d5 d6
       injection d6 with d6
       subst d5;subst d6;exact d4
     let vs:List Value:=(Builtin.zeroCells v.cells (hi' - lo)).toList;have hvl:vs.length=(hi' - lo)*aW:=by simp[vs,Builtin.zeroCells,hvs,hzs]
     have Gs:∀k (hk:k<vs.length),vs[k]=(zs.getD (k%aW) (.dead undef)).val:=by
      intro k hk;have hm:k%aW<zs.length:=by rw[hzl,hzs];exact r9 _ h0
      have hm2:k%aW<v.cells.size:=by omega
      have e1:vs[k]=v.cells[k%v.cells.size]!:=by simp[vs,Builtin.zeroCells]
      rw[e1,hvs,hzs,getElem!_pos v.cells (k%aW) hm2];have:=cK (λt:List Value=>t[k%aW]?) Z.val;simp only[cg] at this;rw[bH hm] at this;rw[gP,bH hm];simp only[bM,Array.getElem?_toList,zO hm2,cE] at this;exact this.symm
     have hidx:∀k,k<(hi' - lo)*aW->k / aW<hi' - lo/\k=k / aW*aW+k%aW:=λk hk=>by refine⟨(Nat.div_lt_iff_lt_mul h0).2 hk,?_⟩;have:=vL k aW;rw[l9] at this;omega
     have Gm:∀k,k<(hi' - lo)*aW->o'+lo*aW+k=o'+(lo+k / aW)*aW+k%aW:=λk hk=>by have:=(hidx k hk).2;rw[dx];omega
     have hsome:∀j,j<vs.length->(w.cell? ⟨g,o'+lo*aW+j,none⟩).isSome=true:=λj hj=>by rw[hvl] at hj;rw[Gm j hj,hall _ _ (by have:=(hidx j hj).1;omega) (r9 _ h0)];rfl
     have hst:=run_storeCells_cells (P:=P) g (o'+lo*aW) vs 0 w (by simpa using hsome) (λj hj=>by
      rw[hvl] at hj;refine Oa _ (by omega) ?_;rw[lZ,Gm j hj];have h7:=(hidx j hj).1;have h8:(lo+j / aW+1)*aW<=cap*aW:=j0 _ (by omega);have h9:=r9 j h0;rw[dx,zB] at h8;omega) (λu hu=>by
      obtain⟨k,hk,rfl⟩:=zR hu;rw[Gs k hk];exact Inv.mI (C.iT (Z.all _ (tN _ (r9 _ h0))).1))
     have hE:=Ext.setCells g vs (o'+lo*aW) w;have NS:=World.cell?_setCells_in g vs (o'+lo*aW) w hsome;simp only[lZ] at hst;refine⟨w.setCells g (o'+lo*aW) vs,?_,hE.mono λb k hh _=>⟨o',by rw[b1,hh.1]⟩,λi j jk hj=>⟨g,o',b1,?_⟩⟩
     ·have tH:a.eval x'=.slice (some ⟨g,o'+lo*aW,none⟩) (hi' - lo) cap':=by rw[<-q2,C.val,hv,NM];rfl
      refine jj _ _ _ _ _ tH ?_;obtain⟨m,hm⟩:∃m,hi' - lo=m+1:=⟨hi' - lo - 1,by omega⟩;have ON:∀w,(zeroValue el).run P w=.ok v w:=by intro w;simp[zeroValue,typeInfo,hi,hz]
      simp only[vs,hm] at hst⊢;simp[Builtin.clear_,run_underlying hu,ON,hst]
     ·by_cases hh:lo<=i/\i<hi'
      ·have hk:(i - lo)*aW+j<vs.length:=by rw[hvl];have:(i - lo+1)*aW<=(hi' - lo)*aW:=j0 _ (by omega);rw[dx,zB] at this;omega
       have:=NS _ hk;rw[Gs _ hk,Nat.mul_add_mod_self_right,Nat.mod_eq_of_lt hj] at this;have hq:lo*aW+(i - lo)*aW=i*aW:=by rw[<-dx];congr 1;omega
       rw[show o'+lo*aW+((i - lo)*aW+j)=o'+i*aW+j by omega] at this;rw[he i j hh];exact this
      ·rw[hne i j hh,World.cell?_setCells_out,hall i j jk hj];intro _ _;simp only;rw[hvl];by_cases hl:i<lo;·left;have:(i+1)*aW<=lo*aW:=j0 _ (by omega);rw[dx,zB] at this;omega
       ·right;have t1:hi'*aW<=i*aW:=j0 _ (by omega);have t2:lo*aW+(hi' - lo)*aW=hi'*aW:=by rw[<-dx];congr 1;omega
        omega
   obtain⟨w',hrun,hE,hcell⟩:=run;have mU:∀b k,(∃o',A=some (b,o',none))->(C.row .own aW A len cap e).fp b k:=λb k hh=>⟨rfl,.inl hh⟩;have F7:∀m b k,Zf zl c.zb m b k->¬(∃o',A=some (b,o',none)):=λm b k hz hh=>h.inv.sB r m b k hz (hin b k (mU b k hh))
   have Bj:(C.row .own aW A len cap e').ok w' (Zf zl c.zb):=by
    refine⟨h1,λi j jk hj=>?_,λi j jk hj=>?_,λhm=>?_,λi j jk hj b k hf=>?_⟩;·obtain⟨g,o',c1,c2⟩:=hcell i j jk hj;exact⟨g,o',c1,c2,λhm=>(hm rfl).elim⟩
    ·obtain⟨a1,a2,a3,a4⟩:=h3 i j jk hj;by_cases hh:lo<=i/\i<hi';·rw[he i j hh];obtain⟨b1,b2,b3⟩:=Z.all _ (tN j hj);exact⟨C.iT b1,C.uF b1,by cases hq:zs.getD j (.dead undef)<;>first|trivial|exact .inl rfl,C.dF hE F7 _ (λb k hf=>(b3 b k hf).elim) b2⟩
     ·rw[hne i j hh];exact⟨a1,a2,a3,C.dF hE F7 _ (λb k hf hS=>by obtain⟨o',hA⟩:=hS;exact(h5 i j jk hj b k hf).1 rfl o' hA) a4⟩
    ·rcases h4 hm with hh|⟨g,o',arr,t,fz,d1,d2,d3,d4⟩;·exact .inl hh
     ·have hg:g<w.heap.size:=(gQ.1 d2).1
      obtain⟨dP,lE,hs'⟩:∃dP,w'.heap[g]?=some (.cells dP t fz)/\dP.size=arr.size:=by
       rcases hE.block g hg with e'|⟨a1,a2,t',ji,q1,q2,q3,q4⟩;·exact⟨arr,e'.trans d2,rfl⟩
       ·rw[d2] at q1;injection q1 with q1
        injection q1 with b1 b2 b3
        subst b1;subst b2;subst b3;exact⟨a2,q2,q3⟩
      exact .inr ⟨g,o',dP,t,fz,d1,lE,by omega,λk k1 k2=>(hE.frozen hg).trans (d4 k k1 k2)⟩
    ·by_cases hh:lo<=i/\i<hi';·rw[he i j hh] at hf;exact((Z.all _ (tN j hj)).2.2 b k hf).elim
     ·rw[hne i j hh] at hf;obtain⟨a1,a2⟩:=h5 i j jk hj b k hf;refine⟨a1,λi' j' hi2 hj2 Bx hf'=>?_⟩;by_cases lE:lo<=i'/\i'<hi';·rw[he i' j' lE] at hf';exact(Z.all _ (tN j' hj2)).2.2 b k hf'
      ·rw[hne i' j' lE] at hf';exact a2 i' j' hi2 hj2 Bx hf'
   have hk0:=h.inv.de r p;have hs0:((G r).ak (C.belows r p)).sub p=some (C.row .own aW A len cap e):=C.fK _ p _ _ (h.inv.ok r) hs
   obtain⟨i1,i2,i3⟩:=hk0.Ah r p (λt=>C.en _ _) hs0 (C.dX.row .own .own aW A len cap e e') ⟨rfl,λh=>h,λh=>h,λh=>h,λm h=>h⟩ ⟨trivial,trivial⟩ hE (λb k hs=>.inl (mU b k hs)) Bj (λb k hz=>hz)
    (λb k hz=>⟨λhf=>(h.inv.fz r b k (hin b k (oz b k hf))).1 hz,iy (h.inv.bF b k (.inl hz)) hE.size,λt hf=>by rw[C.bK] at hf;exact((h.inv.fz t b k hf).1 hz).elim⟩) (λb k hf=>.inl (oz b k hf))
   have gX:(C.row .own aW A len cap e').er=.row .own aW (wN lo hi' z ((List.range len).map λi=>(List.range aW).map λj=>(e i j).er)):=by
    simp only[C.er,wN];congr 1;apply gy;intro i;rw[Ja,C.b8,C.b8];split
    ·simp only[bM,cE];by_cases hh:lo<=i/\i<hi';·rw[aA hh,<-Z.er,<-jr zs (.dead undef) C.er,hzl,hzs];exact bn λj _=>by rw[he i j hh]
     ·rw[aC hh];exact bn λj _=>by rw[hne i j hh]
    ·rfl
   rw[gX] at i1
   have hst:St c _ zl _ a w':=h.move i1 (λt=>(i2 t).trans (C.fL _ _)) hE (λb k hs=>h.tr.dom r b k (hin b k (mU b k hs))) (λt b k hf=>by
    rcases i3 t b k hf with hd|⟨hh,_⟩;·exact .inl ⟨r,hin b k (oz b k hd)⟩
    ·rw[C.bK] at hh;exact .inl ⟨t,hh⟩)
   exact⟨.tuple #[],w',.inl hrun,_,zl,_,hK,by rw[hd];exact hst⟩
  |sl=>exact hK.elim
  |ah=>exact hK.elim
 |_=>exact hK.elim
end
end M
namespace M
open Go Go.RowKit
variable [Bs]
section
variable {P:Program}{c:Ctx}{G:Nat->C}{zl:Nat->Nat->Prop}{s:af}{a:Act}{w:World}{o:Oper}{K:af->Prop}
def Cl{x:C}(hc:x.cell)(hs:x.bX):x.plain:=by cases x<;>first|exact hc|exact hs.elim|trivial
def s7{x:C}{m:Md}{z:Nat}{xs:List (List X)}(h:x.er=.row m z xs):∃A len cap e,x=.row m z A len cap e/\xs=cz z len e:=by
 cases x with
 |row m' z' A len cap e=>
  simp only[C.er] at h;injection h with h1 h2 h3
  subst h1;subst h2;exact⟨A,len,cap,e,rfl,h3.symm⟩
 |_=>simp[C.er] at h
def HI{z len:Nat}{e:Nat->Nat->C}(h:scalars (cz z len e)){i j:Nat}(hi:i<len)(hj:j<z):scalar (e i j).er=true:=
 h _ (aL.2 ⟨i,by simpa using hi,rfl⟩) _ (aL.2 ⟨j,by simpa using hj,rfl⟩)
def HJ{x:C}(h:scalar x.er=true):x.plain/\∀b k,¬x.fp b k:=by cases x<;>first|exact⟨trivial,λ_ _ h=>h⟩|(simp[C.er,scalar] at h)
def RJ{w:World}{zl zb:Nat->Nat->Prop}{G:Nat->C}{s:af}(h:Inv w zl zb G s){v:Value}{r:Nat}{p:Path}{lo hi:Nat}(hr:(C.cut v r p lo hi).rf G){z:Nat}{xs:List (List X)}(hl:look s r p=some (.row .own z xs)):
  ∃A' cap' e2 G',v=.slice (Option.map (λq:Ad=>⟨q.1,q.2.1,q.2.2⟩) A') (hi - lo) cap'/\((xs.take hi).drop lo)=cz z (hi - lo) e2/\(∀i j,i<hi - lo->j<z->∃g o,A'=some (g,o,none)/\w.cell? ⟨g,o+i*z+j,none⟩=some (e2 i j).val)/\
   (∀i j,i<hi - lo->j<z->(e2 i j).plain)/\aU w zl zb G (bQ (hi - lo) z e2).flatten G' (eX r p (.row .own z (wB lo hi xs)) s):=by
 obtain⟨m,sz,A,len,cap,e,A',cap',hs,hv,hlo,hhi,hcap,gV,-,-⟩:=hr;unfold look at hl;rw[<-h.er,C.ep,hs] at hl;simp only[bM,C.er,cE,X.row.injEq] at hl;obtain⟨rfl,rfl,rfl⟩:=hl;have hok:=C.eO p hs (h.ok r);have hin:∀b k,(C.row .own sz A len cap e).fp b k->(G r).fp b k:=λb k hf=>C.eu p hs (h.ok r) hf;obtain⟨h1,h2,h3,h4,h5⟩:=hok;let e':Nat->Nat->C:=λi j=>if lo<=i/\i<hi then .dead (e i j).val else e i j
 have he:∀i j,(lo<=i/\i<hi)->e' i j=.dead (e i j).val:=λi j hh=>aA hh;have hne:∀i j,¬(lo<=i/\i<hi)->e' i j=e i j:=λi j hh=>aC hh;have gZ:∀i j,i<len->j<sz->∀b k,(e i j).fp b k->(C.row .own sz A len cap e).fp b k:=λi j hi hj b k hf=>⟨rfl,.inr ⟨i,j,hi,hj,hf⟩⟩
 have oz:∀b k,(C.row .own sz A len cap e').fp b k->(C.row .own sz A len cap e).fp b k:=λb k hf=>by
  obtain⟨_,hA|⟨i,j,hi',hj,hf⟩⟩:=hf;·exact⟨rfl,.inl hA⟩
  ·by_cases hh:lo<=i/\i<hi;·rw[he i j hh] at hf;exact hf.elim
   ·rw[hne i j hh] at hf;exact gZ i j hi' hj b k hf
 have Bj:(C.row .own sz A len cap e').ok w (Zf zl zb):=by
  refine⟨h1,λi j hi' hj=>?_,λi j hi' hj=>?_,h4,λi j hi' hj b k hf=>?_⟩
  ·obtain⟨g,o,a1,a2,a3⟩:=h2 i j hi' hj;refine⟨g,o,a1,?_,a3⟩;rw[a2];by_cases hh:lo<=i/\i<hi;·rw[he i j hh];rfl
   ·rw[hne i j hh]
  ·obtain⟨a1,a2,a3,a4⟩:=h3 i j hi' hj;by_cases hh:lo<=i/\i<hi;·rw[he i j hh];exact⟨Inv.mI a1,trivial,trivial,trivial⟩
   ·rw[hne i j hh];exact⟨a1,a2,a3,a4⟩
  ·by_cases hh:lo<=i/\i<hi;·rw[he i j hh] at hf;exact hf.elim
   ·rw[hne i j hh] at hf;obtain⟨a1,a2⟩:=h5 i j hi' hj b k hf;refine⟨a1,λi' j' hi2 hj2 Bx hf'=>?_⟩;by_cases lE:lo<=i'/\i'<hi;·rw[he i' j' lE] at hf';exact hf'
    ·rw[hne i' j' lE] at hf';exact a2 i' j' hi2 hj2 Bx hf'
 have h0:=h.de r p;have hs0:((G r).ak (C.belows r p)).sub p=some (C.row .own sz A len cap e):=C.fK _ p _ _ (h.ok r) hs
 obtain⟨i1,i2,i3⟩:=h0.Ah r p (λt=>C.en _ _) hs0 (C.dX.row .own .own sz A len cap e e') ⟨rfl,λh=>h,λh=>h,λh=>h,λm h=>h⟩ ⟨trivial,trivial⟩ (Ext.refl (λ_ _=>False) w) (λb k hs=>hs.elim) Bj (λb k hz=>hz)
  (λb k hz=>⟨λhf=>(h.fz r b k (hin b k (oz b k hf))).1 hz,h.bF b k (.inl hz),λt hf=>by rw[C.bK] at hf;exact((h.fz t b k hf).1 hz).elim⟩) (λb k hf=>.inl (oz b k hf))
 have gX:(C.row .own sz A len cap e').er=.row .own sz (wB lo hi ((List.range len).map λi=>(List.range sz).map λj=>(e i j).er)):=by
  simp only[C.er,wB];congr 1;apply gy;intro i;rw[Ja,C.b8,C.b8];split
  ·simp only[bM,cE];by_cases hh:lo<=i/\i<hi;·rw[aA hh,bT];exact bn λj _=>by rw[he i j hh];rfl
   ·rw[aC hh];exact bn λj _=>by rw[hne i j hh]
  ·rfl
 rw[gX] at i1;have hmem:∀x∈(bQ (hi - lo) sz λi j=>e (i+lo) j).flatten,∃i j,i<hi - lo/\j<sz/\x=e (i+lo) j:=λx hx=>by obtain⟨i,j,hi',hj,rfl⟩:=jP hx;exact⟨i,j,hi',hj,rfl⟩
 have hlt:hi - lo≠0->A'=A.map λq=>fV (lo*sz) q:=λhne=>gV (by omega)
 have hrow:(((List.range len).map λi=>(List.range sz).map λj=>(e i j).er).take hi).drop lo=cz sz (hi - lo) λi j=>e (i+lo) j:=by
  unfold cz;rw[<-kW,<-jz,pR,jZ hhi];apply gy;intro i;rw[C.b8,cg,sy];by_cases hh:i<hi - lo;·rw[aA hh,nX (by omega),nT];rfl
  ·rw[aC hh,iz (by simp;omega)];rfl
 have NH:∀i j,i<hi - lo->j<sz->(e (i+lo) j).plain:=λi j hi' hj=>Cl (h3 (i+lo) j (by omega) hj).1 (h3 (i+lo) j (by omega) hj).2.1;refine⟨A',cap',λi j=>e (i+lo) j,_,hv,hrow,λi j hi' hj=>?_,NH,⟨i1,λx hx=>?_,?_,λt=>(i2 t).trans (C.fL _ _),λt b k hf=>?_⟩⟩;·obtain⟨g,o,a1,a2,a3⟩:=h2 (i+lo) j (by omega) hj;refine⟨g,o+lo*sz,by rw[hlt (by omega),a1,bM,kZ],?_⟩;rw[show o+lo*sz+i*sz+j=o+(i+lo)*sz+j by rw[dx];omega];exact a2
 ·obtain⟨i,j,hi',hj,rfl⟩:=hmem x hx;have hj2:i+lo<len:=by omega
  refine⟨(h3 (i+lo) j hj2 hj).2.2.2,λt b k hf hf'=>?_,λb k hf=>h.fz r b k (hin b k (gZ _ _ hj2 hj b k hf)),λb k hf=>⟨r,hin b k (gZ _ _ hj2 hj b k hf)⟩⟩;rcases i3 t b k hf' with hd|⟨_,hn⟩
  ·obtain⟨_,⟨o,hA⟩|⟨i',j',hi2,Oe,fH⟩⟩:=hd;·exact(h5 _ j hj2 hj b k hf).1 rfl o hA
   ·by_cases hh:lo<=i'/\i'<hi;·rw[he i' j' hh] at fH;exact fH
    ·rw[hne i' j' hh] at fH;refine(h5 _ j hj2 hj b k hf).2 i' j' hi2 Oe (λe=>hh ?_) fH;injection e with e1 e2
     omega
  ·exact hn (gZ _ _ hj2 hj b k hf)
 ·have hsub:(C.row .own sz (A.map λq=>fV (lo*sz) q) (hi - lo) (cap - lo) λi j=>e (i+lo) j).ok w (Zf zl zb):=(E2 ⟨h1,h2,h3,h4,h5⟩ hlo hhi (by omega) (by omega) (.inr rfl)).1;exact BV hsub
 ·by_cases ht:t=r
  ·subst ht;rcases i3 t b k hf with hd|⟨hh,_⟩;·exact hin b k (oz b k hd)
   ·rwa [C.bK] at hh
  ·rw[cm _ _ ht,C.bK] at hf;exact hf
def Qd(h:St c G zl s a w){d sz bytes:Nat}{tk:Tk}{ty ty' el wF:TypeId}{i:TypeInfo}{v:Value}{x y:AV}{x' y':Operand}
  (ho:o.op=.call {callee:=.builtin .append,args:= #[x',y'],argTypes:= #[ty,ty']})(hu:P.underlying ty=some (.slice el))(qF:P.underlying ty'=some (.slice wF))(hi:P.info? el=some i)(hz:i.zero=some v)(hsz:i.size=sz)(hb:i.bytes=bytes)(hb0:0<bytes)(h0:0<sz)(hvs:v.cells.size=sz)
  (hd:o.dst=some d)(hn:d<c.nt)(hx:aG x' x=true)(hy:aG y' y=true)(hK:aI P (.app d tk sz bytes x y) s K):Good P c o a w K:=by
 obtain⟨p,e1,e2,e3⟩:=bp h hx;obtain⟨y1,G1,f1,f2,f3,f4⟩:=lW .mv h.inv e3;simp only[aI] at hK;rw[e1] at f1 f4;rw[<-f1] at hK;have h1:=h.rX f4;have BG:=(f2.trans e2).symm;cases hE:y1.er with
 |row m z xs=>
  rw[hE] at hK;cases m with
  |own=>
   obtain⟨A,len,cap,e,rfl,rfl⟩:=s7 hE;obtain⟨rfl,hK⟩:=hK;obtain⟨q,q1,q2,q3⟩:=bp h1 hy;have hk1:∀i j,i<len->j<z->(e i j).plain:=λi j hi hj=>Cl (f4.ok.2.2.1 i j hi hj).1 (f4.ok.2.2.1 i j hi hj).2.1;have hxl:(cz z len e).length=len:=by simp[cz]
   have other:(∃ys,rowAt (take .mv (aj s x) s).2 (aj (take .mv (aj s x) s).2 y)=some (z,ys)/\((cz z len e).length+ys.length)*bytes<=140737488355328/\scalars ys/\K (put d (.row .own z (cz z len e++ys)) (take .mv (aj s x) s).2))->Good P c o a w K:=by
    rintro ⟨ys,k1,k2,k3,k4⟩;rw[<-q1] at k1;obtain⟨A2,m,cap2,e2,rfl,hv⟩:=Cx h1.inv q3 k1;have lH:(cz z m e2).length=m:=by simp[cz]
    refine Ab h (aU.one f4) ho hu qF hi hz hsz hb hb0 h0 hvs hd hn (ew.2 rfl) BG (by rw[<-q2];exact hv.val) (λi j hi hj=>hv.cell i j hi hj) (λi j hi hj=>?_) (mC λx hx=>?_) (by rw[hxl,lH] at k2;exact k2) hk1 k4;·obtain⟨s1,s2⟩:=HJ (HI k3 hi hj);exact⟨s1,(hv.O1 i j hi hj).2.2,λb k hf=>(s2 b k hf).elim⟩
    ·obtain⟨i,j,hi,hj,rfl⟩:=jP hx;exact(HJ (HI k3 hi hj)).2
   cases tk with
   |al=>exact other hK
   |aZ=>exact other hK
   |mv=>
    simp only at hK;by_cases hcut:∃v r p lo hi,q=.cut v r p lo hi
    ·obtain⟨vv,r,pp,lo,hi',rfl⟩:=hcut;rw[<-q1] at hK;simp only[C.er,cl] at hK;split at hK
     ·rename_i hh;split at hh
      ·rename_i z2 xs hl;simp only[X.row.injEq,true_and] at hh;obtain⟨rfl,rfl⟩:=hh;obtain⟨rfl,k2,k4⟩:=hK;obtain⟨A2,cap2,e3,G3,c1,c2,c3,c4,c5⟩:=RJ h1.inv q3.rf hl;rw[c2] at k2 k4;have lH:(cz z2 (hi' - lo) e3).length=hi' - lo:=by simp[cz]
       simp only[hl] at k4;refine Ab h (aU.cons f4 c5) ho hu qF hi hz hsz hb hb0 h0 hvs hd hn (bE ..) BG (A2:=A2) (m:=hi' - lo) (cap2:=cap2) (e2:=e3) (by rw[<-q2];exact c1) c3 (λi j hi hj=>?_) c5.apart (by rw[hxl,lH] at k2;exact k2) hk1 k4;have hm:e3 i j∈(bQ (hi' - lo) z2 e3).flatten:=zT.2 ⟨_,aL.2 ⟨i,by simpa using hi,rfl⟩,aL.2 ⟨j,by simpa using hj,rfl⟩⟩;refine⟨c4 i j hi hj,(c5.all _ hm).1,λb k hf=>⟨λhf'=>?_,_,bU _ hm,hf⟩⟩;obtain⟨t,ht⟩:=(c5.all _ hm).2.2.2 b k hf;exact f4.sep t b k hf' ht
      ·cases hh
     ·exact hK.elim
    have hte:cl q.er (take .mv (aj s x) s).2=take .mv q.er (take .mv (aj s x) s).2:=by
     cases q with
     |cut v r p lo hi=>exact(hcut ⟨v,r,p,lo,hi,rfl⟩).elim
     |_=>rfl
    rw[<-q1,hte,q1] at hK;obtain⟨y2,G2,g1,g2,g3,g4⟩:=lW .mv h1.inv q3;rw[q1] at g1 g4;rw[<-g1] at hK;cases Bd:y2.er with
    |row m2 z2 X0=>
     rw[Bd] at hK;cases m2 with
     |own=>
      obtain⟨A2,m,cap2,e2,rfl,rfl⟩:=s7 Bd;obtain⟨rfl,k2,k4⟩:=hK;have lH:(cz z2 m e2).length=m:=by simp[cz]
      obtain⟨r1,r2,r3,r4,r5⟩:=g4.ok;refine Ab h (aU.cons f4 (aU.one g4)) ho hu qF hi hz hsz hb hb0 h0 hvs hd hn (bE ..) BG (A2:=A2) (m:=m) (cap2:=cap2) (e2:=e2) (by rw[<-q2,<-g2];rfl) (λi j hi hj=>?_) (λi j hi hj=>?_) (BV g4.ok) (by rw[hxl,lH] at k2;exact k2) hk1 k4;·obtain⟨g,o2,a1,a2,_⟩:=r2 i j hi hj;exact⟨g,o2,a1,a2⟩
      ·obtain⟨a1,a2,a3,a4⟩:=r3 i j hi hj;refine⟨Cl a1 a2,a4,λb k hf=>?_⟩;have hin:(C.row .own z2 A2 m cap2 e2).fp b k:=C.gJ a1 a3 hi hj hf;refine⟨λhf'=>?_,_,bU _ (ew.2 rfl),hin⟩;obtain⟨t,ht⟩:=g4.dom b k hin;exact f4.sep t b k hf' ht
     |_=>exact hK.elim
    |_=>rw[Bd] at hK;exact hK.elim
  |_=>exact hK.elim
 |_=>rw[hE] at hK;exact hK.elim
end
end M
namespace M
open Go Go.RowKit
variable [Bs]
namespace X
def jR(m:Md){α:Type}(f:α->X):∀l:List α,cN m (l.map f)=l.map λa=>(f a).md m
 |[]=>rfl
 |a::l=>by simp only[aS,cN,jR m f l]
def xY(m:Md){α β:Type}(g:α->List β)(f:α->β->X):∀l:List α,bq m (l.map λa=>(g a).map (f a))=l.map λa=>(g a).map λb=>(f a b).md m
 |[]=>rfl
 |a::l=>by simp only[aS,bq,jR,xY m g f l]
end X
namespace C
def cC:C->C
 |.row _ sz A len cap e=>.row .ah sz A len cap λi j=>(e i j).cC
 |.ptr _ g o n c=>.ptr .ah g o n λj=>(c j).cC
 |.agg n c=>.agg n λj=>(c j).cC
 |.aq n c=>.aq n λj=>(c j).cC
 |.fn f n c=>.fn f n λj=>(c j).cC
 |.ref v _ _=>.dead v
 |.av v _ _ _ _=>.dead v
 |.cut v _ _ _ _=>.dead v
 |.dead v=>.dead v
 |.int k n=>.int k n
 |.bool b=>.bool b
 |.str s=>.str s
def nu:∀c:C,c.cC.er=c.er.md .ah
 |.row m sz A len cap e=>by simp only[cC,er,X.md];rw[X.xY .ah (λ_=>List.range sz) (λi j=>(e i j).er)];congr 1;exact bn λi _=>bn λj _=>nu (e i j)
 |.ptr m g o n c=>by simp only[cC,er,X.md,X.jR];congr 1;exact bn λj _=>nu (c j)
 |.agg n c=>by simp only[cC,er,X.md,X.jR];congr 1;exact bn λj _=>nu (c j)
 |.aq n c=>by simp only[cC,er,X.md,X.jR];congr 1;exact bn λj _=>nu (c j)
 |.fn f n c=>by simp only[cC,er,X.md,X.jR];congr 1;exact bn λj _=>nu (c j)
 |.ref _ _ _=>by simp only[cC,er,X.md]
 |.av _ _ _ _ _=>by simp only[cC,er,X.md]
 |.cut _ _ _ _ _=>by simp only[cC,er,X.md]
 |.dead _=>by simp only[cC,er,X.md]
 |.int _ _=>by simp only[cC,er,X.md]
 |.bool _=>by simp only[cC,er,X.md]
 |.str _=>by simp only[cC,er,X.md]
def oR:∀c:C,c.cC.val=c.val
 |.row m sz A len cap e=>rfl
 |.ptr m g o n c=>rfl
 |.agg n c=>by simp only[cC,val];congr 2;exact bn λj _=>oR (c j)
 |.aq n c=>by simp only[cC,val];congr 2;exact bn λj _=>oR (c j)
 |.fn f n c=>by simp only[cC,val];congr 2;exact bn λj _=>oR (c j)
 |.ref _ _ _=>rfl
 |.av _ _ _ _ _=>rfl
 |.cut _ _ _ _ _=>rfl
 |.dead _=>rfl
 |.int _ _=>rfl
 |.bool _=>rfl
 |.str _=>rfl
def uk:∀c:C,c.cC.bare
 |.row m sz A len cap e=>trivial
 |.ptr m g o n c=>λj _=>uk (c j)
 |.agg n c=>λj _=>uk (c j)
 |.aq n c=>λj _=>uk (c j)
 |.fn f n c=>λj _=>uk (c j)
 |.ref _ _ _=>trivial
 |.av _ _ _ _ _=>trivial
 |.cut _ _ _ _ _=>trivial
 |.dead _=>trivial
 |.int _ _=>trivial
 |.bool _=>trivial
 |.str _=>trivial
def lN:∀(c:C) (b k:Nat),¬c.cC.fp b k
 |.row m sz A len cap e,b,k=>λh=>by cases h.1
 |.ptr m g o n c,b,k=>λh=>by cases h.1
 |.agg n c,b,k=>λ⟨j,_,hf⟩=>lN (c j) b k hf
 |.aq n c,b,k=>λ⟨j,_,hf⟩=>lN (c j) b k hf
 |.fn f n c,b,k=>λh=>h
 |.ref _ _ _,b,k=>λh=>h
 |.av _ _ _ _ _,b,k=>λh=>h
 |.cut _ _ _ _ _,b,k=>λh=>h
 |.dead _,b,k=>λh=>h
 |.int _ _,b,k=>λh=>h
 |.bool _,b,k=>λh=>h
 |.str _,b,k=>λh=>h
def xZ{c:C}(h:c.cell):c.cC.cell:=by cases c<;>first|exact h|exact h.elim|trivial
def GR{c:C}(h:c.dV):c.cC.dV:=by cases c<;>first|exact h|exact h.elim|trivial
def Po{c:C}(h:c.bX):c.cC.bX:=by cases c<;>first|exact h|exact h.elim|trivial
def B7(c:C):c.cC.fits .ah:=by cases c<;>first|trivial|exact .inr (.inl rfl)
variable {w:World}{zl zb aQ:Nat->Nat->Prop}
def qT(hb:∀b k,zb b k->aQ b k):∀c:C,(∀b k,c.fp b k->aQ b k)->c.ok w (Zf zl zb)->c.cC.ok w (Zf zl aQ)
 |.row m sz A len cap e,hf,h=>by
  obtain⟨h1,h2,h3,h4,h5⟩:=h;refine⟨h1,λi j hi hj=>?_,λi j hi hj=>?_,λhm=>by (cases hm),λi j hi hj b k hh=>(lN _ b k hh).elim⟩
  ·obtain⟨g,o,hA,hc,hz⟩:=h2 i j hi hj;refine⟨g,o,hA,by rw[oR];exact hc,λ_=>?_⟩;cases m with
   |own=>exact .inr (hf _ _ ⟨rfl,.inl ⟨o,hA⟩⟩)
   |sl=>exact .inl (hz (by simp))
   |ah=>exact(hz (by simp)).imp id (hb _ _)
  ·obtain⟨a1,a2,a3,a4⟩:=h3 i j hi hj;exact⟨xZ a1,Po a2,B7 _,qT hb (e i j) (λb k hk=>hf b k (gJ a1 a3 hi hj hk)) a4⟩
 |.ptr m g o n c,hf,h=>by
  obtain⟨h1,h2,h3,h4⟩:=h;refine⟨λj hj=>?_,h2,λj hj=>?_,λj hj b k hh=>(lN _ b k hh).elim⟩
  ·obtain⟨a1,a2,a3⟩:=h1 j hj;refine⟨by rw[oR];exact a1,λ_=>?_,λhm=>by (cases hm)⟩;cases m with
   |own=>exact .inr (hf _ _ ⟨rfl,.inl ⟨rfl,by omega,by omega⟩⟩)
   |sl=>exact .inl (a2 (by simp))
   |ah=>exact(a2 (by simp)).imp id (hb _ _)
  ·obtain⟨a1,a2,a3⟩:=h3 j hj;exact⟨xZ a1,B7 _,qT hb (c j) (λb k hk=>hf b k (ia a1 a2 hj hk)) a3⟩
 |.agg n c,hf,h=>⟨λj hj=>⟨xZ (h.1 j hj).1,qT hb (c j) (λb k hk=>hf b k ⟨j,hj,hk⟩) (h.1 j hj).2⟩,λj hj b k hh=>(lN _ b k hh).elim⟩
 |.aq n c,hf,h=>⟨λj hj=>⟨GR (h.1 j hj).1,qT hb (c j) (λb k hk=>hf b k ⟨j,hj,hk⟩) (h.1 j hj).2⟩,λj hj b k hh=>(lN _ b k hh).elim⟩
 |.fn f n c,hf,h=>λj hj=>⟨qT hb (c j) (λb k hk=>((h j hj).2 b k hk).elim) (h j hj).1,λb k hh=>lN _ b k hh⟩
 |.ref _ _ _,_,_=>trivial
 |.av _ _ _ _ _,_,_=>trivial
 |.cut _ _ _ _ _,_,_=>trivial
 |.dead _,_,_=>trivial
 |.int _ _,_,_=>trivial
 |.bool _,_,_=>trivial
 |.str _,_,h=>h
end C
structure dO (w:World) (zl zb:Nat->Nat->Prop) (x:C):Prop where
 ok:x.ok w (Zf zl zb)
 bare:x.bare
 bV:∀b k,¬x.fp b k
section
variable {w:World}{zl zb aQ:Nat->Nat->Prop}{G:Nat->C}{s:af}
def B0(hb:∀b k,zb b k->aQ b k){y:C}(hy:y.ok w (Zf zl zb))(hf:∀b k,y.fp b k->aQ b k):dO w zl aQ y.cC:=⟨C.qT hb y hf hy,C.uk y,C.lN y⟩
def ua(v:Value):dO w zl aQ (.dead v):=⟨trivial,trivial,λ_ _ h=>h⟩
def yf(h:Inv w zl zb G s)(hb:∀b k,zb b k->aQ b k)(hG:∀t b k,(G t).fp b k->aQ b k){y:C}(hy:cQ w zl zb G y):∃x:C,x.er=iU s y.er/\x.val=y.val/\dO w zl aQ x/\(y.cell->x.cell)/\(y.dV->x.dV)/\x.fits .ah:=by
 have fM:iU s y.er=y.er.md .ah->∃x:C,x.er=iU s y.er/\x.val=y.val/\dO w zl aQ x/\(y.cell->x.cell)/\(y.dV->x.dV)/\x.fits .ah:=λe=>
  ⟨y.cC,by rw[C.nu,e],C.oR y,B0 hb hy.ok λb k hf=>(hy.bV b k hf).elim,C.xZ,C.GR,C.B7 _⟩
 cases y with
 |ref v r p=>
  obtain⟨y',z',hs,hF,hv,m,z1,A,len,cap,e,rfl⟩:=hy.rf;cases hF with
  |row m m' sz' A len cap e e'=>refine⟨(C.row m' z1 A len cap e').cC,?_,by rw[C.oR];exact hv,B0 hb (C.eO p hs (h.ok r)) λb k hf=>hG r b k (C.eu p hs (h.ok r) hf),λ_=>trivial,λ_=>trivial,.inr (.inl rfl)⟩;rw[C.nu];simp only[C.er,iU,look];rw[<-h.er,C.ep,hs];rfl
 |cut v r p lo hi=>
  obtain⟨m,sz,A,len,cap,e,A',cap',hs,hv,hlo,hhi,hcap,gV,-,-⟩:=hy.rf;have hok:=C.eO p hs (h.ok r);obtain⟨h1,h2,h3,h4,h5⟩:=(B0 hb hok λb k hf=>hG r b k (C.eu p hs (h.ok r) hf)).ok;refine⟨.row .ah sz A' (hi - lo) cap' λi j=>(e (i+lo) j).cC,?_,hv.symm,⟨⟨hcap,λi j hi' hj=>?_,λi j hi' hj=>h3 (i+lo) j (by omega) hj,λhm=>by (cases hm),λi j hi' hj b k hh=>(C.lN _ b k hh).elim⟩,trivial,λb k hh=>by cases hh.1⟩,λ_=>trivial,λ_=>trivial,.inr (.inl rfl)⟩;·simp only[C.er,iU,look];rw[<-h.er,C.ep,hs];simp only[bM,C.er,X.md];rw[<-kW,<-jz,pR,jZ hhi,kK,bT];show _=X.row .ah sz (X.bq .ah ((List.range (hi - lo)).map λi=>(List.range sz).map λj=>(e (i+lo) j).er));rw[X.xY .ah (λ_=>List.range sz) (λi j=>(e (i+lo) j).er) (List.range (hi - lo))];congr 1;exact bn λi _=>bn λj _=>C.nu _
  ·obtain⟨g,o,q1,q2,q3⟩:=h2 (i+lo) j (by omega) hj;refine⟨g,o+lo*sz,by rw[gV (by omega),q1,bM,kZ],?_,λhm=>?_⟩;·rw[show o+lo*sz+i*sz+j=o+(i+lo)*sz+j by rw[dx];omega];exact q2
   ·rw[show o+lo*sz+i*sz+j=o+(i+lo)*sz+j by rw[dx];omega];exact q3 hm
 |_=>exact fM rfl
def O4(h:Inv w zl zb G s){y:C}(hy:cQ w zl zb G y){cs:List X}(hc:dZ s y.er=some cs):∃g k,y.val=.pointer (some ⟨g,k,none⟩)/\∀j,j<cs.length->zl g (k+j)\/zb g (k+j)\/∃t,(G t).fp g (k+j):=by
 have zs:∀{m:Md} {b k:Nat},m≠.own->Zf zl zb m b k->zl b k\/zb b k\/∃t,(G t).fp b k:=λ{m b k} hm hz=>by
  cases m with
  |own=>exact(hm rfl).elim
  |sl=>exact .inl hz
  |ah=>exact hz.imp id .inl
 cases y with
 |ptr m g o n f=>
  simp only[C.er,dZ] at hc;injection hc with hc
  refine⟨g,o,rfl,λj hj=>?_⟩;have hj:j<n:=by rw[<-hc] at hj;simpa using hj
  obtain⟨h1,h2,h3,h4⟩:=hy.ok;by_cases hm:m=.own;·exact(hy.bV g (o+j) ⟨hm,.inl ⟨rfl,by omega,by omega⟩⟩).elim
  ·exact zs hm ((h1 j hj).2.1 hm)
 |av v r p i k0=>
  obtain⟨z,hz,hp⟩:=hy.rf;have nh:=C.eO p hz (h.ok r);simp only[C.er,dZ,look] at hc;rw[<-h.er,C.ep,hz] at hc;simp only[bM] at hc;rcases hp with ⟨m,sz,g,o,len,cap,e,rfl,rfl⟩|⟨m,g,o,n,f,rfl,rfl,rfl⟩
  ·simp only[C.er,C.b8] at hc;by_cases hi:i<len
   ·rw[aA hi] at hc;simp only[bM,cE] at hc;refine⟨g,o+i*sz+k0,rfl,λj hj=>?_⟩;have hj:k0+j<sz:=by rw[<-hc] at hj;rw[<-jz,kK,C.p8 r p i ((List.range (sz - k0)).map (· +k0)) k0 (λj=>e i j) (by simp)] at hj;simp at hj;omega
    by_cases hm:m=.own;·subst hm;exact .inr (.inr ⟨r,C.eu p hz (h.ok r) ⟨rfl,.inl ⟨o,rfl⟩⟩⟩)
    ·obtain⟨g',o',hA,hcell,oG⟩:=nh.2.1 i (k0+j) hi hj;injection hA with hA
     injection hA with e1 e2
     injection e2 with e2
     subst e1;subst e2;rw[nS];exact zs hm (oG hm)
   ·rw[aC hi] at hc;cases hc
  ·simp only[C.er,cE] at hc;refine⟨g,o+k0,rfl,λj hj=>?_⟩;have hj:k0+j<n:=by rw[<-hc] at hj;rw[<-jz,kK,C.p8 r p 0 ((List.range (n - k0)).map (· +k0)) k0 f (by simp)] at hj;simp at hj;omega
   by_cases hm:m=.own;·subst hm;exact .inr (.inr ⟨r,C.eu p hz (h.ok r) ⟨rfl,.inl ⟨rfl,by omega,by omega⟩⟩⟩)
   ·have:=(nh.1 (k0+j) hj).2.1 hm;rw[nS];exact zs hm this
 |_=>simp[C.er,dZ] at hc
def Cr(h:Inv w zl zb G s)(hb:∀b k,zb b k->aQ b k)(hG:∀t b k,(G t).fp b k->aQ b k):∀l:List C,(∀x∈l,cQ w zl zb G x/\x.cell)->∃l':List C,l'.map C.er=kL s (l.map C.er)/\l'.map C.val=l.map C.val/\∀x∈l',dO w zl aQ x/\x.cell/\x.fits .ah
 |[],hl=>⟨[],rfl,rfl,λ_ hx=>(by cases hx)⟩
 |y::l,hl=>by
  obtain⟨x,x1,x2,x3,x4,_,x6⟩:=yf h hb hG (hl y (bE ..)).1;obtain⟨l',l1,l2,l3⟩:=Cr h hb hG l λx hx=>hl x (bU _ hx);refine⟨x::l',by simp[kL,x1,l1],by simp[x2,l2],λz hz=>?_⟩;rcases bA.1 hz with rfl|hz;·exact⟨x3,x4 (hl y (bE ..)).2,x6⟩
  ·exact l3 z hz
def Hx(F:List X->List X)(hF:∀l:List C,(∀x∈l,cQ w zl zb G x/\x.cell)->∃l':List C,l'.map C.er=F (l.map C.er)/\l'.map C.val=l.map C.val/\∀x∈l',dO w zl aQ x/\x.cell/\x.fits .ah)(h:Inv w zl zb G s)(hb:∀b k,zb b k->aQ b k)(hG:∀t b k,(G t).fp b k->aQ b k){y:C}(hy:cQ w zl zb G y){cs:List X}(hc:dZ s y.er=some cs)(hne:cs≠[])(n:Nat)(hn:0<n):
  ∃x:C,x.er=.ptr .ah (F (cs.take n))/\x.val=y.val/\dO w zl aQ x:=by
 obtain⟨l,l1,⟨g,k,hv,hcell⟩,l3⟩:=GJ h hy hc;obtain⟨g',k',dw,hmem⟩:=O4 h hy hc;rw[hv] at dw;injection dw with dw;injection dw with dw;injection dw with e1 e2 e3
 subst e1;subst e2;have oA:l.length=cs.length:=by rw[<-l1];simp
 obtain⟨l',m1,m2,m3⟩:=hF (l.take n) λx hx=>l3 x (DM hx);have hl':l'.length=min n l.length:=by have:=cK List.length m2;simpa using this
 have hpos:0<l.length:=by rw[oA];exact List.length_pos_iff.2 hne
 refine⟨.ptr .ah g k l'.length λj=>l'.getD j (.dead undef),?_,hv.symm,⟨⟨λj hj=>⟨?_,λ_=>?_,λhm=>by (cases hm)⟩,?_,λj hj=>⟨(m3 _ (bO hj _)).2.1,(m3 _ (bO hj _)).2.2,(m3 _ (bO hj _)).1.ok⟩,λj hj b k hh=>((m3 _ (bO hj _)).1.bV b k hh).elim⟩,λj hj=>(m3 _ (bO hj _)).1.bare,λb k hh=>by cases hh.1⟩⟩;·simp only[C.er,jr];rw[m1,kW,l1]
 ·have hj':j<l.length:=by omega
  have oC:(l'.getD j (.dead undef)).val=(l[j]).val:=by have:=cK (λt:List Value=>t[j]?) m2;simp only[cg,bH hj,bM] at this;rw[DH (by omega),bH hj'] at this;rw[lz (bH hj)];simpa using this
  rw[oC];exact hcell j hj'
 ·rcases hmem j (by omega) with hz|hz|⟨t,ht⟩;·exact .inl hz
  ·exact .inr (hb _ _ hz)
  ·exact .inr (hG t _ _ ht)
 ·have:=hcell 0 hpos;rcases fA g w.heap.size with hg|hg;·exact hg
  ·simp[World.cell?,ja hg] at this
def Hy(h:Inv w zl zb G s)(hb:∀b k,zb b k->aQ b k)(hG:∀t b k,(G t).fp b k->aQ b k){y:C}(hy:cQ w zl zb G y){cs:List X}(hc:dZ s y.er=some cs)(hne:cs≠[])(n:Nat)(hn:0<n):
  ∃x:C,x.er=.ptr .ah (kL s (cs.take n))/\x.val=y.val/\dO w zl aQ x:=Hx (kL s) (Cr h hb hG) h hb hG hy hc hne n hn
def Q8(h:Inv w zl zb G s)(hb:∀b k,zb b k->aQ b k)(hG:∀t b k,(G t).fp b k->aQ b k){y:C}(hy:cQ w zl zb G y)(jl:y.cell):∃x:C,x.er=jT s y.er/\x.val=y.val/\dO w zl aQ x/\x.cell/\x.fits .ah:=by
 have fM:jT s y.er=iU s y.er->∃x:C,x.er=jT s y.er/\x.val=y.val/\dO w zl aQ x/\x.cell/\x.fits .ah:=λe=>by obtain⟨x,x1,x2,x3,x4,_,x6⟩:=yf h hb hG hy;exact⟨x,by rw[e,x1],x2,x3,x4 jl,x6⟩
 cases y with
 |av v r p i k=>
  have dead:jT s (C.av v r p i k).er=.dead->∃x:C,x.er=jT s (C.av v r p i k).er/\x.val=(C.av v r p i k).val/\dO w zl aQ x/\x.cell/\x.fits .ah:=λe=>⟨.dead v,e.symm,rfl,ua v,jl,trivial⟩;cases hc:dZ s (.av r p i k) with
  |none=>exact dead (by simp only[C.er,jT,hc])
  |some cs=>
   cases cs with
   |nil=>exact dead (by simp only[C.er,jT,hc])
   |cons a cs=>
    obtain⟨x,x1,x2,x3⟩:=Hy h hb hG hy hc (by simp) (a::cs).length (by simp);rw[r7] at x1;have he:jT s (C.av v r p i k).er=.ptr .ah (kL s (a::cs)):=by simp only[C.er,jT,hc]
    rw[he];refine⟨x,x1,x2,x3,?_,?_⟩;·cases x<;>first|trivial|(simp[C.er] at x1)
    ·cases x with
     |ptr m g o n f=>simp only[C.er,X.ptr.injEq] at x1;exact .inr (.inl x1.1)
     |_=>simp[C.er] at x1
 |_=>exact fM rfl
def Hw(h:Inv w zl zb G s)(hb:∀b k,zb b k->aQ b k)(hG:∀t b k,(G t).fp b k->aQ b k):∀l:List C,(∀x∈l,cQ w zl zb G x/\x.cell)->∃l':List C,l'.map C.er=rj s (l.map C.er)/\l'.map C.val=l.map C.val/\∀x∈l',dO w zl aQ x/\x.cell/\x.fits .ah
 |[],hl=>⟨[],rfl,rfl,λ_ hx=>(by cases hx)⟩
 |y::l,hl=>by
  obtain⟨x,x1,x2,x3⟩:=Q8 h hb hG (hl y (bE ..)).1 (hl y (bE ..)).2;obtain⟨l',l1,l2,l3⟩:=Hw h hb hG l λx hx=>hl x (bU _ hx);refine⟨x::l',by simp[rj,x1,l1],by simp[x2,l2],λz hz=>?_⟩;rcases bA.1 hz with rfl|hz;·exact x3
  ·exact l3 z hz
end
end M
namespace M
open Go Go.RowKit
variable [Bs]
section
variable {w:World}{zl zb aQ:Nat->Nat->Prop}{G:Nat->C}{s:af}
def Cq(h:Inv w zl zb G s)(hb:∀b k,zb b k->aQ b k)(hG:∀t b k,(G t).fp b k->aQ b k):∀l:List C,(∀x∈l,cQ w zl zb G x)->∃l':List C,l'.map C.er=iq s (l.map C.er)/\l'.map C.val=l.map C.val/\∀x∈l',dO w zl aQ x
 |[],hl=>⟨[],rfl,rfl,λ_ hx=>(by cases hx)⟩
 |y::l,hl=>by
  obtain⟨l',l1,l2,l3⟩:=Cq h hb hG l λx hx=>hl x (bU _ hx);have hy:=hl y (bE ..)
  have done:∀x:C,x.val=y.val->dO w zl aQ x->(iq s ((y::l).map C.er))=x.er::iq s (l.map C.er)->∃l':List C,l'.map C.er=iq s ((y::l).map C.er)/\l'.map C.val=(y::l).map C.val/\∀x∈l',dO w zl aQ x:=λx x1 x2 x3=>
   ⟨x::l',by rw[x3,aS,l1],by simp[x1,l2],λz hz=>(bA.1 hz).elim (λe=>e▸x2) (l3 z)⟩
  have fM:(iq s ((y::l).map C.er))=iU s y.er::iq s (l.map C.er)->∃l':List C,l'.map C.er=iq s ((y::l).map C.er)/\l'.map C.val=(y::l).map C.val/\∀x∈l',dO w zl aQ x:=λe=>by obtain⟨x,x1,x2,x3,_⟩:=yf h hb hG hy;exact done x x2 x3 (by rw[e,x1])
  cases y with
  |av v r p i k=>
   cases hc:dZ s (.av r p i k) with
   |none=>exact done (.dead v) rfl (ua v) (by simp only[aS,C.er,iq,hc])
   |some cs=>
    cases cs with
    |nil=>exact done (.dead v) rfl (ua v) (by simp only[aS,C.er,iq,hc])
    |cons a cs=>obtain⟨x,x1,x2,x3⟩:=Hx (rj s) (Hw h hb hG) h hb hG hy hc (by simp) (a::cs).length (by simp);refine done x x2 x3 ?_;rw[x1,r7];simp only[aS,C.er,iq,hc]
  |_=>exact fM rfl
def Ra(h:Inv w zl zb G s)(hb:∀b k,zb b k->aQ b k)(hG:∀t b k,(G t).fp b k->aQ b k){y:C}(hy:cQ w zl zb G y):∃x:C,x.er=res s y.er/\x.val=y.val/\dO w zl aQ x:=by
 have fM:res s y.er=iU s y.er->∃x:C,x.er=res s y.er/\x.val=y.val/\dO w zl aQ x:=λe=>by obtain⟨x,x1,x2,x3,_⟩:=yf h hb hG hy;exact⟨x,by rw[x1,e],x2,x3⟩
 cases y with
 |agg n f=>
  obtain⟨l',l1,l2,l3⟩:=Cr h hb hG ((List.range n).map f) λx hx=>by
   obtain⟨j,hj,rfl⟩:=aL.1 hx;have hj':j<n:=by simpa using hj
   exact⟨DY hy hj',(hy.ok.1 j hj').1⟩
  refine⟨eC l',?_,?_,⟨⟨λj hj=>⟨(l3 _ (bO hj _)).2.1,(l3 _ (bO hj _)).1.ok⟩,λj hj b k hf=>((l3 _ (bO hj _)).1.bV b k hf).elim⟩,λj hj=>(l3 _ (bO hj _)).1.bare,λb k hf=>?_⟩⟩;·rw[p7,l1,bT];rfl
  ·rw[sG,l2,bT];rfl
  ·obtain⟨x,hx,hf⟩:=(mA _ _ _).1 hf;exact(l3 x hx).1.bV b k hf
 |fn g n f=>
  obtain⟨l',l1,l2,l3⟩:=Cq h hb hG ((List.range n).map f) λx hx=>by
   obtain⟨j,hj,rfl⟩:=aL.1 hx;have hj':j<n:=by simpa using hj
   exact⟨(hy.ok j hj').1,hy.rf j hj',(hy.ok j hj').2⟩
  refine⟨.fn g l'.length λj=>l'.getD j (.dead undef),?_,?_,⟨λj hj=>⟨(l3 _ (bO hj _)).ok,(l3 _ (bO hj _)).bV⟩,λj hj=>(l3 _ (bO hj _)).bare,λb k hf=>hf⟩⟩;·show X.fn _ _=_;rw[jr l' _ C.er,l1,bT];rfl
  ·show Value.func _ _ _=_;rw[jr l' _ C.val,l2,bT];rfl
 |_=>exact fM rfl
def Q9(h:Inv w zl zb G s)(hb:∀b k,zb b k->aQ b k)(hG:∀t b k,(G t).fp b k->aQ b k){y:C}(hy:cQ w zl zb G y)(n:Nat)(hn:0<n):∃x:C,x.er=rq n s y.er/\x.val=y.val/\dO w zl aQ x:=by
 cases hc:dZ s y.er with
 |none=>exact⟨.dead y.val,by simp only[rq,hc,C.er],rfl,ua _⟩
 |some cs=>
  cases cs with
  |nil=>exact⟨.dead y.val,by simp only[rq,hc,C.er],rfl,ua _⟩
  |cons a cs=>obtain⟨x,x1,x2,x3⟩:=Hy h hb hG hy hc (by simp) n hn;exact⟨x,by rw[x1];simp only[rq,hc],x2,x3⟩
end
section
variable {P:Program}{c:Ctx}{G:Nat->C}{zl:Nat->Nat->Prop}{s:af}{a:Act}{w:World}{o:Oper}{K:af->Prop}
def eL:List Operand->List (AV×PM)->Bool
 |[],[]=>true
 |x'::l',(x,m)::l=>aG x' x && (match m with|.iE n=>decide (0<n)|.mut _=>(cH l).isNone|_=>true) && eL l' l
 |_,_=>false
def MV(a:Act):List Operand->List (AV×PM)->List C->Prop
 |[],[],[]=>True
 |x'::l',(_,.mv)::l,m::ms=>m.val=a.eval x'/\MV a l' l ms
 |_::l',(_,.ah)::l,_::ms=>MV a l' l ms
 |_::l',(_,.iE _)::l,_::ms=>MV a l' l ms
 |_::l',(_,.mut _)::l,_::ms=>MV a l' l ms
 |_,_,_=>False
def x7:∀{l':List Operand} {l:List (AV×PM)},eL l' l=true->∀{G:Nat->C} {s:af},St c G zl s a w->
  ∃ms G',ms.map C.er=(aX l s).1/\MV a l' l ms/\aU w zl c.zb G ms G' (aX l s).2
 |[],[],_,G,s,h=>⟨[],G,rfl,trivial,aU.nil h.inv⟩
 |x'::l',(x,pm)::l,hc,G,s,h=>by
  simp only[eL,au] at hc;have other:(aX ((x,pm)::l) s=(.dead::(aX l s).1,(aX l s).2))->(∀m ms,MV a l' l ms->MV a (x'::l') ((x,pm)::l) (m::ms))->∃ms G',ms.map C.er=(aX ((x,pm)::l) s).1/\MV a (x'::l') ((x,pm)::l) ms/\aU w zl c.zb G ms G' (aX ((x,pm)::l) s).2:=λe hm=>by obtain⟨ms,G',g1,g2,g3⟩:=x7 hc.2 h;rw[e];exact⟨.dead undef::ms,G',by simp[C.er,g1],hm _ _ g2,aU.cons (dA.self h.inv trivial trivial λ_ _ h=>h) g3⟩
  cases pm with
  |mv=>obtain⟨p,p1,p2,p3⟩:=bp h hc.1.1;obtain⟨y,G1,f1,f2,f3,f4⟩:=lW .mv h.inv p3;obtain⟨ms,G',g1,g2,g3⟩:=x7 hc.2 (h.rX f4);rw[p1] at f1 g1 g3 f4;exact⟨y::ms,G',by simp[aX,f1,g1],⟨by rw[f2,p2],g2⟩,aU.cons f4 g3⟩
  |ah=>exact other rfl λ_ _ h=>h
  |iE n=>exact other rfl λ_ _ h=>h
  | «mut» n=>exact other rfl λ_ _ h=>h
 |[],_::_,hc,_,_,_=>by cases hc
 |_::_,[],hc,_,_,_=>by cases hc
def vY{G2:Nat->C}{s2:af}{aQ:Nat->Nat->Prop}(h:St c G2 zl s2 a w)(hb:∀b k,c.zb b k->aQ b k)(hG:∀t b k,(G2 t).fp b k->aQ b k){y:C}(hy:y.ok w (Zf zl aQ))(xu:y.bare):∀{l':List Operand} {l:List (AV×PM)},eL l' l=true->∀{ms:List C},MV a l' l ms->
  (∀x∈ms,x.ok w (Zf zl aQ)/\x.bare/\∀b k,x.fp b k->¬y.fp b k)->(ms.Pairwise λa b=>∀x k,a.fp x k->¬b.fp x k)->(∀(i:Nat) (x:AV) (n:Nat) (x':Operand),l[i]?=some (x,PM.mut n)->l'[i]?=some x'->y.val=a.eval x')->
  ∃cs:List C,cs.map C.er=dY s2 y.er l (ms.map C.er)/\cs.map C.val=l'.map a.eval/\(∀x∈cs,x.ok w (Zf zl aQ)/\x.bare/\∀b k,x.fp b k->(∃m∈ms,m.fp b k)\/((cH l).isSome=true/\y.fp b k))/\cs.Pairwise λa b=>∀x k,a.fp x k->¬b.fp x k
 |[],[],_,[],_,_,_,_=>⟨[],rfl,rfl,λ_ hx=>(by cases hx),List.Pairwise.nil⟩
 |x'::l',(x,pm)::l,hc,[],hm,_,_,_=>by cases pm<;>exact hm.elim
 |x'::l',(x,pm)::l,hc,m::ms,hm,Bv,fJ,ku=>by
  simp only[eL,au] at hc;have qC:=ey.1 fJ;have ih:=λ(hm:MV a l' l ms)=>vY h hb hG hy xu hc.2 hm (λx hx=>Bv x (bU _ hx)) qC.2 (λi x n x' h1 h2=>ku (i+1) x n x' (by simpa using h1) (by simpa using h2))
  have GI:∀z:C,z.val=a.eval x'->dO w zl aQ z->MV a l' l ms->dY s2 y.er ((x,pm)::l) ((m::ms).map C.er)=z.er::dY s2 y.er l (ms.map C.er)->((cH l).isSome=true->(cH ((x,pm)::l)).isSome=true)->∃cs:List C,cs.map C.er=dY s2 y.er ((x,pm)::l) ((m::ms).map C.er)/\cs.map C.val=(x'::l').map a.eval/\
    (∀z∈cs,z.ok w (Zf zl aQ)/\z.bare/\∀b k,z.fp b k->(∃m'∈m::ms,m'.fp b k)\/((cH ((x,pm)::l)).isSome=true/\y.fp b k))/\cs.Pairwise λa b=>∀x k,a.fp x k->¬b.fp x k:=λz z1 z2 hm' he hmo=>by
   obtain⟨cs,c1,c2,c3,c4⟩:=ih hm';refine⟨z::cs,by rw[he,aS,c1],by simp[z1,c2],λu hu=>?_,ey.2 ⟨λu _ b k hf=>(z2.bV b k hf).elim,c4⟩⟩;rcases bA.1 hu with rfl|hu;·exact⟨z2.ok,z2.bare,λb k hf=>(z2.bV b k hf).elim⟩
   ·obtain⟨u1,u2,u3⟩:=c3 u hu;exact⟨u1,u2,λb k hf=>(u3 b k hf).imp (λ⟨m',hm',hf⟩=>⟨m',bU _ hm',hf⟩) λhh=>⟨hmo hh.1,hh.2⟩⟩
  obtain⟨p,p1,p2,p3⟩:=bp h hc.1.1;cases pm with
  |ah=>obtain⟨z,z1,z2,z3⟩:=Ra h.inv hb hG p3;rw[p1] at z1;exact GI z (by rw[z2,p2]) z3 hm (by simp only[aS,dY,z1]) λhh=>hh
  |iE n=>obtain⟨z,z1,z2,z3⟩:=Q9 h.inv hb hG p3 n (by simpa using hc.1.2);rw[p1] at z1;exact GI z (by rw[z2,p2]) z3 hm (by simp only[aS,dY,z1]) λhh=>hh
  |mv=>
   obtain⟨hv,hm⟩:=hm;obtain⟨cs,c1,c2,c3,c4⟩:=ih hm;obtain⟨m1,m2,m3⟩:=Bv m (bE ..);refine⟨m::cs,by simp only[aS,dY,c1],by simp[hv,c2],λu hu=>?_,ey.2 ⟨λu hu b k hf hf'=>?_,c4⟩⟩
   ·rcases bA.1 hu with rfl|hu;·exact⟨m1,m2,λb k hf=>.inl ⟨u,bE ..,hf⟩⟩
    ·obtain⟨u1,u2,u3⟩:=c3 u hu;exact⟨u1,u2,λb k hf=>(u3 b k hf).imp (λ⟨m',hm',hf⟩=>⟨m',bU _ hm',hf⟩) id⟩
   ·rcases(c3 u hu).2.2 b k hf' with ⟨m',hm',fH⟩|⟨_,fH⟩;·exact qC.1 m' hm' b k hf fH
    ·exact m3 b k hf fH
  | «mut» n=>
   obtain⟨cs,c1,c2,c3,c4⟩:=ih hm;have hno:cH l=none:=by simpa using hc.1.2
   have hv:=ku 0 x n x' rfl rfl;refine⟨y::cs,by simp only[aS,dY,c1],by simp[hv,c2],λu hu=>?_,ey.2 ⟨λu hu b k hf hf'=>?_,c4⟩⟩
   ·rcases bA.1 hu with rfl|hu;·exact⟨hy,xu,λb k hf=>.inr ⟨rfl,hf⟩⟩
    ·obtain⟨u1,u2,u3⟩:=c3 u hu;refine⟨u1,u2,λb k hf=>(u3 b k hf).imp (λ⟨m',hm',hf⟩=>⟨m',bU _ hm',hf⟩) λhh=>⟨rfl,hh.2⟩⟩
   ·rcases(c3 u hu).2.2 b k hf' with ⟨m',hm',fH⟩|⟨hh,_⟩;·exact(Bv m' (bU _ hm')).2.2 b k fH hf
    ·rw[hno] at hh;cases hh
 |[],_::_,hc,_,_,_,_,_=>by cases hc
 |_::_,[],hc,_,_,_,_,_=>by cases hc
 |[],[],_,_::_,hm,_,_,_=>hm.elim
def K9{G2:Nat->C}{s2:af}{aQ:Nat->Nat->Prop}(h:St c G2 zl s2 a w)(hb:∀b k,c.zb b k->aQ b k)(hG:∀t b k,(G2 t).fp b k->aQ b k){x:AV}{x':Operand}(hx:aG x' x=true){f:FuncId}{cs:List X}(he:aj s2 x=.fn f cs):
  ∃l:List C,l.map C.er=kf s2 (some x)/\a.eval x'=.func (.func f) #[] (l.map C.val).toArray/\∀x∈l,dO w zl aQ x:=by
 obtain⟨p,p1,p2,p3⟩:=bp h hx;rw[he] at p1;cases p with
 |fn g n fc=>
  simp only[C.er,X.fn.injEq] at p1;obtain⟨rfl,p1⟩:=p1
  obtain⟨l',l1,l2,l3⟩:=Cq h.inv hb hG ((List.range n).map fc) λx hx=>by
   obtain⟨j,hj,rfl⟩:=aL.1 hx;have hj':j<n:=by simpa using hj
   exact⟨(p3.ok j hj').1,p3.rf j hj',(p3.ok j hj').2⟩
  refine⟨l',?_,?_,l3⟩;·rw[l1,kf,he,<-p1,bT];rfl
  ·rw[<-p2,l2,bT];rfl
 |_=>simp[C.er] at p1
end
end M
namespace M
open Go Go.RowKit
variable [Bs]
def gC{l:List X}:X.clean.bC l=true↔∀x∈l,x.clean=true:=by
 induction l with
 |nil=>simp[X.clean.bC]
 |cons a l ih=>simp[X.clean.bC,ih]
def EV{l:List (List X)}:X.clean.aR l=true↔∀x∈l,∀y∈x,y.clean=true:=by
 induction l with
 |nil=>simp[X.clean.aR]
 |cons a l ih=>simp[X.clean.aR,ih,gC]
namespace C
def cO:C->C
 |.row _ sz A len cap e=>.row .sl sz A len cap λi j=>(e i j).cO
 |.ptr _ g o n c=>.ptr .sl g o n λj=>(c j).cO
 |.agg n c=>.agg n λj=>(c j).cO
 |.aq n c=>.aq n λj=>(c j).cO
 |.fn f n c=>.fn f n λj=>(c j).cO
 |.ref v _ _=>.dead v
 |.av v _ _ _ _=>.dead v
 |.cut v _ _ _ _=>.dead v
 |.dead v=>.dead v
 |.int k n=>.int k n
 |.bool b=>.bool b
 |.str s=>.str s
def qU:∀c:C,c.cO.er=c.er.md .sl
 |.row m sz A len cap e=>by simp only[cO,er,X.md];rw[X.xY .sl (λ_=>List.range sz) (λi j=>(e i j).er)];congr 1;exact bn λi _=>bn λj _=>qU (e i j)
 |.ptr m g o n c=>by simp only[cO,er,X.md,X.jR];congr 1;exact bn λj _=>qU (c j)
 |.agg n c=>by simp only[cO,er,X.md,X.jR];congr 1;exact bn λj _=>qU (c j)
 |.aq n c=>by simp only[cO,er,X.md,X.jR];congr 1;exact bn λj _=>qU (c j)
 |.fn f n c=>by simp only[cO,er,X.md,X.jR];congr 1;exact bn λj _=>qU (c j)
 |.ref _ _ _=>by simp only[cO,er,X.md]
 |.av _ _ _ _ _=>by simp only[cO,er,X.md]
 |.cut _ _ _ _ _=>by simp only[cO,er,X.md]
 |.dead _=>by simp only[cO,er,X.md]
 |.int _ _=>by simp only[cO,er,X.md]
 |.bool _=>by simp only[cO,er,X.md]
 |.str _=>by simp only[cO,er,X.md]
def qW:∀c:C,c.cO.val=c.val
 |.row m sz A len cap e=>rfl
 |.ptr m g o n c=>rfl
 |.agg n c=>by simp only[cO,val];congr 2;exact bn λj _=>qW (c j)
 |.aq n c=>by simp only[cO,val];congr 2;exact bn λj _=>qW (c j)
 |.fn f n c=>by simp only[cO,val];congr 2;exact bn λj _=>qW (c j)
 |.ref _ _ _=>rfl
 |.av _ _ _ _ _=>rfl
 |.cut _ _ _ _ _=>rfl
 |.dead _=>rfl
 |.int _ _=>rfl
 |.bool _=>rfl
 |.str _=>rfl
def nv:∀(c:C) (b k:Nat),¬c.cO.fp b k
 |.row m sz A len cap e,b,k=>λh=>by cases h.1
 |.ptr m g o n c,b,k=>λh=>by cases h.1
 |.agg n c,b,k=>λ⟨j,_,hf⟩=>nv (c j) b k hf
 |.aq n c,b,k=>λ⟨j,_,hf⟩=>nv (c j) b k hf
 |.fn f n c,b,k=>λh=>h
 |.ref _ _ _,b,k=>λh=>h
 |.av _ _ _ _ _,b,k=>λh=>h
 |.cut _ _ _ _ _,b,k=>λh=>h
 |.dead _,b,k=>λh=>h
 |.int _ _,b,k=>λh=>h
 |.bool _,b,k=>λh=>h
 |.str _,b,k=>λh=>h
def B8{c:C}(h:c.cell):c.cO.cell:=by cases c<;>first|exact h|exact h.elim|trivial
def Pp{c:C}(h:c.dV):c.cO.dV:=by cases c<;>first|exact h|exact h.elim|trivial
def Pr{c:C}(h:c.bX):c.cO.bX:=by cases c<;>first|exact h|exact h.elim|trivial
def GS(c:C):c.cO.fits .sl:=by cases c<;>first|trivial|exact .inr (.inl rfl)
def Pq{c:C}(h:c.plain):c.cO.plain:=by cases c<;>first|exact h|exact h.elim|trivial
variable {w:World}{zl ay zb:Nat->Nat->Prop}
def qV(hz:∀b k,zl b k->ay b k):∀c:C,c.er.clean=true->(∀b k,c.fp b k->ay b k)->c.ok w (Zf zl zb)->c.cO.ok w (Zf ay zb)
 |.row m sz A len cap e,hcl,hf,h=>by
  obtain⟨h1,h2,h3,h4,h5⟩:=h;simp only[er,X.clean,au] at hcl;refine⟨h1,λi j hi hj=>?_,λi j hi hj=>?_,λhm=>by (cases hm),λi j hi hj b k hh=>(nv _ b k hh).elim⟩
  ·obtain⟨g,o,hA,hc,oG⟩:=h2 i j hi hj;refine⟨g,o,hA,by rw[qW];exact hc,λ_=>?_⟩;cases m with
   |own=>exact hf _ _ ⟨rfl,.inl ⟨o,hA⟩⟩
   |sl=>exact hz _ _ (oG (by simp))
   |ah=>simp at hcl
  ·obtain⟨a1,a2,a3,a4⟩:=h3 i j hi hj;exact⟨B8 a1,Pr a2,GS _,qV hz (e i j) (EV.1 hcl.2 _ (aL.2 ⟨i,by simpa using hi,rfl⟩) _ (aL.2 ⟨j,by simpa using hj,rfl⟩)) (λb k hk=>hf b k (gJ a1 a3 hi hj hk)) a4⟩
 |.ptr m g o n c,hcl,hf,h=>by
  obtain⟨h1,h2,h3,h4⟩:=h;simp only[er,X.clean,au] at hcl;refine⟨λj hj=>?_,h2,λj hj=>?_,λj hj b k hh=>(nv _ b k hh).elim⟩
  ·obtain⟨a1,a2,a3⟩:=h1 j hj;refine⟨by rw[qW];exact a1,λ_=>?_,λhm=>by (cases hm)⟩;cases m with
   |own=>exact hf _ _ ⟨rfl,.inl ⟨rfl,by omega,by omega⟩⟩
   |sl=>exact hz _ _ (a2 (by simp))
   |ah=>simp at hcl
  ·obtain⟨a1,a2,a3⟩:=h3 j hj;exact⟨B8 a1,GS _,qV hz (c j) (gC.1 hcl.2 _ (aL.2 ⟨j,by simpa using hj,rfl⟩)) (λb k hk=>hf b k (ia a1 a2 hj hk)) a3⟩
 |.agg n c,hcl,hf,h=>by simp only[er,X.clean] at hcl;exact⟨λj hj=>⟨B8 (h.1 j hj).1,qV hz (c j) (gC.1 hcl _ (aL.2 ⟨j,by simpa using hj,rfl⟩)) (λb k hk=>hf b k ⟨j,hj,hk⟩) (h.1 j hj).2⟩,λj hj b k hh=>(nv _ b k hh).elim⟩
 |.aq n c,hcl,hf,h=>by simp only[er,X.clean] at hcl;exact⟨λj hj=>⟨Pp (h.1 j hj).1,qV hz (c j) (gC.1 hcl _ (aL.2 ⟨j,by simpa using hj,rfl⟩)) (λb k hk=>hf b k ⟨j,hj,hk⟩) (h.1 j hj).2⟩,λj hj b k hh=>(nv _ b k hh).elim⟩
 |.fn f n c,hcl,hf,h=>by simp only[er,X.clean] at hcl;exact λj hj=>⟨qV hz (c j) (gC.1 hcl _ (aL.2 ⟨j,by simpa using hj,rfl⟩)) (λb k hk=>((h j hj).2 b k hk).elim) (h j hj).1,λb k hh=>nv _ b k hh⟩
 |.ref _ _ _,_,_,_=>trivial
 |.av _ _ _ _ _,_,_,_=>trivial
 |.cut _ _ _ _ _,_,_,_=>trivial
 |.dead _,_,_,_=>trivial
 |.int _ _,_,_,_=>trivial
 |.bool _,_,_,_=>trivial
 |.str _,_,_,h=>h
end C
variable {w:World}{zl zb:Nat->Nat->Prop}{G:Nat->C}{s:af}
def Inv.more{ay:Nat->Nat->Prop}(h:Inv w zl zb G s)(h1:∀b k,zl b k->ay b k)(h2:∀b k,ay b k->(zl b k\/∀t,¬(G t).fp b k)/\b<w.heap.size):Inv w ay zb G s where
 er:=h.er
 ok:=λt=>C.eo (λm b k hz=>by
  cases m with
  |own=>exact hz
  |sl=>exact h1 b k hz
  |ah=>exact hz.imp (h1 b k) id) _ (h.ok t)
 sep:=h.sep
 fz:=λt b k hf=>⟨λhz=>by
  rcases(h2 b k hz).1 with hh|hh;·exact(h.fz t b k hf).1 hh
  ·exact hh t hf,(h.fz t b k hf).2⟩
 rf:=h.rf
 bF:=λb k hz=>hz.elim (λhz=>(h2 b k hz).2) λhz=>h.bF b k (.inr hz)
section
variable {P:Program}{c:Ctx}{a:Act}{o:Oper}{K:af->Prop}
def St.more{ay:Nat->Nat->Prop}(h:St c G zl s a w)(h1:∀b k,zl b k->ay b k)(h2:∀b k,ay b k->(zl b k\/∀t,¬(G t).fp b k)/\b<w.heap.size)(h3:∀b k,ay b k->zl b k\/c.F0 b k\/c.w0.heap.size<=b):St c G ay s a w where
 inv:=h.inv.more h1 h2
 val:=h.val
 size:=h.size
 small:=h.small
 defers:=h.defers
 tr:=⟨h.tr.ext,h.tr.dom,λb k hz=>h1 b k (h.tr.kX b k hz),λb k hz=>(h3 b k hz).elim (h.tr.zl b k) .inr,h.tr.gl,h.tr.tc⟩
 args:=h.args
def Hu{d:Nat}{v:Value}(hd:a.tmps.getD d undef=v)(hn:d<a.tmps.size):a.put (some d) v=a:=by
 unfold Act.put;simp only;congr 1;apply zI;intro i;by_cases e:d=i;·subst e;rw[IZ hn,<-hd,pV,zO hn];rfl
 ·rw[DN e]
def FL{d:Nat}{s':af}(h:St c G zl s a w)(hn:d<c.nt)(cs:List C)(hcs:∀x∈cs,sE w zl c.zb G x)(k:List C->C)(kx:List X->X)(hk:∀l:List C,l.length=cs.length->(k l).er=kx (l.map C.er))
  (hkv:∀l:List C,l.map C.val=cs.map C.val->(k l).val=a.tmps.getD d undef)(Og:∀{ay:Nat->Nat->Prop},∀l:List C,l.length=cs.length->(∀x∈l,x.plain/\x.ok w (Zf ay c.zb)/\∀b k,¬x.fp b k)->(k l).ok w (Zf ay c.zb)/\(∀b q,¬(k l).fp b q)/\∀G,(k l).rf G)
  (hg:wR d (cs.map C.er) kx s=some s'):∃G' ay,St c G' ay s' a w:=by
 obtain⟨l,G1,e1,e2,e3,e4,e5⟩:=vq cs G s h.inv hcs;unfold wR at hg;rw[<-e1] at hg;cases hcl:X.clean.bC (l.map C.er) with
 |false=>rw[hcl] at hg;cases hg
 |true=>
  rw[hcl,iY] at hg;have hlen:l.length=cs.length:=by have:=cK List.length e2;simpa using this
  let ay:Nat->Nat->Prop:=λb k=>zl b k\/∃y∈l,y.fp b k;have h1:St c G1 zl (aY (cs.map C.er) s).2 a w:=h.move e4.inv e4.val (Ext.refl (λ_ _=>False) w) (λ_ _ hs=>hs.elim) (λt b k hf=>.inl ⟨t,e4.mono t b k hf⟩)
  have h2:St c G1 ay (aY (cs.map C.er) s).2 a w:=h1.more (λb k hz=>.inl hz) (λb k hz=>by
   rcases hz with hz|⟨y,hy,hf⟩;·exact⟨.inl hz,h1.inv.bF b k (.inl hz)⟩
   ·exact⟨.inr λt=>(e4.all y hy).2.1 t b k hf,C.dD _ (e4.all y hy).1 b k hf⟩) (λb k hz=>by
   rcases hz with hz|⟨y,hy,hf⟩;·exact .inl hz
   ·obtain⟨t,ht⟩:=(e4.all y hy).2.2.2 b k hf;exact .inr (h.tr.dom t b k ht))
  let m:=l.map C.cO;have hml:m.length=cs.length:=by simp[m,hlen]
  have Ol:m.map C.er=X.cN .sl (l.map C.er):=by rw[X.jR];simp only[m,bT];exact bn λx _=>C.qU x
  have Gj:m.map C.val=cs.map C.val:=by rw[<-e2];simp only[m,bT];exact bn λx _=>C.qW x
  have hmem:∀x∈m,x.plain/\x.ok w (Zf ay c.zb)/\∀b k,¬x.fp b k:=λx hx=>by obtain⟨y,hy,rfl⟩:=aL.1 hx;exact⟨C.Pq (e3 y hy),C.qV (λb k hz=>.inl hz) y (gC.1 hcl _ (gR hy)) (λb k hf=>.inr ⟨y,hy,hf⟩) (e4.all y hy).1,C.nv y⟩
  rw[<-Ol] at hg;cases hb:jD (cs.map C.er) (m.map C.er) (aY (cs.map C.er) s).2 with
  |none=>rw[hb] at hg;cases hg
  |some s3=>
   rw[hb] at hg;simp only[bM,cE] at hg;subst hg;obtain⟨G2,g1,g2,g3⟩:=wg cs m h2.inv hml (λv r p hm=>e5 v r p ((hcs _ hm).weak v r p rfl)) (λi x y hx hy=>by have hy':=hmem y (me hy);refine⟨hy'.1,?_,hy'.2.1⟩;have:=cK (λt:List Value=>t[i]?) Gj;simpa [cg,hx,hy] using this) (λy hy=>⟨λt b k hf=>((hmem y hy).2.2 b k hf).elim,λb k hf=>((hmem y hy).2.2 b k hf).elim⟩) (mC λx hx=>(hmem x hx).2.2) hb
   have h3:St c G2 ay s3 a w:=h2.move g1 g2 (Ext.refl (λ_ _=>False) w) (λ_ _ hs=>hs.elim) (λt b k hf=>by
    rcases g3 t b k hf with hh|⟨y,hy,hh⟩;·exact .inl ⟨t,hh⟩
    ·exact((hmem y hy).2.2 b k hh).elim)
   obtain⟨o1,o2,o3⟩:=Og m hml hmem;obtain⟨G3,h4⟩:=h3.put hn o1 (λt _ b k hf=>(o2 b k hf).elim) (λb k hf=>(o2 b k hf).elim) (o3 G2) (λb k hf=>(o2 b k hf).elim);rw[hk m hml,Hu (hkv m Gj).symm (by rw[h.size];exact hn)] at h4;exact⟨G3,ay,h4⟩
def Nz{fz:Bool}{d:Nat}{s':af}(h:St c G zl s a w)(hn:d<c.nt)(hg:ghost fz d s=some s'):∃G' ay,St c G' ay s' a w:=by
 obtain⟨e1,e2,e3⟩:=Hg h d;have hd:d<base:=iy hn h.small;have hval:a.tmps.getD d undef=(G d).val:=(h.val d hd).symm;unfold ghost at hg;cases fz with
 |false=>
  obtain⟨y,G1,f1,f2,f3,f4⟩:=lW .mv h.inv e3;rw[e1] at f1 f4;have kA:y.val=a.tmps.getD d undef:=by rw[f2,e2,hval]
  simp only[mb,cE] at hg;subst hg;obtain⟨G2,h2⟩:=h.C5 f4 hn;rw[f1,Hu kA.symm (by rw[h.size];exact hn)] at h2;exact⟨G2,zl,h2⟩
 |true=>
  simp only[iY] at hg;rw[<-e1] at hg;cases hx:(G d).alias d [] with
  |agg n f=>
   rw[hx] at hg e2 e3;have er:(C.agg n f).er=.agg (((List.range n).map f).map C.er):=by simp only[C.er,bT];rfl
   rw[er] at hg;have hlen:((List.range n).map f).length=n:=by simp
   refine FL h hn ((List.range n).map f) (λx hx=>?_) eC .agg (λl _=>p7 l) (λl hl=>?_) (λl hl hm=>⟨⟨λj hj=>⟨C.iT (hm _ (bO hj _)).1,(hm _ (bO hj _)).2.1⟩,λj hj b q hf=>((hm _ (bO hj _)).2.2 b q hf).elim⟩,λb q hf=>?_,λG j hj=>C.kJ (hm _ (bO hj _)).1 G⟩) hg
   ·obtain⟨j,hj,rfl⟩:=aL.1 hx;have hj':j<n:=by simpa using hj
    exact⟨(e3.ok.1 j hj').1,(e3.ok.1 j hj').2,λb k hf=>e3.bV b k ⟨j,hj',hf⟩,λv r p e=>vB (by rw[<-e];exact e3.rf j hj')⟩
   ·rw[sG,hl,hval,<-e2];simp only[C.val,bT];rfl
   ·obtain⟨x,hx,hf⟩:=(mA _ _ _).1 hf;exact(hm x hx).2.2 b q hf
  |ref v r p=>
   rw[hx] at hg e2 e3;refine FL h hn [.ref v r p] (λx hx=>?_) (λl=>l.headD (.dead undef)) (λl=>l.headD .dead) (λl hl=>?_) (λl hl=>?_) (λl hl hm=>?_) hg;·obtain rfl:=ew.1 hx;exact⟨Cv e3.rf,trivial,λb k hf=>hf,λv' r' p' e=>by cases e;exact vB e3.rf⟩
   ·cases l with
    |nil=>simp at hl
    |cons x l=>rfl
   ·cases l with
    |nil=>simp at hl
    |cons x l=>
     have:x.val=v:=by have:=cK List.head? hl;simpa [C.val] using this
     show x.val=_;rw[this,hval,<-e2];rfl
   ·cases l with
    |nil=>simp at hl
    |cons x l=>obtain⟨a1,a2,a3⟩:=hm x (bE ..);exact⟨a2,a3,λG=>C.kJ a1 G⟩
  |_=>rw[hx] at hg;simp only[C.er,cE] at hg;subst hg;exact⟨G,zl,h⟩
def Qw(h:St c G zl s a w){d sz:Nat}{fz agg:Bool}{ty:TypeId}{x:AV}{x':Operand}(ho:o.op=.load ty x')(hsz:∃i,P.info? ty=some i/\i.size=sz)(jK:∃dd,P.underlying ty=some dd/\(match dd with|.struct _=>true|.array _ _=>true|_=>false)=agg)
  (h1:agg=true\/sz=1)(hd:o.dst=some d)(hn:d<c.nt)(hx:aG x' x=true)
  (hK:aI P (.oP d fz sz agg x) s K):cA P c o a w K:=by obtain⟨cs,k1,k2,s',k3,k4⟩:=hK;obtain⟨v,hr,G1,nZ,s1,q1,q2⟩:=He (K:=λt=>t=put d (bif agg then .agg (cs.take sz) else cs.headD .dead) s) h ho hsz jK h1 hd hn hx ⟨cs,k1,k2,rfl⟩;subst q1;obtain⟨G2,n7,h2⟩:=Nz q2 hn k3;exact⟨v,hr,G2,n7,s',k4,h2⟩
end
end M
namespace M
open Go Go.RowKit
variable [Bs]
section
variable {P:Program}{c:Ctx}{G:Nat->C}{zl:Nat->Nat->Prop}{s:af}{a:Act}{w:World}{o:Oper}{K:af->Prop}
def mw(P:Program)(c:Ctx)(o:Oper)(a:Act)(w:World)(K:af->Prop)(q:Bool):Prop:=
 ∃f args,(execOp a.eval o).run P w=.ok (.enter f args) w/\Calls P f args w λe w'=>∃v,e=.returned v/\Rel q w w'/\∃G' ay s',K s'/\St c G' ay s' (a.put o.dst v) w'
def Cy{f:FuncId}{fn:Func}(hf:P.funcs[f]?=some fn)(hname:(fn.name== "runtime.NumGoroutine")=false) (hb:fn.body.isNone=false) (args:Array Value) (w:World):(callFunc f args).run P w=.ok (.enter f args) w:=by simp only[callFunc,Sem.run_bind,run_program,Result.andThen_ok,hf,hname,hb,gx,iZ,Sem.run_pure]
def St.result{ay:Nat->Nat->Prop}(h:St c G ay s a w){x:C}(d:Option Nat)(hn:∀n,d=some n->n<c.nt)(hok:x.ok w (Zf ay λ_ _=>False))(hb:x.bare)(hsep:∀t b k,x.fp b k->¬(G t).fp b k)(hfz:∀b k,x.fp b k->¬ay b k/\¬c.zb b k)
  (hdom:∀b k,x.fp b k->c.F0 b k\/c.w0.heap.size<=b):∃G',St c G' ay (dN d x.er s) (a.put d x.val) w:=by
 cases d with
 |none=>exact⟨G,h⟩
 |some n=>
  refine h.put (hn n rfl) (C.eo (λm b k hz=>?_) _ hok) (λt _=>hsep t) hfz (C.mE G _ hb) hdom;cases m with
  |own=>exact hz
  |sl=>exact hz
  |ah=>exact hz.imp id λh=>h.elim
def St.after{ay:Nat->Nat->Prop}{w':World}{G1:Nat->C}{s1:af}{S:Nat->Nat->Prop}(h:St c G zl s a w)(hi:Inv w' ay c.zb G1 s1)(hv:∀t,(G1 t).val=(G t).val)(hE:Ext S w w')(hS:∀b k,S b k->∃t,(G t).fp b k)
  (hd:∀t b k,(G1 t).fp b k->(∃u,(G u).fp b k)\/w.heap.size<=b)(hz1:∀b k,zl b k->ay b k)(hz2:∀b k,ay b k->zl b k\/(∃t,(G t).fp b k)\/w.heap.size<=b):St c G1 ay s1 a w' where
 inv:=hi
 val:=λt ht=>(hv t).trans (h.val t ht)
 size:=h.size
 small:=h.small
 defers:=h.defers
 tr:=⟨h.tr.ext.trans hE (λb k hs hb=>by
   obtain⟨t,ht⟩:=hS b k hs;rcases h.tr.dom t b k ht with hh|hh;·exact hh
   ·omega),λt b k hf=>by
   rcases hd t b k hf with ⟨u,hu⟩|hb;·exact h.tr.dom u b k hu
   ·exact .inr (gv h.tr.ext.size hb),λb k hz=>hz1 b k (h.tr.kX b k hz),λb k hz=>by
   rcases hz2 b k hz with hz|⟨t,ht⟩|hb;·exact h.tr.zl b k hz
   ·exact .inr (h.tr.dom t b k ht)
   ·exact .inr (.inr (gv h.tr.ext.size hb)),h.tr.gl,h.tr.tc⟩
 args:=λi v hi=>(hv _).trans (h.args i v hi)
def St.Ba(h:St c G zl s a w)(aQ:Nat->Nat->Prop)(hz:∀b k,c.zb b k->aQ b k):vS w zl aQ:=λb hb=>by
 obtain⟨h1,h2⟩:=h.tr.gl b hb;refine⟨?_,λk=>(h2 k).imp (h.tr.kX b k) (hz b k)⟩;rw[<-h1]
 have hlt:b<c.w0.heap.size:=by
  rcases fA b c.w0.heap.size with h|h;·exact h
  ·rw[ja h] at h1;have:=Array.getElem?_eq_none_iff.1 h1.symm;omega
 rcases h.tr.ext.block b hlt with e|⟨arr,dP,t,fz,e1,e2,e3,e4⟩;·exact e
 ·have:dP=arr:=by apply zI;intro i;exact e4 i (h.tr.tc b i hb)
  rw[e1,e2,this]
def zi{G1:Nat->C}{s1:af}{l:List C}(h:St c G zl s a w)(hT:aU w zl c.zb G l G1 s1):St c G1 zl s1 a w:=
 h.move hT.inv hT.val (Ext.refl (λ_ _=>False) w) (λ_ _ hs=>hs.elim) (λt b k hf=>.inl ⟨t,hT.mono t b k hf⟩)
structure n8 (P:Program) (c:Ctx) (zl:Nat->Nat->Prop) (o:Oper) (a:Act) (w:World) (l':List Operand) (f:FuncId) (fv:Option AV):Prop where
 run:∃lg:List Value,(execOp a.eval o).run P w=.ok (.enter f ((l'.map a.eval)++lg).toArray) w/\
  ∀{G2:Nat->C} {s2:af} {aQ:Nat->Nat->Prop},St c G2 zl s2 a w->(∀b k,c.zb b k->aQ b k)->(∀t b k,(G2 t).fp b k->aQ b k)->mH s2 fv f->∃l:List C,l.map C.er=kf s2 fv/\l.map C.val=lg/\∀x∈l,dO w zl aQ x
def fN:List (AV×PM)->Bool
 |[]=>true
 |(_,.ah)::l=>fN l
 |(_,.iE _)::l=>fN l
 |_::_=>false
def B9:∀{l:List (AV×PM)} (s:af),fN l=true->∀x∈(aX l s).1,x=.dead
 |[],s,_,x,hx=>by cases hx
 |(_,.ah)::l,s,h,x,hx=>(bA.1 hx).elim id (B9 (l:=l) s h x)
 |(_,.iE _)::l,s,h,x,hx=>(bA.1 hx).elim id (B9 (l:=l) s h x)
 |(_,.mv)::l,s,h,x,hx=>by cases h
 |(_,.mut _)::l,s,h,x,hx=>by cases h
def qY:∀{l:List (AV×PM)},fN l=true->cH l=none
 |[],_=>rfl
 |(_,.ah)::l,h=>qY (l:=l) h
 |(_,.iE _)::l,h=>qY (l:=l) h
 |(_,.mv)::l,h=>by cases h
 |(_,.mut _)::l,h=>by cases h
def EM(q:Bool)(h:St c G zl s a w){l':List Operand}{as:List (AV×PM)}(hc:eL l' as=true)(hno:cH as=none){f:FuncId}{fv:Option AV}(hop:n8 P c zl o a w l' f fv)(hq:q=true->fN as=true)(hn:∀n,o.dst=some n->n<c.nt)(hK:oh P f o.dst as fv s K):mw P c o a w K q:=by
 obtain⟨k1,k2⟩:=hK;rw[hno] at k2;obtain⟨k2,k3⟩:=k2;obtain⟨ms,G1,g1,g2,hT⟩:=x7 hc h;obtain⟨lg,hrun,tq⟩:=hop.run;have h1:=zi h hT;rw[<-g1] at k1 k3;have gb:∀b k,c.zb b k->(c.zb b k\/∃t,(G1 t).fp b k):=λb k hz=>.inl hz;have ng:∀t b k,(G1 t).fp b k->(c.zb b k\/∃t,(G1 t).fp b k):=λt b k hf=>.inr ⟨t,hf⟩;obtain⟨l,l1,l2,l3⟩:=tq (aQ:=λb k=>c.zb b k\/∃t,(G1 t).fp b k) h1 gb ng k2
 have Om:∀x∈ms,x.ok w (Zf zl λb k=>c.zb b k\/∃t,(G1 t).fp b k)/\x.bare/\∀b k,x.fp b k->¬(C.dead undef).fp b k:=λx hx=>by
  refine⟨C.eo (λm b k hz=>?_) _ (hT.all x hx).1,(C.jc x).1 (C.p9.1 k1 _ (gR hx)),λ_ _ _ h=>h⟩;cases m with
  |own=>exact hz
  |sl=>exact hz
  |ah=>exact hz.imp id .inl
 obtain⟨cs,c1,c2,c3,c4⟩:=vY (aQ:=λb k=>c.zb b k\/∃t,(G1 t).fp b k) h1 gb ng (y:=.dead undef) trivial trivial hc g2 Om hT.apart (λi x n x' hi _=>by
  exfalso
  have:∀{l:List (AV×PM)} {i:Nat},l[i]?=some (x,PM.mut n)->cH l≠none:=by
   intro l;induction l with
   |nil=>intro i hi;simp at hi
   |cons p l ih=>
    intro i hi;obtain⟨y,pm⟩:=p;cases i with
    |zero=>simp only[sx,cE,gw] at hi;obtain⟨_,rfl⟩:=hi;simp[cH]
    |succ i=>have:=ih (by simpa using hi);cases pm<;>simp[cH]<;>first|exact this|skip
  exact this hi hno)
 have bu:∀x∈cs++l,∀b k,x.fp b k->∃m∈ms,m.fp b k:=λx hx b k hf=>by
  rcases dz.1 hx with hx|hx
  ·rcases(c3 x hx).2.2 b k hf with hh|hh;·exact hh
   ·exact hh.2.elim
  ·exact((l3 x hx).bV b k hf).elim
 have hA:mg w zl (λb k=>c.zb b k\/∃t,(G1 t).fp b k) (cs++l):={
  ok:=λx hx=>(dz.1 hx).elim (λhx=>(c3 x hx).1) λhx=>(l3 x hx).ok
  bare:=λx hx=>(dz.1 hx).elim (λhx=>(c3 x hx).2.1) λhx=>(l3 x hx).bare
  fz:=λx hx b k hf=>by obtain⟨m,hm,hf⟩:=bu x hx b k hf;exact⟨((hT.all m hm).2.2.1 b k hf).1,λhz=>hz.elim ((hT.all m hm).2.2.1 b k hf).2 λ⟨t,ht⟩=>(hT.all m hm).2.1 t b k hf ht⟩
  bF:=λb k hz=>by
   rcases hz with hz|hz|⟨t,ht⟩;·exact hT.inv.bF b k (.inl hz)
   ·exact hT.inv.bF b k (.inr hz)
   ·exact C.dD _ (hT.inv.ok t) b k ht
  apart:=vH.2 ⟨c4,mC λx hx=>(l3 x hx).bV,λx _ y hy b k _ hf=>(l3 y hy).bV b k hf⟩}
 have mW:=k3 w zl _ (cs++l) (by rw[jb,c1,l1];rfl) hA (h.Ba _ λb k hz=>.inl hz);have oF:(cs++l).map C.val=l'.map a.eval++lg:=by rw[jb,c2,l2]
 rw[oF] at mW;refine⟨f,_,hrun,mW.mono ?_⟩;rintro e w' ⟨r,ps,ay,hD,hk⟩;have hin:∀b k,ay b k->b<w'.heap.size:=λb k hz=>hD.all.bF b k (.inl hz);have hO:∀b k,(∃m∈ms,m.fp b k)->(∀t,¬(G1 t).fp b k)/\¬zl b k/\¬c.zb b k:=λb k ⟨m,hm,hf⟩=>⟨λt=>(hT.all m hm).2.1 t b k hf,(hT.all m hm).2.2.1 b k hf⟩;have iI:∀b k,(∃x∈cs++l,x.fp b k)->∃m∈ms,m.fp b k:=λb k ⟨x,hx,hf⟩=>bu x hx b k hf;have tM:∀b k,ay b k->zl b k\/(∃m∈ms,m.fp b k)\/w.heap.size<=b:=λb k hz=>(hD.n7 b k hz).imp id λhh=>hh.imp (iI b k) id
 have hi:=hT.inv.Ee hD.ext (λb k hs=>hO b k (iI b k hs)) hD.nZ (λb k hz=>⟨hin b k hz,λt hf=>by
  rcases tM b k hz with hz|hm|hb;·exact(hT.inv.fz t b k hf).1 hz
  ·exact(hO b k hm).1 t hf
  ·have:=C.dD _ (hT.inv.ok t) b k hf;omega⟩)
 have kr:∀b k,(∃m∈ms,m.fp b k)->∃t,(G t).fp b k:=λb k ⟨m,hm,hf⟩=>(hT.all m hm).2.2.2 b k hf;have h2:St c G1 ay (aX as s).2 a w':=h.after hi hT.val hD.ext (λb k hs=>kr b k (iI b k hs)) (λt b k hf=>.inl ⟨t,hT.mono t b k hf⟩) hD.nZ (λb k hz=>(tM b k hz).imp id λhh=>hh.imp (kr b k) id);have hrd:∀b k,r.fp b k->(∃m∈ms,m.fp b k)\/w.heap.size<=b:=λb k hf=>(hD.dom r (bE ..) b k hf).imp (iI b k) id
 obtain⟨G3,h3⟩:=h2.result (x:=r) o.dst hn (hD.all.ok r (bE ..)) (hD.all.bare r (bE ..)) (λt b k hf hf'=>by
   rcases hrd b k hf with hm|hb;·exact(hO b k hm).1 t hf'
   ·have:=C.dD _ (hT.inv.ok t) b k hf';omega) (λb k hf=>⟨(hD.all.fz r (bE ..) b k hf).1,λhz=>by
   rcases hrd b k hf with hm|hb;·exact(hO b k hm).2.2 hz
   ·have:=hT.inv.bF b k (.inr hz);omega⟩) (λb k hf=>by
   rcases hrd b k hf with hm|hb;·obtain⟨t,ht⟩:=kr b k hm;exact h.tr.dom t b k ht
   ·exact .inr (gv h.tr.ext.size hb))
 refine⟨r.val,hD.ends,λBD=>hD.ext.mono λb k hs _=>?_,G3,ay,_,hk,h3⟩;obtain⟨m,hm,hf⟩:=iI b k hs;have hd:=B9 s (hq BD) m.er (by rw[<-g1];exact gR hm);cases m<;>first|exact hf|(simp[C.er] at hd)
end
end M
namespace M
open Go Go.RowKit
variable [Bs]
structure cZ (w w':World) (zl ay zb:Nat->Nat->Prop) (G:Nat->C) (r:Nat) (p:Path) (D y q:C) (S M:Nat->Nat->Prop):Prop where
 sub:(G r).sub p=some D
 yD:∀b k,y.fp b k->D.fp b k
 ext:Ext S w w'
 nk:∀b k,S b k->M b k\/y.fp b k
 q7:∀b k,M b k->(∀t,¬(G t).fp b k)/\¬zl b k/\¬zb b k
 ye:q.ok w' (Zf ay zb)
 bare:q.bare
 val:q.val=y.val
 fp:∀b k,q.fp b k->S b k\/w.heap.size<=b
 qz:∀b k,q.fp b k->¬ay b k
 z1:∀b k,zl b k->ay b k
 z2:∀b k,ay b k->zl b k\/S b k\/w.heap.size<=b
 bF:∀b k,ay b k->b<w'.heap.size
section
variable {w w':World}{zl ay zb:Nat->Nat->Prop}{G:Nat->C}{s:af}{r:Nat}{p:Path}{D y q:C}{S M:Nat->Nat->Prop}
def cZ.DG(h:cZ w w' zl ay zb G r p D y q S M)(hi:Inv w zl zb G s){b k:Nat}(hf:D.fp b k):(G r).fp b k:=C.eu p h.sub (hi.ok r) hf
def cZ.notM(h:cZ w w' zl ay zb G r p D y q S M)(hi:Inv w zl zb G s){b k:Nat}(hf:D.fp b k):¬M b k:=λhm=>(h.q7 b k hm).1 r (h.DG hi hf)
def cZ.GX(h:cZ w w' zl ay zb G r p D y q S M)(hi:Inv w zl zb G s){b k:Nat}(hf:D.fp b k):¬w.heap.size<=b:=λhb=>by have:=C.dD _ (hi.ok r) b k (h.DG hi hf);omega
def cZ.qD(h:cZ w w' zl ay zb G r p D y q S M)(hi:Inv w zl zb G s){b k:Nat}(hq:q.fp b k)(hf:D.fp b k):y.fp b k:=by
 rcases h.fp b k hq with hs|hb;·exact(h.nk b k hs).resolve_left (h.notM hi hf)
 ·exact(h.GX hi hf hb).elim
def cZ.zD(h:cZ w w' zl ay zb G r p D y q S M)(hi:Inv w zl zb G s){b k:Nat}(hz:ay b k)(hf:D.fp b k):y.fp b k:=by
 rcases h.z2 b k hz with hz|hs|hb;·exact((hi.fz r b k (h.DG hi hf)).1 hz).elim
 ·exact(h.nk b k hs).resolve_left (h.notM hi hf)
 ·exact(h.GX hi hf hb).elim
def cZ.SD(h:cZ w w' zl ay zb G r p D y q S M)(hi:Inv w zl zb G s){b k:Nat}(hs:S b k)(hf:D.fp b k):y.fp b k:=(h.nk b k hs).resolve_left (h.notM hi hf)
def cZ.Z(h:cZ w w' zl ay zb G r p D y q S M)(hi:Inv w zl zb G s):∀m b k,Zf zl zb m b k->¬S b k:=λm b k hz hs=>by
 rcases h.nk b k hs with hm|hy
 ·obtain⟨_,a1,a2⟩:=h.q7 b k hm;cases m with
  |own=>exact hz
  |sl=>exact a1 hz
  |ah=>exact hz.elim a1 a2
 ·exact hi.sB r m b k hz (h.DG hi (h.yD b k hy))
def cZ.mono(h:cZ w w' zl ay zb G r p D y q S M):∀m b k,Zf zl zb m b k->Zf ay zb m b k:=λm b k hz=>by
 cases m with
 |own=>exact hz
 |sl=>exact h.z1 b k hz
 |ah=>exact hz.imp (h.z1 b k) id
def cZ.back(h:cZ w w' zl ay zb G r p D y q S M)(hi:Inv w zl zb G s){d0:C}(hok:d0.ok w' (Zf ay zb))(hF:C.dX D d0)(hl:C.eP D d0)(hrf:(d0.ak (C.belows r p)).rf λt=>(G t).ak (C.belows r p))(bu:∀b k,d0.fp b k->q.fp b k\/(D.fp b k/\¬y.fp b k))(hz:∀b k,d0.fp b k->¬ay b k):
  ∃G',Inv w' ay zb G' (eX r p d0.er s)/\(∀t,(G' t).val=(G t).val)/\∀t b k,(G' t).fp b k->q.fp b k\/((∃u,(G u).fp b k)/\¬y.fp b k):=by
 have h1:=hi.de r p;have hs1:((G r).ak (C.belows r p)).sub p=some (D.ak (C.belows r p)):=C.fK _ p _ _ (hi.ok r) h.sub;have tA:∀t b k,((G t).ak (C.belows r p)).fp b k↔(G t).fp b k:=λt b k=>C.bK _ _ b k
 have NP:C.dX (D.ak (C.belows r p)) (d0.ak (C.belows r p)):=by
  cases hF with
  |row=>exact .row ..
  |ptr=>exact .ptr ..
 have mX:C.eP (D.ak (C.belows r p)) (d0.ak (C.belows r p)):=by
  cases hF with
  |row m m' sz A len cap e e'=>exact⟨rfl,λh=>h,λh=>h,λh=>h,hl.fits⟩
  |ptr m m' g o n c c'=>exact⟨rfl,λh=>h,λh=>h,λh=>h,hl.fits⟩
 obtain⟨i1,i2,i3⟩:=h1.Ah r p (λt=>C.en _ _) hs1 NP mX ⟨hrf,C.en _ _⟩ h.ext (λb k hs=>by
   rcases h.nk b k hs with hm|hy;·obtain⟨a1,a2,a3⟩:=h.q7 b k hm;exact .inr ⟨λt hf=>a1 t ((tA t b k).1 hf),a2,a3⟩
   ·exact .inl ((C.bK _ D b k).2 (h.yD b k hy))) (C.jo _ _ hok) h.z1 (λb k oG=>⟨λhf=>hz b k ((C.bK _ d0 b k).1 hf) oG,h.bF b k oG,λt hf=>by
   refine(C.bK _ D b k).2 ?_;have hf:=(tA t b k).1 hf;rcases h.z2 b k oG with dR|hs|hb;·exact((hi.fz t b k hf).1 dR).elim
   ·rcases h.nk b k hs with hm|hy;·exact((h.q7 b k hm).1 t hf).elim
    ·exact h.yD b k hy
   ·have:=C.dD _ (hi.ok t) b k hf;omega⟩) (λb k hf=>by
   rcases(bu b k ((C.bK _ d0 b k).1 hf)).symm with hf|hf;·exact .inl ((C.bK _ D b k).2 hf.1)
   ·rcases h.fp b k hf with hs|hb
    ·rcases h.nk b k hs with hm|hy;·obtain⟨a1,a2,a3⟩:=h.q7 b k hm;exact .inr ⟨λt hf=>a1 t ((tA t b k).1 hf),a3⟩
     ·exact .inl ((C.bK _ D b k).2 (h.yD b k hy))
    ·exact .inr ⟨λt hf=>by have:=C.dD _ (hi.ok t) b k ((tA t b k).1 hf);omega,λhz=>by have:=hi.bF b k (.inr hz);omega⟩)
 rw[C.qQ] at i1;refine⟨_,i1,λt=>(i2 t).trans (C.fL _ _),λt b k hf=>?_⟩;rcases i3 t b k hf with hf|hf
 ·rcases bu b k ((C.bK _ d0 b k).1 hf) with hf|hf;·exact .inl hf
  ·exact .inr ⟨⟨r,h.DG hi hf.1⟩,hf.2⟩
 ·exact .inr ⟨⟨t,(tA t b k).1 hf.1⟩,λhy=>hf.2 ((C.bK _ D b k).2 (h.yD b k hy))⟩
end
end M
namespace M
open Go Go.RowKit
variable [Bs]
def HT{α:Type}(f g:Nat->α){nn c n:Nat}(h:c+n<=nn):((List.range nn).map λj=>if c<=j/\j<c+n then g (j - c) else f j)=((List.range nn).map f).take c++(List.range n).map g++((List.range nn).map f).drop (c+n):=by
 apply gy;intro i;rw[C.b8];have Gi:(((List.range nn).map f).take c).length=c:=by simp;omega
 have Bt:(((List.range nn).map f).take c++(List.range n).map g).length=c+n:=by rw[fT,Gi];simp
 by_cases h0:i<nn
 ·rw[aA h0];by_cases h1:i<c;·rw[aC (by omega),mc (by omega),mc (by omega),DH h1,C.b8,aA h0]
  ·by_cases h2:i<c+n;·rw[aA ⟨by omega,h2⟩,mc (by omega),jy (by omega),Gi,C.b8,aA (by omega)]
   ·rw[aC (by omega),jy (by omega),Bt,sy,C.b8,show c+n+(i - (c+n))=i by omega,aA h0]
 ·rw[aC h0,jy (by omega),Bt,sy,C.b8,aC (by omega)]
section
variable {w w':World}{zl ay zb:Nat->Nat->Prop}{G:Nat->C}{s:af}{r:Nat}{p:Path}{S M:Nat->Nat->Prop}
def cZ.ptr{g o nn n c:Nat}{f qf:Nat->C}(h:cZ w w' zl ay zb G r p (.ptr .own g o nn f) (.ptr .own g (o+c) n λj=>f (j+c)) (.ptr .own g (o+c) n qf) S M)(hi:Inv w zl zb G s)(hn:c+n<=nn):
  ∃G',Inv w' ay zb G' (eX r p (.ptr .own (((List.range nn).map λj=>(f j).er).take c++((List.range n).map λj=>(qf j).er)++((List.range nn).map λj=>(f j).er).drop (c+n))) s)/\(∀t,(G' t).val=(G t).val)/\∀t b k,(G' t).fp b k->(C.ptr .own g (o+c) n qf).fp b k\/((∃u,(G u).fp b k)/\¬(C.ptr .own g (o+c) n λj=>f (j+c)).fp b k):=by
 obtain⟨D1,D2,D3,D4⟩:=C.eO p h.sub (hi.ok r);obtain⟨q1,q2,q3,q4⟩:=h.ye;have jM:∀j,j<n->∀b k,(qf j).fp b k->(C.ptr .own g (o+c) n qf).fp b k:=λj hj b k hf=>C.ia (q3 j hj).1 (q3 j hj).2.1 hj hf;have jJ:∀j,j<nn->∀b k,(f j).fp b k->(C.ptr .own g o nn f).fp b k:=λj hj b k hf=>C.ia (D3 j hj).1 (D3 j hj).2.1 hj hf;have lC:∀k,o<=k->k<o+nn->(C.ptr .own g o nn f).fp g k:=λk h1 h2=>⟨rfl,.inl ⟨rfl,h1,h2⟩⟩
 have jl:∀k,o<=k->k<o+nn->(C.ptr .own g (o+c) n λj=>f (j+c)).fp g k->o+c<=k/\k<o+c+n:=λk h1 h2 ⟨_,hf⟩=>by
  rcases hf with hf|⟨j,hj,hf⟩;·exact hf.2
  ·exact((D4 (j+c) (by omega) g k hf).1 rfl ⟨rfl,h1,h2⟩).elim
 have jO:∀j,j<nn->¬(c<=j/\j<c+n)->∀b k,(f j).fp b k->¬(C.ptr .own g (o+c) n λj=>f (j+c)).fp b k:=λj hj hne b k hf ⟨_,hf'⟩=>by
  rcases hf' with hf'|⟨j',hj',hf'⟩;·exact(D4 j hj b k hf).1 rfl ⟨hf'.1,by omega,by omega⟩
  ·exact(D4 j hj b k hf).2 (j'+c) (by omega) (by omega) hf'
 let d:Nat->C:=λj=>if c<=j/\j<c+n then qf (j - c) else f j
 have e9:∀j,c<=j/\j<c+n->d j=qf (j - c):=λj hj=>aA hj;have fe:∀j,¬(c<=j/\j<c+n)->d j=f j:=λj hj=>aC hj
 have hok:(C.ptr .own g o nn d).ok w' (Zf ay zb):=by
  refine⟨λj hj=>⟨?_,λhm=>(hm rfl).elim,λ_=>(h.ext.frozen D2).trans ((D1 j hj).2.2 rfl)⟩,iy D2 h.ext.size,λj hj=>?_,λj hj b k hf=>⟨λ_ hb=>?_,λj' hj' hne=>?_⟩⟩
  ·by_cases hr:c<=j/\j<c+n;·rw[e9 j hr];have:=(q1 (j - c) (by omega)).1;rwa [show o+c+(j - c)=o+j by omega] at this
   ·rw[fe j hr];exact h.ext.cell (λhs=>hr (by have:=jl (o+j) (by omega) (by omega) (h.SD hi hs (lC _ (by omega) (by omega)));omega)) (D1 j hj).1
  ·by_cases hr:c<=j/\j<c+n;·rw[e9 j hr];obtain⟨a1,a2,a3⟩:=q3 (j - c) (by omega);exact⟨a1,a2,a3⟩
   ·rw[fe j hr];obtain⟨a1,a2,a3⟩:=D3 j hj;exact⟨a1,a2,C.eo h.mono _ (C.dF h.ext (h.Z hi) _ (λb k hf hs=>jO j hj hr b k hf (h.SD hi hs (jJ j hj b k hf))) a3)⟩
  ·obtain⟨rfl,ga,fF⟩:=hb;by_cases hr:c<=j/\j<c+n;·rw[e9 j hr] at hf;have:=jl k ga fF (h.qD hi (jM _ (by omega) _ _ hf) (lC k ga fF));exact(q4 (j - c) (by omega) _ k hf).1 rfl ⟨rfl,this.1,this.2⟩
   ·rw[fe j hr] at hf;exact(D4 j hj _ k hf).1 rfl ⟨rfl,ga,fF⟩
  ·by_cases hr:c<=j/\j<c+n
   ·rw[e9 j hr] at hf;by_cases hr':c<=j'/\j'<c+n;·rw[e9 j' hr'];exact(q4 (j - c) (by omega) b k hf).2 (j' - c) (by omega) (by omega)
    ·rw[fe j' hr'];exact λhf'=>jO j' hj' hr' b k hf' (h.qD hi (jM _ (by omega) _ _ hf) (jJ j' hj' b k hf'))
   ·rw[fe j hr] at hf;by_cases hr':c<=j'/\j'<c+n;·rw[e9 j' hr'];exact λhf'=>jO j hj hr b k hf (h.qD hi (jM _ (by omega) _ _ hf') (jJ j hj b k hf))
    ·rw[fe j' hr'];exact(D4 j hj b k hf).2 j' hj' hne
 have NN:=Inv.pL.vo p ((hi.de r p).ok r) (C.fK (C.belows r p) p _ _ (hi.ok r) h.sub) ((hi.de r p).rf r)
 obtain⟨G',i1,i2,i3⟩:=h.back hi (d0:=.ptr .own g o nn d) hok (.ptr ..) ⟨rfl,λh=>h,λh=>h,λh=>h,λ_ h=>h⟩ (λj hj=>by
   by_cases hr:c<=j/\j<c+n;·show ((d j).ak _).rf _;rw[e9 j hr];exact C.jS _ _ (C.mE _ _ (h.bare (j - c) (by omega)))
   ·show ((d j).ak _).rf _;rw[fe j hr];exact NN j hj) (λb k hf=>by
   obtain⟨_,hf|⟨j,hj,hf⟩⟩:=hf
   ·obtain⟨rfl,h1,h2⟩:=hf;by_cases hr:o+c<=k/\k<o+c+n;·exact .inl ⟨rfl,.inl ⟨rfl,hr.1,hr.2⟩⟩
    ·exact .inr ⟨lC k h1 h2,λhy=>hr (jl k h1 h2 hy)⟩
   ·by_cases hr:c<=j/\j<c+n;·rw[e9 j hr] at hf;exact .inl (jM _ (by omega) _ _ hf)
    ·rw[fe j hr] at hf;exact .inr ⟨jJ j hj b k hf,jO j hj hr b k hf⟩) (λb k hf hz=>by
   obtain⟨_,hf|⟨j,hj,hf⟩⟩:=hf;·obtain⟨rfl,h1,h2⟩:=hf;have:=jl k h1 h2 (h.zD hi hz (lC k h1 h2));exact h.qz _ k ⟨rfl,.inl ⟨rfl,this.1,this.2⟩⟩ hz
   ·by_cases hr:c<=j/\j<c+n;·rw[e9 j hr] at hf;exact h.qz b k (jM _ (by omega) _ _ hf) hz
    ·rw[fe j hr] at hf;exact jO j hj hr b k hf (h.zD hi hz (jJ j hj b k hf)))
 have gX:(C.ptr .own g o nn d).er=.ptr .own (((List.range nn).map λj=>(f j).er).take c++((List.range n).map λj=>(qf j).er)++((List.range nn).map λj=>(f j).er).drop (c+n)):=by rw[<-HT (λj=>(f j).er) (λj=>(qf j).er) hn];simp only[C.er];congr 1;refine bn λj _=>?_;show (if _ then _ else _:C).er=_;split<;>rfl
 rw[gX] at i1;exact⟨G',i1,i2,i3⟩
def cZ.row{z len cap:Nat}{A:Option Ad}{e qe:Nat->Nat->C}(h:cZ w w' zl ay zb G r p (.row .own z A len cap e) (.row .own z A len cap e) (.row .own z A len cap qe) S M)(hi:Inv w zl zb G s):
  ∃G',Inv w' ay zb G' (eX r p (.row .own z (cz z len qe)) s)/\(∀t,(G' t).val=(G t).val)/\∀t b k,(G' t).fp b k->(C.row .own z A len cap qe).fp b k\/((∃u,(G u).fp b k)/\¬(C.row .own z A len cap e).fp b k):=
 h.back hi (d0:=.row .own z A len cap qe) h.ye (.row ..) ⟨rfl,λh=>h,λh=>h,λh=>h,λ_ h=>h⟩ trivial (λb k hf=>.inl hf) (λb k hf=>h.qz b k hf)
def cZ.elem{z g o len cap n c i:Nat}{e:Nat->Nat->C}{qf:Nat->C}(h:cZ w w' zl ay zb G r p (.row .own z (some (g,o,none)) len cap e) (.ptr .own g (o+i*z+c) n λj=>e i (j+c)) (.ptr .own g (o+i*z+c) n qf) S M)(hi:Inv w zl zb G s)(tB:i<len)(hn:c+n<=z)(Ox:∀j,j<n->(qf j).bX):
  ∃G',Inv w' ay zb G' (eX r p (.row .own z ((cz z len e).set i (((List.range z).map λj=>(e i j).er).take c++((List.range n).map λj=>(qf j).er)++((List.range z).map λj=>(e i j).er).drop (c+n)))) s)/\(∀t,(G' t).val=(G t).val)/\∀t b k,(G' t).fp b k->(C.ptr .own g (o+i*z+c) n qf).fp b k\/((∃u,(G u).fp b k)/\¬(C.ptr .own g (o+i*z+c) n λj=>e i (j+c)).fp b k):=by
 obtain⟨D1,D2,D3,D4,D5⟩:=C.eO p h.sub (hi.ok r);obtain⟨q1,q2,q3,q4⟩:=h.ye;have jM:∀j,j<n->∀b k,(qf j).fp b k->(C.ptr .own g (o+i*z+c) n qf).fp b k:=λj hj b k hf=>C.ia (q3 j hj).1 (q3 j hj).2.1 hj hf;have jJ:∀i' j,i'<len->j<z->∀b k,(e i' j).fp b k->(C.row .own z (some (g,o,none)) len cap e).fp b k:=λi' j hi' hj b k hf=>C.gJ (D3 i' j hi' hj).1 (D3 i' j hi' hj).2.2.1 hi' hj hf;have lC:∀k,(C.row .own z (some (g,o,none)) len cap e).fp g k:=λk=>⟨rfl,.inl ⟨o,rfl⟩⟩
 have jl:∀k,(C.ptr .own g (o+i*z+c) n λj=>e i (j+c)).fp g k->o+i*z+c<=k/\k<o+i*z+c+n:=λk ⟨_,hf⟩=>by
  rcases hf with hf|⟨j,hj,hf⟩;·exact hf.2
  ·exact((D5 i (j+c) tB (by omega) g k hf).1 rfl o rfl).elim
 have jO:∀i' j,i'<len->j<z->¬(i'=i/\c<=j/\j<c+n)->∀b k,(e i' j).fp b k->¬(C.ptr .own g (o+i*z+c) n λj=>e i (j+c)).fp b k:=λi' j hi' hj hne b k hf ⟨_,hf'⟩=>by
  rcases hf' with hf'|⟨j',hj',hf'⟩;·exact(D5 i' j hi' hj b k hf).1 rfl o (by rw[hf'.1])
  ·exact(D5 i' j hi' hj b k hf).2 i (j'+c) tB (by omega) (λe=>by simp only[gw] at e;exact hne ⟨e.1,by omega,by omega⟩) hf'
 let d:Nat->Nat->C:=λi' j=>if i'=i/\c<=j/\j<c+n then qf (j - c) else e i' j
 have e9:∀i' j,i'=i/\c<=j/\j<c+n->d i' j=qf (j - c):=λi' j hj=>aA hj;have fe:∀i' j,¬(i'=i/\c<=j/\j<c+n)->d i' j=e i' j:=λi' j hj=>aC hj
 have hok:(C.row .own z (some (g,o,none)) len cap d).ok w' (Zf ay zb):=by
  refine⟨D1,λi' j hi' hj=>⟨g,o,rfl,?_,λhm=>(hm rfl).elim⟩,λi' j hi' hj=>?_,λ_=>?_,λi' j hi' hj b k hf=>⟨λ_ o' hA=>?_,λi2 j2 hi2 hj2 hne=>?_⟩⟩
  ·by_cases hr:i'=i/\c<=j/\j<c+n;·rw[e9 i' j hr];obtain⟨rfl,h1,h2⟩:=hr;have:=(q1 (j - c) (by omega)).1;rwa [show o+i'*z+c+(j - c)=o+i'*z+j by omega] at this
   ·rw[fe i' j hr];obtain⟨g',o',hA,hcl,_⟩:=D2 i' j hi' hj;injection hA with hA
    injection hA with e1 e2
    injection e2 with e2
    subst e1;subst e2;refine h.ext.cell (λhs=>hr ?_) hcl;have:=jl _ (h.SD hi hs (lC _));have hj0:o+i'*z+j - (o+i*z)<z:=by omega
    have:=Ck hj hj0 (show i'*z+j=i*z+(o+i'*z+j - (o+i*z)) by omega);exact⟨this.1,by omega,by omega⟩
  ·by_cases hr:i'=i/\c<=j/\j<c+n;·rw[e9 i' j hr];obtain⟨a1,a2,a3⟩:=q3 (j - c) (by omega);exact⟨a1,Ox _ (by omega),a2,a3⟩
   ·rw[fe i' j hr];obtain⟨a1,a2,a3,a4⟩:=D3 i' j hi' hj;exact⟨a1,a2,a3,C.eo h.mono _ (C.dF h.ext (h.Z hi) _ (λb k hf hs=>jO i' j hi' hj hr b k hf (h.SD hi hs (jJ i' j hi' hj b k hf))) a4)⟩
  ·rcases D4 rfl with ⟨hA,_⟩|⟨g',o',arr,t,fz,hA,hh,hsz,hfr⟩;·cases hA
   ·injection hA with hA
    injection hA with e1 e2
    injection e2 with e2
    subst e1;subst e2;have hg:g<w.heap.size:=(gQ.1 hh).1;rcases h.ext.block g hg with e'|⟨a1,a2,t',ji,r1,r2,r3,r4⟩;·exact .inr ⟨g,o,arr,t,fz,rfl,e'.trans hh,hsz,λk hk hk'=>(h.ext.frozen hg).trans (hfr k hk hk')⟩
    ·rw[hh] at r1;injection r1 with r1
     injection r1 with s1 s2 s3
     subst s1;exact .inr ⟨g,o,a2,t',ji,rfl,r2,by omega,λk hk hk'=>(h.ext.frozen hg).trans (hfr k hk hk')⟩
  ·injection hA with hA
   injection hA with e1 e2
   subst e1;by_cases hr:i'=i/\c<=j/\j<c+n;·rw[e9 i' j hr] at hf;have:=jl k (h.qD hi (jM _ (by omega) _ _ hf) (lC k));exact(q4 (j - c) (by omega) _ k hf).1 rfl ⟨rfl,this.1,this.2⟩
   ·rw[fe i' j hr] at hf;exact(D5 i' j hi' hj _ k hf).1 rfl o rfl
  ·by_cases hr:i'=i/\c<=j/\j<c+n
   ·rw[e9 i' j hr] at hf;by_cases hr':i2=i/\c<=j2/\j2<c+n;·rw[e9 i2 j2 hr'];exact(q4 (j - c) (by omega) b k hf).2 (j2 - c) (by omega) (λe=>hne (by simp only[gw];exact⟨by rw[hr.1,hr'.1],by omega⟩))
    ·rw[fe i2 j2 hr'];exact λhf'=>jO i2 j2 hi2 hj2 hr' b k hf' (h.qD hi (jM _ (by omega) _ _ hf) (jJ i2 j2 hi2 hj2 b k hf'))
   ·rw[fe i' j hr] at hf;by_cases hr':i2=i/\c<=j2/\j2<c+n;·rw[e9 i2 j2 hr'];exact λhf'=>jO i' j hi' hj hr b k hf (h.qD hi (jM _ (by omega) _ _ hf') (jJ i' j hi' hj b k hf))
    ·rw[fe i2 j2 hr'];exact(D5 i' j hi' hj b k hf).2 i2 j2 hi2 hj2 hne
 obtain⟨G',i1,i2,i3⟩:=h.back hi (d0:=.row .own z (some (g,o,none)) len cap d) hok (.row ..) ⟨rfl,λh=>h,λh=>h,λh=>h,λ_ h=>h⟩ trivial (λb k hf=>by
   obtain⟨_,hf|⟨i',j,hi',hj,hf⟩⟩:=hf
   ·obtain⟨o',hA⟩:=hf;injection hA with hA
    injection hA with e1 e2
    subst e1;by_cases hr:o+i*z+c<=k/\k<o+i*z+c+n;·exact .inl ⟨rfl,.inl ⟨rfl,hr.1,hr.2⟩⟩
    ·exact .inr ⟨lC k,λhy=>hr (jl k hy)⟩
   ·by_cases hr:i'=i/\c<=j/\j<c+n;·rw[e9 i' j hr] at hf;exact .inl (jM _ (by omega) _ _ hf)
    ·rw[fe i' j hr] at hf;exact .inr ⟨jJ i' j hi' hj b k hf,jO i' j hi' hj hr b k hf⟩) (λb k hf hz=>by
   obtain⟨_,⟨o',hA⟩|⟨i',j,hi',hj,hf⟩⟩:=hf
   ·injection hA with hA
    injection hA with e1 e2
    subst e1;have:=jl k (h.zD hi hz (lC k));exact h.qz _ k ⟨rfl,.inl ⟨rfl,this.1,this.2⟩⟩ hz
   ·by_cases hr:i'=i/\c<=j/\j<c+n;·rw[e9 i' j hr] at hf;exact h.qz b k (jM _ (by omega) _ _ hf) hz
    ·rw[fe i' j hr] at hf;exact jO i' j hi' hj hr b k hf (h.zD hi hz (jJ i' j hi' hj b k hf)))
 have gX:(C.row .own z (some (g,o,none)) len cap d).er=.row .own z ((cz z len e).set i (((List.range z).map λj=>(e i j).er).take c++((List.range n).map λj=>(qf j).er)++((List.range z).map λj=>(e i j).er).drop (c+n))):=by
  rw[<-HT (λj=>(e i j).er) (λj=>(qf j).er) hn];simp only[C.er];congr 1;symm;refine C.uf _ _ len i _ λi' hi'=>?_;split;·rename_i hii;subst hii;refine bn λj _=>?_;show (if _ then _ else _:C).er=_;simp only[true_and];split<;>rfl
  ·rename_i hii;refine bn λj _=>?_;show (if _ then _ else _:C).er=_;rw[aC (λhh=>hii hh.1)]
 rw[gX] at i1;exact⟨G',i1,i2,i3⟩
end
end M
namespace M
open Go Go.RowKit
variable [Bs]
section
variable {P:Program}{c:Ctx}{G:Nat->C}{zl:Nat->Nat->Prop}{s:af}{a:Act}{w:World}{o:Oper}{K:af->Prop}
def Cb:∀{l':List Operand} {l:List (AV×PM)} {x:AV} {n:Nat},eL l' l=true->cH l=some (x,n)->∃i x',l[i]?=some (x,PM.mut n)/\l'[i]?=some x'/\aG x' x=true/\(∀(j:Nat) (x2:AV) (n2:Nat),l[j]?=some (x2,PM.mut n2)->j=i)/\∀ps:List X,ig l ps=ps.getD i .dead
 |[],[],x,n,_,h=>by cases h
 |II::l',(x0,pm)::l,x,n,hc,h=>by
  simp only[eL,au] at hc
  have other:cH l=some (x,n)->(∀n2,pm≠PM.mut n2)->(∀(y:X) ps,ig ((x0,pm)::l) (y::ps)=ig l ps)->(ig ((x0,pm)::l) []=.dead)->∃i x',((x0,pm)::l)[i]?=some (x,PM.mut n)/\(II::l')[i]?=some x'/\aG x' x=true/\(∀(j:Nat) (x2:AV) (n2:Nat),((x0,pm)::l)[j]?=some (x2,PM.mut n2)->j=i)/\∀ps:List X,ig ((x0,pm)::l) ps=ps.getD i .dead:=λhm Ou h1 h2=>by
   obtain⟨i,x',i1,i2,i3,i4,i5⟩:=Cb hc.2 hm;refine⟨i+1,x',by simpa using i1,by simpa using i2,i3,λj x2 n2 hj=>?_,λps=>?_⟩
   ·cases j with
    |zero=>simp only[sx,cE,gw] at hj;exact(Ou n2 hj.2).elim
    |succ j=>rw[i4 j x2 n2 (by simpa using hj)]
   ·cases ps with
    |nil=>rw[h2];rfl
    |cons y ps=>rw[h1,i5];rfl
  cases pm with
  |mv=>exact other h (λ_ e=>by cases e) (λ_ _=>rfl) rfl
  |ah=>exact other h (λ_ e=>by cases e) (λ_ _=>rfl) rfl
  |iE m=>exact other h (λ_ e=>by cases e) (λ_ _=>rfl) rfl
  | «mut» m=>
   simp only[cH,cE,gw] at h;obtain⟨rfl,rfl⟩:=h;refine⟨0,II,rfl,rfl,hc.1.1,λj x2 n2 hj=>?_,λps=>?_⟩
   ·cases j with
    |zero=>rfl
    |succ j=>
     exfalso;have hno:cH l=none:=by simpa using hc.1.2
     have:∀{l:List (AV×PM)} {i:Nat},l[i]?=some (x2,PM.mut n2)->cH l≠none:=by
      intro l;induction l with
      |nil=>intro i hi;simp at hi
      |cons p l ih=>
       intro i hi;obtain⟨y,pm⟩:=p;cases i with
       |zero=>simp only[sx,cE,gw] at hi;obtain⟨_,rfl⟩:=hi;simp[cH]
       |succ i=>have:=ih (by simpa using hi);cases pm<;>simp[cH]<;>first|exact this|skip
     exact this (by simpa using hj) hno
   ·cases ps<;>rfl
 |[],_::_,_,_,hc,_=>by cases hc
 |_::_,[],_,_,hc,_=>by cases hc
def Cd(h:St c G zl s a w){l':List Operand}{as:List (AV×PM)}(hc:eL l' as=true){x:AV}{n:Nat}(ku:cH as=some (x,n)){f:FuncId}{fv:Option AV}(hop:n8 P c zl o a w l' f fv)(hn:∀n,o.dst=some n->n<c.nt)
  {ms:List C}{G1:Nat->C}{sm:af}(hT:aU w zl c.zb G ms G1 sm)(g2:MV a l' as ms)(hmb:∀m∈ms,m.bare){r:Nat}{p:Path}{D y:C}(hsub:(G1 r).sub p=some D)(lI:y.ok w (Zf zl c.zb))(xu:y.bare)(kA:∀(i:Nat) (x':Operand),as[i]?=some (x,PM.mut n)->l'[i]?=some x'->y.val=a.eval x')(BH:∀b k,y.fp b k->D.fp b k)
  (tq:mH (fu r p .dead sm) fv f){back:X->(af->Prop)->Prop}(hk:AC P f (dY (fu r p .dead sm) y.er as (ms.map C.er)++kf (fu r p .dead sm) fv) λq ps=>back (ig as ps) λs'=>K (dN o.dst q s'))
  (NW:∀{w':World} {ay:Nat->Nat->Prop} {S M:Nat->Nat->Prop} {q:C},cZ w w' zl ay c.zb G1 r p D y q S M->∀Kx,back q.er Kx->∃s',Kx s'/\∃G',Inv w' ay c.zb G' s'/\(∀t,(G' t).val=(G1 t).val)/\∀t b k,(G' t).fp b k->q.fp b k\/((∃u,(G1 u).fp b k)/\¬y.fp b k)):mw P c o a w K false:=by
 obtain⟨lg,hrun,NZ⟩:=hop.run;have h1:=zi h hT;obtain⟨D',G2,t1,t2,t3,t4,t5,t6,t7,t8,t9,t10,t11,t12⟩:=h1.inv.pL r p D hsub;have h2:St c G2 zl (fu r p .dead sm) a w:=h1.move t3 t10 (Ext.refl (λ_ _=>False) w) (λ_ _ hs=>hs.elim) (λt b k hf=>.inl ⟨t,t11 t b k hf⟩);have OL:∀b k,y.fp b k->∀t,¬(G2 t).fp b k:=λb k hf t=>t8 t b k ((t12 b k).2 (BH b k hf));have xq:∀b k,y.fp b k->(G1 r).fp b k:=λb k hf=>C.eu p hsub (hT.inv.ok r) (BH b k hf);have gb:∀b k,c.zb b k->(c.zb b k\/∃t,(G2 t).fp b k):=λb k hz=>.inl hz;have ng:∀t b k,(G2 t).fp b k->(c.zb b k\/∃t,(G2 t).fp b k):=λt b k hf=>.inr ⟨t,hf⟩;obtain⟨l,l1,l2,l3⟩:=NZ (aQ:=λb k=>c.zb b k\/∃t,(G2 t).fp b k) h2 gb ng tq
 have Gr:∀m b k,Zf zl c.zb m b k->Zf zl (λb k=>c.zb b k\/∃t,(G2 t).fp b k) m b k:=λm b k hz=>by
  cases m with
  |own=>exact hz
  |sl=>exact hz
  |ah=>exact hz.imp id .inl
 obtain⟨i,x',i1,i2,i3,i4,i5⟩:=Cb hc ku;have Gx:=kA i x' i1 i2
 obtain⟨cs,c1,c2,c3,c4⟩:=vY (aQ:=λb k=>c.zb b k\/∃t,(G2 t).fp b k) h2 gb ng (y:=y) (C.eo Gr _ lI) xu hc g2 (λx hx=>⟨C.eo Gr _ (hT.all x hx).1,hmb x hx,λb k hf hf'=>(hT.all x hx).2.1 r b k hf (xq b k hf')⟩) hT.apart (λj x2 n2 XZ hj hj'=>by
  have:=i4 j x2 n2 hj;subst this;rw[i2] at hj';injection hj' with hj'
  rw[<-hj'];exact Gx)
 have bu:∀x∈cs++l,∀b k,x.fp b k->(∃m∈ms,m.fp b k)\/y.fp b k:=λx hx b k hf=>by
  rcases dz.1 hx with hx|hx;·exact((c3 x hx).2.2 b k hf).imp id λhh=>hh.2
  ·exact((l3 x hx).bV b k hf).elim
 have hO:∀b k,(∃m∈ms,m.fp b k)->(∀t,¬(G1 t).fp b k)/\¬zl b k/\¬c.zb b k:=λb k ⟨m,hm,hf⟩=>⟨λt=>(hT.all m hm).2.1 t b k hf,(hT.all m hm).2.2.1 b k hf⟩
 have hA:mg w zl (λb k=>c.zb b k\/∃t,(G2 t).fp b k) (cs++l):={
  ok:=λx hx=>(dz.1 hx).elim (λhx=>(c3 x hx).1) λhx=>(l3 x hx).ok
  bare:=λx hx=>(dz.1 hx).elim (λhx=>(c3 x hx).2.1) λhx=>(l3 x hx).bare
  fz:=λx hx b k hf=>by
   rcases bu x hx b k hf with hm|hy;·obtain⟨a1,a2,a3⟩:=hO b k hm;exact⟨a2,λhz=>hz.elim a3 λ⟨t,ht⟩=>a1 t (t11 t b k ht)⟩
   ·have:=hT.inv.fz r b k (xq b k hy);exact⟨this.1,λhz=>hz.elim this.2 λ⟨t,ht⟩=>OL b k hy t ht⟩
  bF:=λb k hz=>by
   rcases hz with hz|hz|⟨t,ht⟩;·exact hT.inv.bF b k (.inl hz)
   ·exact hT.inv.bF b k (.inr hz)
   ·exact C.dD _ (t3.ok t) b k ht
  apart:=vH.2 ⟨c4,mC λx hx=>(l3 x hx).bV,λx _ y hy b k _ hf=>(l3 y hy).bV b k hf⟩}
 have mW:=hk w zl _ (cs++l) (by rw[jb,c1,l1]) hA (h.Ba _ λb k hz=>.inl hz);have oF:(cs++l).map C.val=l'.map a.eval++lg:=by rw[jb,c2,l2]
 rw[oF] at mW;refine⟨f,_,hrun,mW.mono ?_⟩;rintro e w' ⟨r0,ps,ay,hD,hkk⟩;have tB:i<ps.length:=by have h1:=cK List.length hD.vals;have h2:=cK List.length oF;simp only[cM,fT] at h1 h2;have h3:=(br.1 i2).1;omega
 have hq:ps[i]?=some ps[i]:=bH tB;have Gp:ps[i]∈ps:=dy tB
 have OA:(ps[i]).val=y.val:=by
  have:(ps.map C.val)[i]?=(l'.map a.eval++lg)[i]?:=by rw[hD.vals,oF]
  rw[cg,hq,mc (by simpa using (br.1 i2).1),cg,i2] at this;simp only[bM,cE] at this;rw[this,Gx]
 have hmp:ig as (ps.map C.er)=(ps[i]).er:=by rw[i5];exact lz (by rw[cg,hq];rfl) _
 rw[hmp] at hkk;have xm:=bU r0 Gp
 have F6:cZ w w' zl ay c.zb G1 r p D y ps[i] (λb k=>∃x∈cs++l,x.fp b k) (λb k=>∃m∈ms,m.fp b k):={
  sub:=hsub
  yD:=BH
  ext:=hD.ext
  nk:=λb k ⟨x,hx,hf⟩=>bu x hx b k hf
  q7:=hO
  ye:=C.eo (λm b k hz=>by
   cases m with
   |own=>exact hz
   |sl=>exact hz
   |ah=>exact hz.imp id λh=>h.elim) _ (hD.all.ok _ xm)
  bare:=hD.all.bare _ xm
  val:=OA
  fp:=λb k hf=>hD.dom _ xm b k hf
  qz:=λb k hf=>(hD.all.fz _ xm b k hf).1
  z1:=hD.nZ
  z2:=hD.n7
  bF:=λb k hz=>hD.all.bF b k (.inl hz)}
 obtain⟨s',hKs,G',j1,j2,j3⟩:=NW F6 _ hkk;have kr:∀b k,(∃m∈ms,m.fp b k)->∃t,(G t).fp b k:=λb k ⟨m,hm,hf⟩=>(hT.all m hm).2.2.2 b k hf
 have mU:∀b k,(∃x∈cs++l,x.fp b k)->∃t,(G t).fp b k:=λb k ⟨x,hx,hf⟩=>by
  rcases bu x hx b k hf with hm|hy;·exact kr b k hm
  ·exact⟨r,hT.mono r b k (xq b k hy)⟩
 have h3:St c G' ay s' a w':=h.after j1 (λt=>(j2 t).trans (hT.val t)) hD.ext mU (λt b k hf=>by
   rcases j3 t b k hf with hq|⟨⟨u,hu⟩,_⟩;·exact(F6.fp b k hq).imp (mU b k) id
   ·exact .inl ⟨u,hT.mono u b k hu⟩) hD.nZ (λb k hz=>(hD.n7 b k hz).imp id λhh=>hh.imp (mU b k) id)
 have hrm:=bE (a:=r0) (l:=ps)
 obtain⟨G3,h4⟩:=h3.result (x:=r0) o.dst hn (hD.all.ok r0 hrm) (hD.all.bare r0 hrm) (λt b k hf hf'=>by
   rcases j3 t b k hf' with hq|⟨⟨u,hu⟩,Oo⟩;·exact(ey.1 hD.all.apart).1 _ Gp b k hf hq
   ·rcases hD.dom r0 hrm b k hf with ⟨x,hx,hf⟩|hb
    ·rcases bu x hx b k hf with hm|hy;·exact(hO b k hm).1 u hu
     ·exact Oo hy
    ·have:=C.dD _ (hT.inv.ok u) b k hu;omega) (λb k hf=>⟨(hD.all.fz r0 hrm b k hf).1,λhz=>by
   rcases hD.dom r0 hrm b k hf with ⟨x,hx,hf⟩|hb
   ·rcases bu x hx b k hf with hm|hy;·exact(hO b k hm).2.2 hz
    ·exact(hT.inv.fz r b k (xq b k hy)).2 hz
   ·have:=hT.inv.bF b k (.inr hz);omega⟩) (λb k hf=>by
   rcases hD.dom r0 hrm b k hf with hs|hb;·obtain⟨t,ht⟩:=mU b k hs;exact h.tr.dom t b k ht
   ·exact .inr (gv h.tr.ext.size hb))
 exact⟨r0.val,hD.ends,(λh=>by cases h),G3,ay,_,hKs,h4⟩
end
end M
namespace M
open Go Go.RowKit
variable [Bs]
section
variable {P:Program}{c:Ctx}{G:Nat->C}{zl:Nat->Nat->Prop}{s:af}{a:Act}{w:World}{o:Oper}{K:af->Prop}
def AR{x:C}{m:Md}{xs:List X}(h:x.er=.ptr m xs):∃g o n f,x=.ptr m g o n f/\xs=(List.range n).map λj=>(f j).er:=by
 cases x with
 |ptr m' g o n f=>
  simp only[C.er] at h;injection h with h1 h2
  subst h1;exact⟨g,o,n,f,rfl,h2.symm⟩
 |_=>simp[C.er] at h
def Rh{m m':Md}{z z' len len' cap cap':Nat}{A A':Option Ad}{e e':Nat->Nat->C}(h:(C.row m z A len cap e).val=(C.row m' z' A' len' cap' e').val):A=A'/\len=len'/\cap=cap':=by
 simp only[C.val] at h;injection h with h1 h2 h3
 refine⟨?_,h2,h3⟩;cases A with
 |none=>cases A' with
  |none=>rfl
  |some q=>simp at h1
 |some q=>cases A' with
  |none=>simp at h1
  |some q'=>
   simp only[bM,cE,Addr.mk.injEq,and_true] at h1
   rw[show q=q' from Prod.ext h1.1 (Prod.ext h1.2.1 h1.2.2)]
def Ho(n:Nat)(f:Nat->C){k sz:Nat}(h:k+sz<=n):((List.range sz).map λj=>(f (j+k)).er)=(((List.range n).map λj=>(f j).er).drop k).take sz:=by rw[<-jz,kK,<-kW,<-kW,pR,jZ (by omega),bT];rfl
def EL(h:St c G zl s a w){l':List Operand}{as:List (AV×PM)}(hc:eL l' as=true){x:AV}{n:Nat}(ku:cH as=some (x,n)){f:FuncId}{fv:Option AV}(hop:n8 P c zl o a w l' f fv)(hn:∀n,o.dst=some n->n<c.nt)(hK:oh P f o.dst as fv s K):mw P c o a w K false:=by
 obtain⟨k1,k2⟩:=hK;rw[ku] at k2;simp only at k2;obtain⟨ms,G1,g1,g2,hT⟩:=x7 hc h;have h1:=zi h hT;rw[<-g1] at k1 k2;have hmb:∀m∈ms,m.bare:=λm hm=>(C.jc m).1 (C.p9.1 k1 _ (gR hm));obtain⟨i,x',i1,i2,i3,i4,i5⟩:=Cb hc ku;obtain⟨u,u1,u2,u3⟩:=bp h1 i3;rw[<-u1] at k2
 have hval:∀y:C,y.val=u.val->∀(j:Nat) (x2:Operand),as[j]?=some (x,PM.mut n)->l'[j]?=some x2->y.val=a.eval x2:=λy hy j x2 hj hj'=>by
  have:=i4 j x n hj;subst this;rw[i2] at hj';injection hj' with hj'
  rw[hy,u2,hj']
 cases u with
 |ref v r p=>
  obtain⟨y',z',hs,hF,hv,m,z1,A,len,cap,e,rfl⟩:=u3.rf;cases hF with
  |row m m' sz' A len cap e e'=>
   simp only[C.er,placeOf,qX] at k2;split at k2
   ·rename_i z xs hlk;obtain⟨k2,k3,k4⟩:=k2;simp only[look] at hlk;rw[<-h1.inv.er,C.ep,hs] at hlk;simp only[bM,cE] at hlk;obtain⟨A2,WI,cap2,e2,he,rfl⟩:=s7 hlk;injection he with b1 b2 b3 b4 b5 b6
    subst b1;subst b2;subst b3;subst b4;subst b5;subst b6;have hok:=C.eO p hs (h1.inv.ok r)
    refine Cd h hc ku hop hn hT g2 hmb hs (y:=.row .own z1 A len cap e') (back:=λy Kx=>match y with
     |.row .own z' ys=>z'=z1/\Kx (eX r p (.row .own z1 ys) (aX as s).2)
     |_=>False) hok trivial (hval _ hv) (λb k hf=>hf) k3 (by rw[hlk];exact k4) λ{w' ay S M q} hM Kx hb=>?_
    split at hb;·rename_i z' ys hq;obtain⟨rfl,hb⟩:=hb;obtain⟨A3,WJ,UK,e3,rfl,rfl⟩:=s7 hq;obtain⟨c1,c2,c3⟩:=Rh hM.val;subst c1;subst c2;subst c3;obtain⟨G',j1,j2,j3⟩:=hM.row h1.inv;exact⟨_,hb,G',j1,j2,j3⟩
    ·exact hb.elim
   ·exact k2.elim
 |av v r p i k=>
  obtain⟨D,hs,hp⟩:=u3.rf;have hok:=C.eO p hs (h1.inv.ok r);simp only[C.er,placeOf,qX] at k2;have hlk:look (aX as s).2 r p=some D.er:=by simp only[look];rw[<-h1.inv.er,C.ep,hs];rfl
  rw[hlk] at k2;rcases hp with ⟨m,z,g,o',len,cap,e,rfl,rfl⟩|⟨m,g,o',nn,f',rfl,rfl,rfl⟩
  ·simp only[C.er] at k2;cases m with
   |own=>
    simp only[C.b8] at k2;split at k2
    ·rename_i e0 iL;split at iL
     ·rename_i hi;injection iL with iL
      obtain⟨k0,k2,k3,k4⟩:=k2;have hkn:k+n<=z:=by rw[<-iL] at k0;simpa using k0
      obtain⟨D1,D2,D3,D4,D5⟩:=hok;have tK:(C.ptr .own g (o'+i*z+k) n λj=>e i (j+k)).er=.ptr .own ((e0.drop k).take n):=by rw[<-iL,<-Ho z (λj=>e i j) hkn];rfl
      have hfr:∀j,j<z->w.frozen? ⟨g,o'+i*z+j,none⟩=false/\g<w.heap.size:=λj hj=>by
       rcases D4 rfl with ⟨hA,_⟩|⟨g',o2,arr,t,fz,hA,hh,hsz,hfr⟩;·cases hA
       ·injection hA with hA
        injection hA with e1 e2
        injection e2 with e2
        subst e1;subst e2;refine⟨hfr _ (by omega) ?_,(gQ.1 hh).1⟩;have:(i+1)*z<=cap*z:=j0 _ (by omega);rw[dx] at this;omega
      have jL:g<w.heap.size:=by
       rcases D4 rfl with ⟨hA,_⟩|⟨g',o2,arr,t,fz,hA,hh,hsz,hfr⟩;·cases hA
       ·injection hA with hA
        injection hA with e1 e2
        subst e1;exact(gQ.1 hh).1
      have lI:(C.ptr .own g (o'+i*z+k) n λj=>e i (j+k)).ok w (Zf zl c.zb):=by
       refine⟨λj hj=>⟨?_,λhm=>(hm rfl).elim,λ_=>?_⟩,jL,λj hj=>?_,λj hj b k' hf=>⟨λ_ hb=>?_,λj' hj' hne=>?_⟩⟩
       ·obtain⟨g',o2,hA,hcl,_⟩:=D2 i (j+k) hi (by omega);injection hA with hA
        injection hA with e1 e2
        injection e2 with e2
        subst e1;subst e2;rw[show o'+i*z+k+j=o'+i*z+(j+k) by omega];exact hcl
       ·rw[show o'+i*z+k+j=o'+i*z+(j+k) by omega];exact(hfr (j+k) (by omega)).1
       ·obtain⟨a1,a2,a3,a4⟩:=D3 i (j+k) hi (by omega);exact⟨a1,a3,a4⟩
       ·exact(D5 i (j+k) hi (by omega) b k' hf).1 rfl o' (by rw[hb.1])
       ·exact(D5 i (j+k) hi (by omega) b k' hf).2 i (j'+k) hi (by omega) (λe=>by simp only[gw] at e;omega)
      refine Cd h hc ku hop hn hT g2 hmb hs (back:=λy Kx=>match y with
       |.ptr .own ys=>ys.length=n/\eN ys=true/\Kx (eX r p (.row .own z ((cz z len e).set i (e0.take k++ys++e0.drop (k+n)))) (aX as s).2)
       |_=>False) lI ((C.jc _).1 (by rw[tK];exact k2)) (hval _ rfl) (λb k' hf=>?_) k3 (by rw[tK];exact k4) λ{w' ay S M q} hM Kx hb=>?_
      ·obtain⟨_,hf|⟨j,hj,hf⟩⟩:=hf;·exact⟨rfl,.inl ⟨o',by rw[hf.1]⟩⟩
       ·exact⟨rfl,.inr ⟨i,j+k,hi,by omega,hf⟩⟩
      ·split at hb
       ·rename_i ys hq;obtain⟨ga,fF,Bh⟩:=hb;obtain⟨g3,o3,n3,f3,rfl,rfl⟩:=AR hq;have iO:=hM.val;simp only[C.val] at iO;injection iO with iO
        injection iO with iO
        injection iO with c1 c2 c3
        subst c1;subst c2;have Bw:n3=n:=by simpa using ga
        subst Bw;obtain⟨G',j1,j2,j3⟩:=hM.elem h1.inv hi hkn (λj hj=>HR (y7 fF _ (aL.2 ⟨j,by simpa using hj,rfl⟩)));rw[iL] at j1;exact⟨_,Bh,G',j1,j2,j3⟩
       ·exact hb.elim
     ·cases iL
    ·exact k2.elim
   |sl=>exact k2.elim
   |ah=>exact k2.elim
  ·simp only[C.er] at k2;cases m with
   |own=>
    obtain⟨k0,k2,k3,k4⟩:=k2;have hkn:k+n<=nn:=by simpa using k0
    obtain⟨D1,D2,D3,D4⟩:=hok;have tK:(C.ptr .own g (o'+k) n λj=>f' (j+k)).er=.ptr .own ((((List.range nn).map λj=>(f' j).er).drop k).take n):=by rw[<-Ho nn f' hkn];rfl
    have lI:(C.ptr .own g (o'+k) n λj=>f' (j+k)).ok w (Zf zl c.zb):=by
     refine⟨λj hj=>⟨?_,λhm=>(hm rfl).elim,λ_=>?_⟩,D2,λj hj=>D3 (j+k) (by omega),λj hj b k' hf=>⟨λ_ hb=>?_,λj' hj' hne=>?_⟩⟩;·rw[show o'+k+j=o'+(j+k) by omega];exact(D1 (j+k) (by omega)).1
     ·rw[show o'+k+j=o'+(j+k) by omega];exact(D1 (j+k) (by omega)).2.2 rfl
     ·exact(D4 (j+k) (by omega) b k' hf).1 rfl ⟨hb.1,by omega,by omega⟩
     ·exact(D4 (j+k) (by omega) b k' hf).2 (j'+k) (by omega) (by omega)
    refine Cd h hc ku hop hn hT g2 hmb hs (back:=λy Kx=>match y with
     |.ptr .own ys=>ys.length=n/\Kx (eX r p (.ptr .own (((List.range nn).map λj=>(f' j).er).take k++ys++((List.range nn).map λj=>(f' j).er).drop (k+n))) (aX as s).2)
     |_=>False) lI ((C.jc _).1 (by rw[tK];exact k2)) (hval _ rfl) (λb k' hf=>?_) k3 (by rw[tK];exact k4) λ{w' ay S M q} hM Kx hb=>?_
    ·obtain⟨_,hf|⟨j,hj,hf⟩⟩:=hf;·exact⟨rfl,.inl ⟨hf.1,by omega,by omega⟩⟩
     ·exact⟨rfl,.inr ⟨j+k,by omega,hf⟩⟩
    ·split at hb
     ·rename_i ys hq;obtain⟨ga,Bh⟩:=hb;obtain⟨g3,o3,n3,f3,rfl,rfl⟩:=AR hq;have iO:=hM.val;simp only[C.val] at iO;injection iO with iO
      injection iO with iO
      injection iO with c1 c2 c3
      subst c1;subst c2;have Bw:n3=n:=by simpa using ga
      subst Bw;obtain⟨G',j1,j2,j3⟩:=hM.ptr h1.inv hkn;exact⟨_,Bh,G',j1,j2,j3⟩
     ·exact hb.elim
   |sl=>exact k2.elim
   |ah=>exact k2.elim
 |_=>exact k2.elim
def A7{f:FuncId}(h:aF P f=true):∃fn,P.funcs[f]?=some fn/\(fn.name== "runtime.NumGoroutine")=false/\fn.body.isNone=false:=by
 unfold aF at h;split at h;·rename_i fn hf;simp only[au,pT] at h;exact⟨fn,hf,h.1,h.2⟩
 ·cases h
def Qk(h:St c G zl s a w){f:FuncId}{fn:Func}{as':Array Operand}{as:List (AV×PM)}{ts:Array TypeId}(ho:o.op=.call {callee:=.value (.func f),args:=as',argTypes:=ts})(hf:P.funcs[f]?=some fn)(hname:(fn.name== "runtime.NumGoroutine")=false) (hb:fn.body.isNone=false)
  (hn:∀n,o.dst=some n->n<c.nt) (hc:eL as'.toList as=true) (hK:aI P (.call o.dst f as) s K):mw P c o a w K (fN as):=by
 have hop:n8 P c zl o a w as'.toList f none:=⟨[],by simp only[execOp,ho,resolve,Act.eval,Deferred.ofValue,Sem.run_bind,Sem.run_pure,Result.andThen_ok,invoke,Cy hf hname hb];congr 2;apply kU;simp,λ_ _ _ _=>⟨[],rfl,rfl,λ_ hx=>(by cases hx)⟩⟩
 cases hm:cH as with
 |none=>exact EM _ h hc hm hop (λh=>h) hn hK
 |some q=>
  have hq:fN as=false:=by
   cases hq:fN as with
   |false=>rfl
   |true=>rw[qY hq] at hm;cases hm
  rw[hq];exact EL h hc hm hop hn hK
def Qm(h:St c G zl s a w){x:AV}{x':Operand}{as':Array Operand}{as:List (AV×PM)}{ts:Array TypeId}(ho:o.op=.call {callee:=.value x',args:=as',argTypes:=ts})(hx:aG x' x=true)
  (hn:∀n,o.dst=some n->n<c.nt)(hc:eL as'.toList as=true)(hK:aI P (.lf o.dst x as) s K):mw P c o a w K (fN as):=by
 simp only[aI] at hK;split at hK
 ·rename_i f cs he;obtain⟨hf,hK⟩:=hK;obtain⟨fn,N5,fH,N6⟩:=A7 hf;obtain⟨p,p1,p2,p3⟩:=bp h hx;rw[he] at p1;cases p with
  |fn g n fc=>
   simp only[C.er,X.fn.injEq] at p1;obtain⟨rfl,p1⟩:=p1
   have hop:n8 P c zl o a w as'.toList g (some x):=⟨(List.range n).map λj=>(fc j).val,by
    simp only[execOp,ho,resolve,<-p2,C.val,Deferred.ofValue,Sem.run_bind,Sem.run_pure,Result.andThen_ok,invoke,Cy N5 fH N6];congr 2;apply kU;simp,λ{G2 s2 aQ} h2 hb hG hi=>by
    simp only[mH] at hi;split at hi;·rename_i g' cs' he';subst hi;obtain⟨l,l1,l2,l3⟩:=K9 h2 hb hG hx he';refine⟨l,l1,?_,l3⟩;rw[<-p2] at l2;simp only[C.val,Value.func.injEq,true_and] at l2;exact(Array.mk.injEq _ _▸l2:_).symm
    ·exact hi.elim⟩
   cases hm:cH as with
   |none=>exact EM _ h hc hm hop (λh=>h) hn hK
   |some q=>
    have hq:fN as=false:=by
     cases hq:fN as with
     |false=>rfl
     |true=>rw[qY hq] at hm;cases hm
    rw[hq];exact EL h hc hm hop hn hK
  |_=>simp[C.er] at p1
 ·exact hK.elim
end
end M
namespace M
open Go Go.RowKit
variable [Bs]
section
variable {P:Program}{c:Ctx}{G:Nat->C}{zl:Nat->Nat->Prop}{s:af}{a:Act}{w:World}{o:Oper}{K:af->Prop}
def Rv{x:C}(hc:x.cell)(hs:M.bX x.er=true):x.plain:=by cases x<;>first|trivial|exact hc|(simp[C.er,M.bX] at hs)
def QV{x:C}(h:x.plain):x.bare:=by cases x<;>first|trivial|exact h.elim
def Ru{l:List X}(h:eN l=true):∀x∈l,M.bX x=true:=by
 induction l with
 |nil=>intro x hx;cases hx
 |cons a l ih=>
  simp only[eN,au] at h;intro x hx;rcases bA.1 hx with rfl|hx;·exact h.1
  ·exact ih h.2 x hx
def zV:∀{l':List Operand} {l:List (AV×PM)},eL l' l=true->fN l=true->MV a l' l (l.map λ_=>.dead undef)
 |[],[],_,_=>trivial
 |x'::l',(x,.ah)::l,hc,hq=>zV (l':=l') (l:=l) (by simp only[eL,au] at hc;exact hc.2) hq
 |x'::l',(x,.iE n)::l,hc,hq=>zV (l':=l') (l:=l) (by simp only[eL,au] at hc;exact hc.2) hq
 |x'::l',(x,.mv)::l,hc,hq=>by cases hq
 |x'::l',(x,.mut _)::l,hc,hq=>by cases hq
 |[],_::_,hc,_=>by cases hc
 |_::_,[],hc,_=>by cases hc
def K8(h:St c G zl s a w){x':Operand}{l':List Operand}{x:AV}{as:List (AV×PM)}(hx:aG x' x=true)(hc:eL l' as=true)(hq:fN as=true){f:FuncId}(hop:n8 P c zl o a w (x'::l') f none)(hn:∀n,o.dst=some n->n<c.nt)(hK:aI P (.mF o.dst f x as) s K):mw P c o a w K false:=by
 obtain⟨p,p1,p2,p3⟩:=bp h hx;simp only[aI] at hK;rw[<-p1] at hK;cases p with
 |agg n f0=>
  have QS:(C.agg n f0).er=.agg (((List.range n).map f0).map C.er):=by simp only[C.er,bT];rfl
  rw[QS] at hK;simp only at hK;obtain⟨k1,k3⟩:=hK
  have hcells:∀c'∈(List.range n).map f0,sE w zl c.zb G c':=λc' gG=>by
   obtain⟨j,hj,rfl⟩:=aL.1 gG;have hj':j<n:=by simpa using hj
   exact⟨(p3.ok.1 j hj').1,(p3.ok.1 j hj').2,λb k hf=>p3.bV b k ⟨j,hj',hf⟩,λv r p e=>vB (by rw[<-e];exact p3.rf j hj')⟩
  obtain⟨l0,G1,e1,e2,e3,e4,e5⟩:=vq _ G s h.inv hcells;obtain⟨lg,hrun,tq⟩:=hop.run;have h1:=zi h e4;rw[<-e1] at k1 k3;have gb:∀b k,c.zb b k->(c.zb b k\/∃t,(G1 t).fp b k):=λb k hz=>.inl hz;have ng:∀t b k,(G1 t).fp b k->(c.zb b k\/∃t,(G1 t).fp b k):=λt b k hf=>.inr ⟨t,hf⟩;obtain⟨l,q1,q2,q3⟩:=tq h1 gb ng trivial;have hl0:l=[]:=by simpa [kf] using q1
  subst hl0;have hcap:lg=[]:=by simpa using q2.symm
  subst hcap
  obtain⟨sU,r1,r2,r3,r4⟩:=vY h1 gb ng (y:=.dead undef) trivial trivial hc (zV hc hq) (λx hx=>by
   obtain⟨_,_,rfl⟩:=aL.1 hx;exact⟨trivial,trivial,λb k hf=>hf.elim⟩) (mC λx hx=>by
   obtain⟨_,_,rfl⟩:=aL.1 hx
   exact λb k hf=>hf) (λi x n x' hi _=>by
    exfalso;have hno:=qY hq
    have:∀{l:List (AV×PM)} {i:Nat},l[i]?=some (x,PM.mut n)->cH l≠none:=by
     intro l;induction l with
     |nil=>intro i hi;simp at hi
     |cons y l ih=>
      intro i hi;obtain⟨y,pm⟩:=y;cases i with
      |zero=>simp only[sx,cE,gw] at hi;obtain⟨_,rfl⟩:=hi;simp[cH]
      |succ i=>have:=ih (by simpa using hi);cases pm<;>simp[cH]<;>first|exact this|skip
    exact this hi hno)
  have xh:∀x∈sU,∀b k,¬x.fp b k:=λx hx b k hf=>by
   rcases(r3 x hx).2.2 b k hf with ⟨m,hm,hh⟩|⟨hh,_⟩;·obtain⟨_,_,rfl⟩:=aL.1 hm;exact hh
   ·rw[qY hq] at hh;cases hh
  have lH:l0.length=n:=by have:=cK List.length e2;simpa using this
  have Gw:∀b k,(eC l0).fp b k->∃m∈l0,m.fp b k:=λb k hf=>(mA _ _ _).1 hf
  have hpl:∀x∈l0,x.ok w (Zf zl λb k=>c.zb b k\/∃t,(G1 t).fp b k):=λx hx=>C.eo (λm b k hz=>by
   cases m with
   |own=>exact hz
   |sl=>exact hz
   |ah=>exact hz.imp id .inl) _ (e4.all x hx).1
  have hA:mg w zl (λb k=>c.zb b k\/∃t,(G1 t).fp b k) (eC l0::sU):={
   ok:=λx hx=>by
    rcases bA.1 hx with rfl|hx;·exact⟨λj hj=>⟨C.iT (e3 _ (bO hj _)),hpl _ (bO hj _)⟩,λj hj b k hf j' hj' hne=>q8 e4.apart _ hj hj' hne hf⟩
    ·exact(r3 x hx).1
   bare:=λx hx=>by
    rcases bA.1 hx with rfl|hx;·exact λj hj=>QV (e3 _ (bO hj (C.dead undef)))
    ·exact(r3 x hx).2.1
   fz:=λx hx b k hf=>by
    rcases bA.1 hx with rfl|hx;·obtain⟨m,hm,hf⟩:=Gw b k hf;exact⟨((e4.all m hm).2.2.1 b k hf).1,λhz=>hz.elim ((e4.all m hm).2.2.1 b k hf).2 λ⟨t,ht⟩=>(e4.all m hm).2.1 t b k hf ht⟩
    ·exact(xh x hx b k hf).elim
   bF:=λb k hz=>by
    rcases hz with hz|hz|⟨t,ht⟩;·exact e4.inv.bF b k (.inl hz)
    ·exact e4.inv.bF b k (.inr hz)
    ·exact C.dD _ (e4.inv.ok t) b k ht
   apart:=ey.2 ⟨λx hx b k _ hf=>xh x hx b k hf,mC xh⟩}
  have mW:=k3 w zl _ (eC l0::sU) (by rw[aS,r1,p7];simp only[bT];rfl) hA (h1.Ba _ λb k hz=>.inl hz)
  have Gy:(eC l0).val=a.eval x':=by rw[sG,e2,<-p2];simp only[C.val,bT];rfl
  have oF:(eC l0::sU).map C.val=(x'::l').map a.eval++[]:=by rw[aS,Gy,r2];simp
  rw[oF] at mW;refine⟨f,_,hrun,mW.mono ?_⟩;rintro e w' ⟨r,ps,ay,hD,hk⟩;have hin:∀b k,ay b k->b<w'.heap.size:=λb k hz=>hD.all.bF b k (.inl hz);have hO:∀b k,(∃m∈l0,m.fp b k)->(∀t,¬(G1 t).fp b k)/\¬zl b k/\¬c.zb b k:=λb k ⟨m,hm,hf⟩=>⟨λt=>(e4.all m hm).2.1 t b k hf,(e4.all m hm).2.2.1 b k hf⟩
  have iI:∀b k,(∃x∈eC l0::sU,x.fp b k)->∃m∈l0,m.fp b k:=λb k ⟨x,hx,hf⟩=>by
   rcases bA.1 hx with rfl|hx;·exact Gw b k hf
   ·exact(xh x hx b k hf).elim
  have tM:∀b k,ay b k->zl b k\/(∃m∈l0,m.fp b k)\/w.heap.size<=b:=λb k hz=>(hD.n7 b k hz).imp id λhh=>hh.imp (iI b k) id
  have hi:=e4.inv.Ee hD.ext (λb k hs=>hO b k (iI b k hs)) hD.nZ (λb k hz=>⟨hin b k hz,λt hf=>by
   rcases tM b k hz with hz|hm|hb;·exact(e4.inv.fz t b k hf).1 hz
   ·exact(hO b k hm).1 t hf
   ·have:=C.dD _ (e4.inv.ok t) b k hf;omega⟩)
  have kr:∀b k,(∃m∈l0,m.fp b k)->∃t,(G t).fp b k:=λb k ⟨m,hm,hf⟩=>(e4.all m hm).2.2.2 b k hf;have xk:∀x∈r::ps,∀b k,x.fp b k->(∃m∈l0,m.fp b k)\/w.heap.size<=b:=λx hx b k hf=>(hD.dom x hx b k hf).imp (iI b k) id
  have Gl:∀x∈r::ps,∀t b k,x.fp b k->¬(G1 t).fp b k:=λx hx t b k hf hf'=>by
   rcases xk x hx b k hf with hm|hb;·exact(hO b k hm).1 t hf'
   ·have:=C.dD _ (e4.inv.ok t) b k hf';omega
  have Gn:∀x∈r::ps,∀b k,x.fp b k->¬ay b k/\¬c.zb b k:=λx hx b k hf=>⟨(hD.all.fz x hx b k hf).1,λhz=>by
   rcases xk x hx b k hf with hm|hb;·exact(hO b k hm).2.2 hz
   ·have:=e4.inv.bF b k (.inr hz);omega⟩
  cases ps with
  |nil=>exact hk.elim
  |cons p0 ps=>
   cases p0 with
   |agg n0 g0=>
    simp only[aS,C.er] at hk;obtain⟨j1,s',j2,j3⟩:=hk;have xj:(C.agg n0 g0)∈r::C.agg n0 g0::ps:=bU _ (bE ..);have hv0:(C.agg n0 g0).val=(C.agg n f0).val:=by have:=cK List.head? hD.vals;simp only[aS,List.head?_cons,cE] at this;rw[this,Gy,p2]
    simp only[C.val,Value.agg.injEq,Array.mk.injEq,List.toArray_inj] at hv0;have hU:n0=n:=by have:=cK List.length hv0;simpa using this
    subst hU;have BB:=hD.all.ok _ xj;have xe:∀y∈(List.range n0).map g0,∀b k,y.fp b k->(C.agg n0 g0).fp b k:=λy hy b k hf=>by obtain⟨j,hj,rfl⟩:=aL.1 hy;exact⟨j,by simpa using hj,hf⟩
    rw[show ((List.range n0).map λj=>(g0 j).er)=((List.range n0).map g0).map C.er by simp only[bT];rfl] at j1 j2
    obtain⟨G2,g1,g2,g3⟩:=wg ((List.range n0).map f0) ((List.range n0).map g0) hi (by simp) (λv r p hm=>e5 v r p ((hcells _ hm).weak v r p rfl)) (λi cc y hi1 hi2=>by
     have hy:y∈(List.range n0).map g0:=me hi2;obtain⟨j,hj,rfl⟩:=aL.1 hy;have hj':j<n0:=by simpa using hj
     refine⟨Rv (BB.1 j hj').1 (Ru j1 _ (gR hy)),?_,C.eo (λm b k hz=>by
      cases m with
      |own=>exact hz
      |sl=>exact hz
      |ah=>exact hz.imp id λh=>h.elim) _ (BB.1 j hj').2⟩
     have:=cK (λt:List Value=>t[i]?) hv0;rw[show ((List.range n0).map λj=>(g0 j).val)=((List.range n0).map g0).map C.val by simp only[bT];rfl,show ((List.range n0).map λj=>(f0 j).val)=((List.range n0).map f0).map C.val by simp only[bT];rfl,cg (l:=(List.range n0).map g0),cg (l:=(List.range n0).map f0),hi1,hi2] at this;simpa using this) (λy hy=>⟨λt b k hf=>Gl _ xj t b k (xe y hy b k hf),λb k hf=>Gn _ xj b k (xe y hy b k hf)⟩) (by
     rw[vI];refine zJ ?_ List.nodup_range;intro i j hi hj hne b k hf;exact BB.2 i (by simpa using hi) b k hf j (by simpa using hj) hne) j2
    have tJ:∀b k,(∃y∈(List.range n0).map g0,y.fp b k)->(∃m∈l0,m.fp b k)\/w.heap.size<=b:=λb k ⟨y,hy,hf⟩=>xk _ xj b k (xe y hy b k hf)
    have h2:St c G2 ay s' a w':=h.after g1 (λt=>(g2 t).trans (e4.val t)) hD.ext (λb k hs=>kr b k (iI b k hs)) (λt b k hf=>by
     rcases g3 t b k hf with hh|hh;·exact .inl ⟨t,e4.mono t b k hh⟩
     ·exact(tJ b k hh).imp (kr b k) id) hD.nZ (λb k hz=>(tM b k hz).imp id λhh=>hh.imp (kr b k) id)
    have hr:r∈r::C.agg n0 g0::ps:=bE ..
    obtain⟨G3,h3⟩:=h2.result (x:=r) o.dst hn (hD.all.ok r hr) (hD.all.bare r hr) (λt b k hf hf'=>by
      rcases g3 t b k hf' with hh|⟨y,hy,hh⟩;·exact Gl r hr t b k hf hh
      ·exact(ey.1 hD.all.apart).1 _ (bE ..) b k hf (xe y hy b k hh)) (Gn r hr) (λb k hf=>by
      rcases xk r hr b k hf with hm|hb;·obtain⟨t,ht⟩:=kr b k hm;exact h.tr.dom t b k ht
      ·exact .inr (gv h.tr.ext.size hb))
    exact⟨r.val,hD.ends,λBD=>by (cases BD),G3,ay,_,j3,h3⟩
   |_=>exact hk.elim
 |_=>exact hK.elim
def Ql(h:St c G zl s a w){f:FuncId}{fn:Func}{as':Array Operand}{x:AV}{x':Operand}{l':List Operand}{as:List (AV×PM)}{ts:Array TypeId}(ho:o.op=.call {callee:=.value (.func f),args:=as',argTypes:=ts})(hl:as'.toList=x'::l')(hf:P.funcs[f]?=some fn)(hname:(fn.name== "runtime.NumGoroutine")=false) (hb:fn.body.isNone=false)
  (hn:∀n,o.dst=some n->n<c.nt) (hx:aG x' x=true) (hc:eL l' as=true) (hq:fN as=true) (hK:aI P (.mF o.dst f x as) s K):mw P c o a w K false:=by
 have hop:n8 P c zl o a w (x'::l') f none:=⟨[],by simp only[execOp,ho,resolve,Act.eval,Deferred.ofValue,Sem.run_bind,Sem.run_pure,Result.andThen_ok,invoke,Cy hf hname hb];rw[<-hl];congr 2;apply kU;simp,λ_ _ _ _=>⟨[],rfl,rfl,λ_ hx=>(by cases hx)⟩⟩
 exact K8 h hx hc hq hop hn hK
end
end M
namespace M
open Go Go.RowKit
variable [Bs]
section
variable {P:Program}{ops:Array Oper}{Q:Exit->Act->World->Prop}
def wpAnyQ(P:Program)(ops:Array Oper)(quiet:Nat->Bool)(Q:Exit->Act->World->Prop):Nat->Array Bool->Act->World->Prop
 |0,listed,a,w=>Region.ready .any ops listed=[]/\Q .normal a w
 |fuel+1,listed,a,w=>(Region.ready .any ops listed=[]->Q .normal a w)/\
  ∀i∈Region.ready .any ops listed,wpOp P ops Q i (λa' w'=>Rel (quiet i) w w'/\wpAnyQ P ops quiet Q fuel (listed.setIfInBounds i true) a' w') a w
def wpAnyQ.any{quiet:Nat->Bool}:∀{fuel:Nat} {listed:Array Bool} {a:Act} {w:World},wpAnyQ P ops quiet Q fuel listed a w->wpAny P .any ops Q fuel listed a w
 |0,_,_,_,h=>h
 |fuel+1,_,_,_,h=>⟨h.1,λi hi=>wpOp_mono (λ_ _ h=>h.2.any) (h.2 i hi)⟩
def j8(P:Program)(ops:Array Oper)(o:Oper)(v:Value)(a:Act)(w:World):Prop:=
 (Region.wanted o (yielded ops a.tmps)=true/\∀w',Ext (λ_ _=>False) w w'->(execOp a.eval o).run P w'=.ok (.value v) w')\/
 (Region.wanted o (yielded ops a.tmps)=false/\v=undef)
def j8.wpOp{i:Nat}{o:Oper}{v:Value}{a:Act}{w:World}(hi:ops[i]?=some o)(hy:j8 P ops o v a w){K:Act->World->Prop}(h:K (a.put o.dst v) w):wpOp P ops Q i K a w:=by
 unfold Go.wpOp;simp only[hi];rcases hy with ⟨hw,hv⟩|⟨hw,rfl⟩;·simp only[hw,cU,Oper.wp,hv w (Ext.refl _ _),Oper.upon];exact .inl h
 ·simp only[hw,gx,iZ];exact h
def mj(P:Program)(ops:Array Oper)(o:Oper)(v:Value)(a:Act):Prop:=
 (Region.wanted o (yielded ops a.tmps)=true/\∀w',(execOp a.eval o).run P w'=.ok (.value v) w')\/
 (Region.wanted o (yielded ops a.tmps)=false/\v=undef)
def mj.later{o:Oper}{v:Value}{a:Act}(h:mj P ops o v a)(w:World):j8 P ops o v a w:=h.imp (λh=>⟨h.1,λw' _=>h.2 w'⟩) id
def vT(ops:Array Oper)(o:Oper)(a a':Act):Prop:=execOp a'.eval o=execOp a.eval o/\Region.wanted o (yielded ops a'.tmps)=Region.wanted o (yielded ops a.tmps)
def j8.same{o:Oper}{v:Value}{a a':Act}{w w':World}(hy:j8 P ops o v a w)(h:vT ops o a a')(hE:Ext (λ_ _=>False) w w'):j8 P ops o v a' w':=by unfold j8;rw[h.1,h.2];exact hy.imp (λhh=>⟨hh.1,λw2 h2=>hh.2 w2 (hE.trans h2 λ_ _ h _=>h)⟩) id
def mj.same{o:Oper}{v:Value}{a a':Act}(hy:mj P ops o v a)(h:vT ops o a a'):mj P ops o v a':=by unfold mj;rw[h.1,h.2];exact hy
def IE{j:Nat}{oi oj:Oper}{v:Value}(hj:ops[j]?=some oj)(hap:oi.apart ops oj=true)(hsi:∀cs b,oi.op≠.select cs b)(hsj:∀cs b,oj.op≠.select cs b)
  (hQ:∀c a w,Q (.panic c) (a.put oi.dst v) w->Q (.panic c) a w){K:Act->World->Prop}{a:Act}{w:World}(h:wpOp P ops Q j K (a.put oi.dst v) w):
  wpOp P ops Q j (λa' w'=>vT ops oi a a'/\K (a'.put oi.dst v) w') a w:=by
 obtain⟨h1,h2,h3⟩:=Oper.apart_spec hap;have keep:∀u,vT ops oi a (a.put oj.dst u):=λu=>⟨execOp_put oi hsi a oj.dst u h3,wanted_put oi a oj.dst u h3⟩;have put:∀u,(a.put oj.dst u).put oi.dst v=(a.put oi.dst v).put oj.dst u:=λu=>(Act.put_comm a v u h2).symm;unfold Go.wpOp at*;simp only[hj] at*;rw[wanted_put oj a oi.dst v h1] at h;by_cases hw:Region.wanted oj (yielded ops a.tmps)=true
 ·rw[aA hw] at h⊢;have jj:execOp (a.put oi.dst v).eval oj=execOp a.eval oj:=execOp_put oj hsj a oi.dst v h1;refine h.imp (λh=>?_) λh=>⟨?_,h.2⟩
  ·unfold Oper.wp at*;rw[jj] at h;generalize (execOp a.eval oj).run P w=r at h⊢;match r,h with
   |.ok (.value u) w',h=>exact⟨keep u,by rw[put];exact h⟩
   |.ok .skip w',h=>exact⟨keep _,by rw[put];exact h⟩
   |.ok (.defer d) w',h=>
    refine⟨by have k:=keep undef;unfold Act.put at*;cases hd:oj.dst<;>rw[hd] at k<;>exact⟨k.1,k.2⟩,?_⟩
    have h':K (({a.put oi.dst v with defers:=d::(a.put oi.dst v).defers}:Act).put oj.dst undef) w':=h;rw[Act.put_defers,Act.put_comm _ v undef h2] at h';exact h'
   |.ok (.enter f args) w',h=>
    refine Calls.mono h λe w'' he=>?_;match e,he with
    |.returned u,he=>exact⟨keep u,by rw[put];exact he⟩
    |.panicked c,he=>exact hQ _ _ _ he
    |.outgrown,he=>exact he
   |.ok (.row row args) w',h=>exact Rows.mono h λu w'' he=>⟨keep u,by rw[put];exact he⟩
   |.halt (.panic u) w',h=>exact hQ _ _ _ h
  ·have:=h.1;unfold Oper.asks at this⊢;rwa [jj] at this
 ·rw[aC hw] at h⊢;exact⟨keep _,by rw[put];exact h⟩
def Down(ops:Array Oper)(listed:Array Bool):Prop:=∀k ok,ops[k]?=some ok->listed.getD k false=true->∀e∈ok.after,Region.binds .any e=true->listed.getD e.on false=true
def qj(ops : Array Oper)(t : Nat -> Nat -> Bool) : Bool := (List.range ops.size).all λj => (List.range ops.size).all λi => !t j i || (match ops[j]? with
 |some oj=>oj.after.any λe=>Region.binds .any e && (e.on==i||(decide (e.on<j) && t e.on i))
 |none=>false)
def Cp{t:Nat->Nat->Bool}(gG:qj ops t=true){listed:Array Bool}(hd:Down ops listed){i:Nat}(hi:listed.getD i false=false):∀(n j:Nat),j<n->j<ops.size->i<ops.size->(∀oj,ops[j]?=some oj->∀e∈oj.after,Region.binds .any e=true->listed.getD e.on false=true)->t j i=false
 |0,j,hj,_,_,_=>by omega
 |n+1,j,hj,xg,Gh,hall=>by
  cases ht:t j i with
  |false=>rfl
  |true=>
   exfalso;have hc:=gG;simp only[qj,kV,nY] at hc;have h1:=hc j xg i Gh;rw[ht] at h1;simp only[Bool.not_true,Bool.false_or] at h1;split at h1
   ·rename_i oj ei;obtain⟨e,he,hb⟩:=Array.any_eq_true'.1 h1;simp only[au,pU,cT,aP] at hb;have hl:=hall oj ei e he hb.1;rcases hb.2 with h2|⟨h2,h3⟩;·rw[h2,hi] at hl;cases hl
    ·have:=Cp gG hd hi n e.on (by omega) (by omega) Gh (λoe Oq e' he' hb'=>hd e.on oe Oq hl e' he' hb');rw[this] at h3;cases h3
   ·cases h1
def Down.set{listed:Array Bool}(h:Down ops listed){j:Nat}{oj:Oper}(hj:ops[j]?=some oj)(hall:∀e∈oj.after,Region.binds .any e=true->listed.getD e.on false=true):Down ops (listed.setIfInBounds j true):=by
 intro k ok hk hl e he hb;by_cases hjk:j=k
 ·subst hjk;rw[hj] at hk;injection hk with hk
  subst hk;exact getD_set_true (hall e he hb)
 ·rw[getD_set_ne false hjk] at hl;exact getD_set_true (h k ok hk hl e he hb)
def wpAnyQ_first{quiet:Nat->Bool}{i:Nat}{oi:Oper}{v:Value}(hi:ops[i]?=some oi)(hsel:∀(j:Nat) (o:Oper) cs b,ops[j]?=some o->o.op≠.select cs b)(hQ:∀c a w,Q (.panic c) (a.put oi.dst v) w->Q (.panic c) a w){t:Nat->Nat->Bool}(hY:qj ops t=true):
  ∀(fuel:Nat) (listed:Array Bool) (a:Act) (w:World),
   Down ops listed->(∀j oj,ops[j]?=some oj->j≠i->listed.getD j true=false->t j i=false->oi.apart ops oj=true/\quiet j=true)->
   i∈Region.ready .any ops listed->j8 P ops oi v a w->
   wpAnyQ P ops quiet Q fuel (listed.setIfInBounds i true) (a.put oi.dst v) w->wpAnyQ P ops quiet Q (fuel+1) listed a w:=by
 intro fuel;induction fuel with
 |zero=>
  intro listed a w _ _ hr hy H;refine⟨λh=>(by rw[h] at hr;cases hr),λj hj=>?_⟩;by_cases hji:j=i;·subst hji;exact hy.wpOp hi ⟨Rel.refl _ _,H⟩
  ·have:=ready_mono hj hji;rw[H.1] at this;cases this
 |succ fuel ih=>
  intro listed a w tv hfree hr hy H;refine⟨λh=>(by rw[h] at hr;cases hr),λj hj=>?_⟩;by_cases hji:j=i;·subst hji;exact hy.wpOp hi ⟨Rel.refl _ _,H⟩
  ·have h1:=H.2 j (ready_mono hj hji);obtain⟨tC,oj,ei,hall⟩:=mem_ready.1 hj
   have hi0:listed.getD i false=false:=by
    have h0:=(mem_ready.1 hr).1;rcases fA i listed.size with h'|h';·simpa [h'] using h0
    ·simp[ja h']
   have hnot:t j i=false:=Cp hY tv hi0 (j+1) j (by omega) (gQ.1 ei).1 (gQ.1 hi).1 (λP6 lF e he hb=>by
    rw[ei] at lF;injection lF with lF
    rw[<-lF] at he;exact hall e he hb)
   obtain⟨hap,Oz⟩:=hfree j oj ei hji tC hnot;have h2:=IE ei hap (λcs b=>hsel i oi cs b hi) (λcs b=>hsel j oj cs b ei) hQ h1
   have Bp:∀k ok,ops[k]?=some ok->k≠i->(listed.setIfInBounds j true).getD k true=false->
     t k i=false->oi.apart ops ok=true/\quiet k=true:=λk ok hk hki hun hno=>by
    refine hfree k ok hk hki ?_ hno;by_cases hjk:j=k;·subst hjk;exact tC
    ·rw[getD_set_ne true hjk] at hun;exact hun
   refine wpOp_mono (λa' w' ⟨hsame,hrel,h3⟩=>⟨hrel,ih (listed.setIfInBounds j true) a' w' (tv.set ei hall) Bp (ready_mono hr (Ne.symm hji)) (hy.same hsame (hrel Oz)) ?_⟩) h2;rw[I4 _ _ hji];exact h3
def TS{quiet:Nat->Bool}{i:Nat}{oi:Oper}{v:Value}(hi:ops[i]?=some oi)(hsel:∀(j:Nat) (o:Oper) cs b,ops[j]?=some o->o.op≠.select cs b)(hQ:∀c a w,Q (.panic c) (a.put oi.dst v) w->Q (.panic c) a w){t:Nat->Nat->Bool}(hY:qj ops t=true):
  ∀(fuel:Nat) (listed:Array Bool) (a:Act) (w:World),
   Down ops listed->(∀j oj,ops[j]?=some oj->j≠i->listed.getD j true=false->t j i=false->oi.apart ops oj=true)->
   i∈Region.ready .any ops listed->mj P ops oi v a->
   wpAnyQ P ops quiet Q fuel (listed.setIfInBounds i true) (a.put oi.dst v) w->wpAnyQ P ops quiet Q (fuel+1) listed a w:=by
 intro fuel;induction fuel with
 |zero=>
  intro listed a w _ _ hr hy H;refine⟨λh=>(by rw[h] at hr;cases hr),λj hj=>?_⟩;by_cases hji:j=i;·subst hji;exact(hy.later w).wpOp hi ⟨Rel.refl _ _,H⟩
  ·have:=ready_mono hj hji;rw[H.1] at this;cases this
 |succ fuel ih=>
  intro listed a w tv hfree hr hy H;refine⟨λh=>(by rw[h] at hr;cases hr),λj hj=>?_⟩;by_cases hji:j=i;·subst hji;exact(hy.later w).wpOp hi ⟨Rel.refl _ _,H⟩
  ·have h1:=H.2 j (ready_mono hj hji);obtain⟨tC,oj,ei,hall⟩:=mem_ready.1 hj
   have hi0:listed.getD i false=false:=by
    have h0:=(mem_ready.1 hr).1;rcases fA i listed.size with h'|h';·simpa [h'] using h0
    ·simp[ja h']
   have hnot:t j i=false:=Cp hY tv hi0 (j+1) j (by omega) (gQ.1 ei).1 (gQ.1 hi).1 (λP6 lF e he hb=>by
    rw[ei] at lF;injection lF with lF
    rw[<-lF] at he;exact hall e he hb)
   have hap:=hfree j oj ei hji tC hnot;have h2:=IE ei hap (λcs b=>hsel i oi cs b hi) (λcs b=>hsel j oj cs b ei) hQ h1
   have Bp:∀k ok,ops[k]?=some ok->k≠i->(listed.setIfInBounds j true).getD k true=false->
     t k i=false->oi.apart ops ok=true:=λk ok hk hki hun hno=>by
    refine hfree k ok hk hki ?_ hno;by_cases hjk:j=k;·subst hjk;exact tC
    ·rw[getD_set_ne true hjk] at hun;exact hun
   refine wpOp_mono (λa' w' ⟨hsame,hrel,h3⟩=>⟨hrel,ih (listed.setIfInBounds j true) a' w' (tv.set ei hall) Bp (ready_mono hr (Ne.symm hji)) (hy.same hsame) ?_⟩) h2;rw[I4 _ _ hji];exact h3
end
end M
namespace M
open Go Go.RowKit
variable [Bs]
def iW(P:Program)(t:TypeId):Option TypeId:=match P.underlying t with
 |some (.slice e)=>some e
 |_=>none
def isStr(P:Program)(t:TypeId):Bool:=match P.underlying t with
 |some .string=>true
 |_=>false
def BO(P:Program)(t:TypeId):Bool:=match P.underlying t with
 |some .bool=>true
 |_=>false
def isInt(P:Program)(t:TypeId)(k:IntKind):Bool:=match P.underlying t with
 |some (.int k')=>decide (k'=k)
 |_=>false
def iJ(P:Program)(t:TypeId)(n:Nat):Bool:=match P.info? t with
 |some i=>decide (i.size=n)
 |none=>false
def J0:TypeDesc->Bool
 |.struct _=>true
 |.array _ _=>true
 |_=>false
def oN(P:Program)(t:TypeId)(b:Bool):Bool:=match P.underlying t with
 |some d=>J0 d==b
 |none=>false
section
variable {P:Program}{t:TypeId}
def jY{e:TypeId}(h:iW P t=some e):P.underlying t=some (.slice e):=by
 unfold iW at h;split at h;·rename_i e' he;injection h with h;subst h;exact he
 ·cases h
def tX(h:isStr P t=true):P.underlying t=some .string:=by
 unfold isStr at h;split at h;·assumption
 ·cases h
def OO(h:BO P t=true):P.underlying t=some .bool:=by
 unfold BO at h;split at h;·assumption
 ·cases h
def BQ{k:IntKind}(h:isInt P t k=true):P.underlying t=some (.int k):=by
 unfold isInt at h;split at h;·rename_i k' hk;rw[hk,sj h]
 ·cases h
def mV{n:Nat}(h:iJ P t n=true):∃i,P.info? t=some i/\i.size=n:=by
 unfold iJ at h;split at h;·rename_i i hi;exact⟨i,hi,sj h⟩
 ·cases h
def tW{b:Bool}(h:oN P t b=true):∃dd,P.underlying t=some dd/\(match dd with|.struct _=>true|.array _ _=>true|_=>false)=b:=by
 unfold oN at h;split at h;·rename_i d hd;refine⟨d,hd,?_⟩;rw[cT] at h;rw[<-h];cases d<;>rfl
 ·cases h
end
def cr(nt:Nat)(o:Oper)(d:Nat):Bool:=(match o.dst with|some d'=>d'==d|none=>false) && decide (d<nt)
def cB{nt:Nat}{o:Oper}{d:Nat}(h:cr nt o d=true):o.dst=some d/\d<nt:=by
 simp only[cr,au,aP] at h;refine⟨?_,h.2⟩;have:=h.1;split at this;·rename_i d' hd;rw[hd];simpa using this
 ·cases this
def ri:bt->Bool
 |.mv _ _|.pick _ _ _ _|.un _ _ _|.bin _ _ _ _|.beq _ _ _ _|.k6 _ _ _ _ _|.nx _ _ _|.conv _ _ _|.text _ _|.load _ _ _ _|.dr _ _|.lq _ _ _|.lu _ _ _ _ _|.nj _ _ _ _|.cR _ _ _|.mB _ _ _ _ _ _
 |.ext _ _ _|.jw _ _ _ _|.oX _ _ _ _ _|.nw _ _ _|.len _ _|.nP _ _|.mn _ _|.mx _ _|.oP _ _ _ _ _=>true
 |_=>false
def nD:bt->Bool
 |.bk _ _ _|.box _ _ _|.new _ _|.make _ _ _ _ _|.bytes _ _|.lit _ _ _ _|.build _ _ _ _=>true
 |.call _ _ as=>fN as
 |.lf _ _ as=>fN as
 |x=>ri x
def wv(P:Program)(nt:Nat)(o:Oper):bt->Bool
 |.mv d x=>cr nt o d && (match o.op with|.move x'=>aG x' x|.assign x'=>aG x' x|_=>false)
 |.pick d c a b=>cr nt o d && (match o.op with|.pick c' a' b'=>aG c' c && aG a' a && aG b' b|_=>false)
 |.un d op x=>cr nt o d && (match o.op with|.unOp op' _ x'=>decide (op'=op) && aG x' x|_=>false)
 |.bin d op x y=>cr nt o d && (match o.op with|.binOp op' _ x' y' _=>decide (op'=op) && aG x' x && aG y' y|_=>false)
 |.beq d neg x y=>cr nt o d && (match o.op with|.binOp op' ty x' y' _=>decide (op'=bif neg then .neq else .eql) && BO P ty && aG x' x && aG y' y|_=>false)
 |.nx d neg x=>cr nt o d && (match o.op with|.binOp op' ty x' (.const (.slice none 0 0)) _=>decide (op'=bif neg then .neq else .eql) && (iW P ty).isSome && aG x' x|_=>false)
 |.k6 d neg ks x y=>cr nt o d && (match o.op with|.binOp op' ty x' y' _=>decide (op'=bif neg then .neq else .eql) && A5 P ty ks && aG x' x && aG y' y|_=>false)
 |.conv d k x=>cr nt o d && (match o.op with|.convert src dst x'=>(P.underlying src).isSome && isInt P dst k && aG x' x|_=>false)
 |.text d x=>cr nt o d && (match o.op with|.convert src dst x'=>(match iW P src with|some el=>isInt P el .u8 && isStr P dst && aG x' x|none=>false)|_=>false)
 |.load d sz agg x=>cr nt o d && (match o.op with|.load ty x'=>iJ P ty sz && oN P ty agg && (agg||decide (sz=1)) && aG x' x|_=>false)
 |.oP d fz sz agg x=>cr nt o d && (match o.op with|.load ty x'=>iJ P ty sz && oN P ty agg && (agg||decide (sz=1)) && aG x' x|_=>false)
 |.dr d x=>cr nt o d && (match o.op with|.nilCheck x'=>aG x' x|_=>false)
 |.lq d x off=>cr nt o d && (match o.op with|.fieldAddr ty x' fi=>(match P.underlying ty with|some (.struct fs)=>(match fs[fi]? with|some f=>decide (f.offset=off) && !iJ P f.type 0 && (P.info? f.type).isSome && aG x' x|none=>false)|_=>false)|_=>false)
 |.lu d x off sz agg=>cr nt o d && (match o.op with|.field ty x' fi=>(match P.underlying ty with|some (.struct fs)=>(match fs[fi]? with|some f=>decide (f.offset=off) && iJ P f.type sz && oN P f.type agg && (agg||decide (sz=1)) && aG x' x|none=>false)|_=>false)|_=>false)
 |.nj d sz x y=>cr nt o d && (match o.op with|.indexAddr ty x' y'=>(match iW P ty with|some el=>iJ P el sz && decide (0<sz) && aG x' x && aG y' y|none=>false)|_=>false)
 |.cR d x y=>cr nt o d && (match o.op with|.index ty x' y'=>isStr P ty && aG x' x && aG y' y|_=>false)
 |.mB d n sz agg x y=>cr nt o d && (match o.op with|.index ty x' y'=>(match P.underlying ty with|some (.array n' el)=>decide (n'=n) && iJ P el sz && oN P el agg && (agg||decide (sz=1)) && aG x' x && aG y' y|_=>false)|_=>false)
 |.ext d x i=>cr nt o d && (match o.op with|.extract x' i'=>i'==i && aG x' x|_=>false)
 |.jw d x lo hi=>cr nt o d && (match o.op with|.slice ty x' lo' hi' none=>isStr P ty && aG x' x && jF lo' lo && jF hi' hi|_=>false)
 |.oX d sz x lo hi=>cr nt o d && (match o.op with|.slice ty x' lo' hi' none=>(match iW P ty with|some el=>iJ P el sz && aG x' x && jF lo' lo && jF hi' hi|none=>false)|_=>false)
 |.nw d f cs=>cr nt o d && (match o.op with|.makeFunc (.func f') fs cs'=>f'==f && fs.toList.isEmpty && je cs'.toList cs|_=>false)
 |.len d x=>cr nt o d && (match o.op with|.call ⟨.builtin .len,as,ts⟩=>(match as.toList,ts.toList with|[x'],[ty]=>(iW P ty).isSome && aG x' x|_,_=>false)|_=>false)
 |.nP d x=>cr nt o d && (match o.op with|.call ⟨.builtin .len,as,ts⟩=>(match as.toList,ts.toList with|[x'],[ty]=>isStr P ty && aG x' x|_,_=>false)|_=>false)
 |.mn d [x,y]=>cr nt o d && (match o.op with|.call ⟨.builtin .min,as,_⟩=>(match as.toList with|[x',y']=>aG x' x && aG y' y|_=>false)|_=>false)
 |.mx d [x,y]=>cr nt o d && (match o.op with|.call ⟨.builtin .max,as,_⟩=>(match as.toList with|[x',y']=>aG x' x && aG y' y|_=>false)|_=>false)
 |_=>false
section
variable {P:Program}{c:Ctx}{G:Nat->C}{zl:Nat->Nat->Prop}{s:af}{a:Act}{w:World}{o:Oper}{K:af->Prop}
def FZ(op:BinOp)(ty:TypeId)(p q:Operand)(a b:Option Addr)(l m n k:Nat):eqGuard op ty p q (.slice a l m) (.slice b n k)=pure ():=by unfold eqGuard;cases op<;>rfl
def Rc{sz len:Nat}{e:Nat->Nat->C}(h:lT (cz sz len e)=true):0<len/\0<sz:=by
 unfold cz at h;cases len with
 |zero=>cases h
 |succ len=>
  cases sz with
  |zero=>rw[vJ] at h;cases h
  |succ sz=>exact⟨Nat.succ_pos _,Nat.succ_pos _⟩
def QC(h:St c G zl s a w){d:Nat}{neg:Bool}{ty ty':TypeId}{e:TypeId}{x:AV}{x':Operand}(ho:o.op=.binOp (bif neg then .neq else .eql) ty x' (.const (.slice none 0 0)) ty')(ht:P.underlying ty=some (.slice e))(hd:o.dst=some d)(hn:d<c.nt)(hx:aG x' x=true)
  (hK:aI P (.nx d neg x) s K):cA P c o a w K:=by
 obtain⟨p,p1,p2,p3⟩:=bp h hx;simp only[aI] at hK;split at hK
 ·rename_i m z xs h1;rw[<-p1] at h1;obtain⟨A,len,cap,f,rfl,hxs⟩:=s7 h1;have hb:lT xs=true->(A.map λq=>(⟨q.1,q.2.1,q.2.2⟩:Addr)).isNone=false:=λhc=>by rw[hxs] at hc;obtain⟨h1,h2⟩:=Rc hc;obtain⟨g,o',hA,_⟩:=p3.ok.2.1 0 0 h1 h2;rw[hA];rfl
  have F3:=hK _ hb;obtain⟨nb,hnb⟩:∃nb,(A.map λq=>(⟨q.1,q.2.1,q.2.2⟩:Addr)).isNone=nb:=⟨_,rfl⟩;rw[hnb] at F3;have hc:a.eval (.const (.slice none 0 0))=.slice none 0 0:=rfl;refine cG h hd hn (x:=.bool (xor neg nb)) trivial (λ_ _ _ _ _ _ e=>(by cases e)) trivial (λw' _=>?_) F3;cases neg;·simp only[execOp,ho,hc,<-p2,C.val,FZ,Sem.run_bind,Sem.run_pure,Result.andThen_ok,mb,Lib.run_eql_slice_nil w' ty e _ _ _ _ _ ht,Bool.false_bne,hnb]
  ·simp only[execOp,ho,hc,<-p2,C.val,FZ,Sem.run_bind,Sem.run_pure,Result.andThen_ok,iY,run_neq_slice_nil w' ty e _ _ _ ht,Bool.true_bne,hnb]
 ·exact hK.elim
def yc{b:Bool}{n m:Nat}(h:(b||decide (n=m))=true):b=true\/n=m:=by simpa using h
def rW{α:Type}{xs:Array α}{x:α}(h:xs.toList=[x]):xs= #[x]:=kU h
def zh{α:Type}{xs:Array α}{x y:α}(h:xs.toList=[x,y]):xs= #[x,y]:=kU h
def AA(h:St c G zl s a w){x:bt}(hc:wv P c.nt o x=true)(hK:aI P x s K):cA P c o a w K:=by
 unfold wv at hc;split at hc
 ·simp only[au] at hc;obtain⟨hd,hn⟩:=cB hc.1;have hc:=hc.2;split at hc;·rename_i ho;exact Hf h (.inl ho) hd hn hc hK
  ·rename_i ho;exact Hf h (.inr ho) hd hn hc hK
  ·cases hc
 ·simp only[au] at hc;obtain⟨hd,hn⟩:=cB hc.1;have hc:=hc.2;split at hc;·rename_i ho;simp only[au] at hc;exact QD h ho hd hn hc.1.1 hc.1.2 hc.2 hK
  ·cases hc
 ·simp only[au] at hc;obtain⟨hd,hn⟩:=cB hc.1;have hc:=hc.2;split at hc;·rename_i ho;simp only[au,aP] at hc;obtain⟨rfl,hx⟩:=hc;exact QK h ho hd hn hx hK
  ·cases hc
 ·simp only[au] at hc;obtain⟨hd,hn⟩:=cB hc.1;have hc:=hc.2;split at hc;·rename_i ho;simp only[au,aP] at hc;obtain⟨⟨rfl,hx⟩,hy⟩:=hc;exact Qg h ho hd hn hx hy hK
  ·cases hc
 ·simp only[au] at hc;obtain⟨hd,hn⟩:=cB hc.1;have hc:=hc.2;split at hc;·rename_i ho;simp only[au,aP] at hc;obtain⟨⟨⟨rfl,ht⟩,hx⟩,hy⟩:=hc;exact Qf h ho (OO ht) hd hn hx hy hK
  ·cases hc
 ·simp only[au] at hc;obtain⟨hd,hn⟩:=cB hc.1;have hc:=hc.2;split at hc;·rename_i ho;simp only[au,aP] at hc;obtain⟨⟨rfl,ht⟩,hx⟩:=hc;obtain⟨el,ht⟩:=sg.1 ht;exact QC h ho (jY ht) hd hn hx hK
  ·cases hc
 ·simp only[au] at hc;obtain⟨hd,hn⟩:=cB hc.1;have hc:=hc.2;split at hc;·rename_i ho;simp only[au,aP] at hc;obtain⟨⟨⟨rfl,ht⟩,hx⟩,hy⟩:=hc;exact Qb h ho ht hd hn hx hy hK
  ·cases hc
 ·simp only[au] at hc;obtain⟨hd,hn⟩:=cB hc.1;have hc:=hc.2;split at hc;·rename_i ho;simp only[au] at hc;obtain⟨⟨hs,ht⟩,hx⟩:=hc;obtain⟨sd,hs⟩:=sg.1 hs;exact Qp h ho hs (BQ ht) hd hn hx hK
  ·cases hc
 ·simp only[au] at hc;obtain⟨hd,hn⟩:=cB hc.1;have hc:=hc.2;split at hc
  ·rename_i ho;split at hc;·rename_i el hel;simp only[au] at hc;exact QJ h ho (jY hel) (BQ hc.1.1) (tX hc.1.2) hd hn hc.2 hK
   ·cases hc
  ·cases hc
 ·simp only[au] at hc;obtain⟨hd,hn⟩:=cB hc.1;have hc:=hc.2;split at hc;·rename_i ho;simp only[au] at hc;exact He h ho (mV hc.1.1.1) (tW hc.1.1.2) (yc hc.1.2) hd hn hc.2 hK
  ·cases hc
 ·simp only[au] at hc;obtain⟨hd,hn⟩:=cB hc.1;have hc:=hc.2;split at hc;·rename_i ho;simp only[au] at hc;exact Qw h ho (mV hc.1.1.1) (tW hc.1.1.2) (yc hc.1.2) hd hn hc.2 hK
  ·cases hc
 ·simp only[au] at hc;obtain⟨hd,hn⟩:=cB hc.1;have hc:=hc.2;split at hc;·rename_i ho;exact Qn h ho hd hn hc hK
  ·cases hc
 ·simp only[au] at hc;obtain⟨hd,hn⟩:=cB hc.1;have hc:=hc.2;split at hc
  ·rename_i ho;split at hc
   ·rename_i fs hfs;split at hc;·rename_i f hf;simp only[au,aP,pT] at hc;obtain⟨⟨⟨h1,h2⟩,h3⟩,h4⟩:=hc;obtain⟨i,hi⟩:=sg.1 h3;refine Qr h ho hfs hf h1 ⟨i,hi,λh0=>?_⟩ hd hn h4 hK;simp[iJ,hi,h0] at h2
    ·cases hc
   ·cases hc
  ·cases hc
 ·simp only[au] at hc;obtain⟨hd,hn⟩:=cB hc.1;have hc:=hc.2;split at hc
  ·rename_i ho;split at hc
   ·rename_i fs hfs;split at hc;·rename_i f hf;simp only[au,aP] at hc;obtain⟨⟨⟨⟨h1,h2⟩,h3⟩,h4⟩,h5⟩:=hc;exact Qs h ho hfs hf h1 (mV h2) (tW h3) (yc h4) hd hn h5 hK
    ·cases hc
   ·cases hc
  ·cases hc
 ·simp only[au] at hc;obtain⟨hd,hn⟩:=cB hc.1;have hc:=hc.2;split at hc
  ·rename_i ho;split at hc;·rename_i el hel;simp only[au,aP] at hc;obtain⟨⟨⟨h1,h2⟩,h3⟩,h4⟩:=hc;exact Qt h ho (jY hel) (mV h1) h2 hd hn h3 h4 hK
   ·cases hc
  ·cases hc
 ·simp only[au] at hc;obtain⟨hd,hn⟩:=cB hc.1;have hc:=hc.2;split at hc;·rename_i ho;simp only[au] at hc;exact QF h ho (tX hc.1.1) hd hn hc.1.2 hc.2 hK
  ·cases hc
 ·simp only[au] at hc;obtain⟨hd,hn⟩:=cB hc.1;have hc:=hc.2;split at hc
  ·rename_i ho;split at hc;·rename_i n' el hel;simp only[au,aP] at hc;obtain⟨⟨⟨⟨⟨rfl,h2⟩,h3⟩,h4⟩,h5⟩,h6⟩:=hc;exact Qc h ho hel (mV h2) (tW h3) (yc h4) hd hn h5 h6 hK
   ·cases hc
  ·cases hc
 ·simp only[au] at hc;obtain⟨hd,hn⟩:=cB hc.1;have hc:=hc.2;split at hc;·rename_i ho;simp only[au,cT] at hc;obtain⟨rfl,hx⟩:=hc;exact Qq h ho hd hn hx hK
  ·cases hc
 ·simp only[au] at hc;obtain⟨hd,hn⟩:=cB hc.1;have hc:=hc.2;split at hc;·rename_i ho;simp only[au] at hc;obtain⟨⟨⟨h1,h2⟩,h3⟩,h4⟩:=hc;exact QH h ho (tX h1) hd hn h2 h3 h4 hK
  ·cases hc
 ·simp only[au] at hc;obtain⟨hd,hn⟩:=cB hc.1;have hc:=hc.2;split at hc
  ·rename_i ho;split at hc;·rename_i el hel;simp only[au] at hc;obtain⟨⟨⟨h1,h2⟩,h3⟩,h4⟩:=hc;exact QE h ho (jY hel) (mV h1) hd hn h2 h3 h4 hK
   ·cases hc
  ·cases hc
 ·simp only[au] at hc;obtain⟨hd,hn⟩:=cB hc.1;have hc:=hc.2;split at hc;·rename_i fs cs' ho;simp only[au,cT] at hc;obtain⟨⟨rfl,h2⟩,h3⟩:=hc;have hfs:fs= #[]:=kU (List.isEmpty_iff.1 h2);subst hfs;exact Qy h ho hd hn h3 hK
  ·cases hc
 ·simp only[au] at hc;obtain⟨hd,hn⟩:=cB hc.1;have hc:=hc.2;split at hc
  ·rename_i as ts ho;split at hc;·rename_i x' ty has hts;simp only[au] at hc;obtain⟨el,hel⟩:=sg.1 hc.1;rw[rW has,rW hts] at ho;exact Qu h ho (jY hel) hd hn hc.2 hK
   ·cases hc
  ·cases hc
 ·simp only[au] at hc;obtain⟨hd,hn⟩:=cB hc.1;have hc:=hc.2;split at hc
  ·rename_i as ts ho;split at hc;·rename_i x' ty has hts;simp only[au] at hc;rw[rW has,rW hts] at ho;exact QG h ho (tX hc.1) hd hn hc.2 hK
   ·cases hc
  ·cases hc
 ·simp only[au] at hc;obtain⟨hd,hn⟩:=cB hc.1;have hc:=hc.2;split at hc
  ·rename_i as ts ho;split at hc;·rename_i x' y' has;simp only[au] at hc;rw[zh has] at ho;exact Qz h ho hd hn hc.1 hc.2 hK
   ·cases hc
  ·cases hc
 ·simp only[au] at hc;obtain⟨hd,hn⟩:=cB hc.1;have hc:=hc.2;split at hc
  ·rename_i as ts ho;split at hc;·rename_i x' y' has;simp only[au] at hc;rw[zh has] at ho;exact QA h ho hd hn hc.1 hc.2 hK
   ·cases hc
  ·cases hc
 ·cases hc
end
end M
namespace M
open Go Go.RowKit
variable [Bs]
def Step(P:Program)(c:Ctx)(o:Oper)(a:Act)(w:World)(K:af->Prop)(q:Bool):Prop:=
 (∃v w',((execOp a.eval o).run P w=.ok (.value v) w'\/((execOp a.eval o).run P w=.ok .skip w'/\v=undef))/\Rel q w w'/\∃G' ay s',K s'/\St c G' ay s' (a.put o.dst v) w')\/mw P c o a w K q
section
variable {P:Program}{c:Ctx}{G:Nat->C}{zl:Nat->Nat->Prop}{s:af}{a:Act}{w:World}{o:Oper}{K:af->Prop}
def Good.step(h:Good P c o a w K):Step P c o a w K false:=by obtain⟨v,w',hr,h⟩:=h;exact .inl ⟨v,w',hr,λhq=>by (cases hq),h⟩
def gB.step(h:gB P c o a w K)(q:Bool):Step P c o a w K q:=by obtain⟨v,w',hr,hE,h⟩:=h;exact .inl ⟨v,w',.inl hr,λ_=>hE,h⟩
def Step.wp{q:Bool}(h:Step P c o a w K q)(Q:Exit->Act->World->Prop):o.wp P a w (λa' w'=>Rel q w w'/\∃G' ay s',K s'/\St c G' ay s' a' w') Q:=by
 unfold Oper.wp;rcases h with ⟨v,w',hr,hq,h⟩|⟨f,args,hr,hc⟩
 ·rcases hr with hr|⟨hr,rfl⟩;·rw[hr];exact⟨hq,h⟩
  ·rw[hr];exact⟨hq,h⟩
 ·rw[hr];refine Calls.mono hc λe w' he=>?_;obtain⟨v,rfl,hq,h⟩:=he;exact⟨hq,h⟩
def DO(P:Program)(t:TypeId)(sz bytes:Nat)(z:List X):Bool:=match P.info? t with
 |some i=>decide (i.size=sz) && decide (i.bytes=bytes) && (match i.zero with|some v=>jG v.cells.toList z|none=>false)
 |none=>false
def T9{t:TypeId}{sz bytes:Nat}{z:List X}(h:DO P t sz bytes z=true):∃i v,P.info? t=some i/\i.size=sz/\i.bytes=bytes/\i.zero=some v/\jG v.cells.toList z=true:=by
 unfold DO at h;split at h
 ·rename_i i hi;simp only[au,aP] at h;obtain⟨⟨h1,h2⟩,h3⟩:=h;split at h3;·rename_i v hv;exact⟨i,v,hi,h1,h2,hv,h3⟩
  ·cases h3
 ·cases h
def DR(P:Program)(t:TypeId)(sz bytes:Nat):Bool:=match P.info? t with
 |some i=>decide (i.size=sz) && decide (i.bytes=bytes) && (match i.zero with|some v=>decide (v.cells.size=sz)|none=>false)
 |none=>false
def Ud{t:TypeId}{sz bytes:Nat}(h:DR P t sz bytes=true):∃i v,P.info? t=some i/\i.size=sz/\i.bytes=bytes/\i.zero=some v/\v.cells.size=sz:=by
 unfold DR at h;split at h
 ·rename_i i hi;simp only[au,aP] at h;obtain⟨⟨h1,h2⟩,h3⟩:=h;split at h3;·rename_i v hv;exact⟨i,v,hi,h1,h2,hv,sj h3⟩
  ·cases h3
 ·cases h
def DP(P:Program)(t:TypeId)(sz:Nat):Bool:=match P.info? t with
 |some i=>decide (i.size=sz) && (match i.zero with|some v=>decide (v.cells.size=sz)|none=>false)
 |none=>false
def Uc{t:TypeId}{sz:Nat}(h:DP P t sz=true):∃i v,P.info? t=some i/\i.size=sz/\i.zero=some v/\v.cells.size=sz:=by
 unfold DP at h;split at h
 ·rename_i i hi;simp only[au,aP] at h;obtain⟨h1,h3⟩:=h;split at h3;·rename_i v hv;exact⟨i,v,hi,h1,hv,sj h3⟩
  ·cases h3
 ·cases h
def vP(P:Program)(t:TypeId)(z:List X):Bool:=match P.info? t with
 |some i=>(match i.zero with|some v=>jG v.cells.toList z|none=>false)
 |none=>false
def DQ{t:TypeId}{z:List X}(h:vP P t z=true):∃i v,P.info? t=some i/\i.zero=some v/\jG v.cells.toList z=true:=by
 unfold vP at h;split at h
 ·rename_i i hi;split at h;·rename_i v hv;exact⟨i,v,hi,hv,h⟩
  ·cases h
 ·cases h
def placesOf(P:Program)(t:TypeId):Option (List (Nat×Nat)):=match P.underlying t with
 |some (.struct fs)=>fs.toList.mapM λf=>(P.info? f.type).map λi=>(f.offset,i.size)
 |some (.array n e)=>(P.info? e).map λi=>(List.range n).map λk=>(k*i.size,i.size)
 |_=>none
def Fu{p q:Nat->Option (Nat×Nat)}(h:∀i r,p i=some r->q i=some r):∀(parts:List (Nat×Value)) (cells r:Array Value),Instr.fill p cells parts=some r->Instr.fill q cells parts=some r
 |[],cells,r,hf=>hf
 |(i,v)::rest,cells,r,hf=>by
  unfold Instr.fill at hf⊢;cases hp:p i with
  |none=>rw[hp] at hf;cases hf
  |some pr=>
   rw[hp] at hf;rw[h i pr hp];obtain⟨off,size⟩:=pr;simp only at hf⊢;split at hf;·cases hf
   ·rename_i hc;rw[aC hc];exact Fu h rest _ r hf
def QU{t:TypeId}{places:List (Nat×Nat)}(hp:placesOf P t=some places){i:TypeInfo}(hi:P.info? t=some i){v:Value}(hz:i.zero=some v):∀parts cells,Instr.fill (λi=>places[i]?) v.cells parts=some cells->P.built t parts=some cells:=by
 intro parts cells hf;unfold placesOf at hp;unfold Program.built;rw[hi];split at hp;·rename_i fs hfs;rw[hfs];simp only[hz,hp];simpa using hf
 ·rename_i n e he;rw[he];cases hie:P.info? e with
  |none=>rw[hie] at hp;cases hp
  |some ie=>
   rw[hie] at hp;simp only[bM,cE] at hp;simp only[hz,hie];refine Fu (λk r hk=>?_) _ _ _ hf;rw[<-hp,C.b8] at hk;split at hk;·exact hk
   ·cases hk
 ·cases hp
def sW(nt:Nat)(o:Oper)(d:Option Nat):Bool:=match o.dst,d with
 |some d',some d=>d'==d && decide (d<nt)
 |none,none=>true
 |_,_=>false
def AP{nt:Nat}{d:Option Nat}(h:sW nt o d=true):o.dst=d/\∀n,o.dst=some n->n<nt:=by
 unfold sW at h;split at h;·rename_i d' d hd;simp only[au,cT,aP] at h;rw[hd,h.1];exact⟨rfl,λn hn=>by injection hn with hn;rw[<-hn];exact h.2⟩
 ·rename_i hd;rw[hd];exact⟨rfl,λn hn=>by cases hn⟩
 ·cases h
def AB(P:Program)(nt:Nat)(o:Oper):bt->Bool
 |.bk d h x=>cr nt o d && (match o.op with|.assign x'=>aG x' x|_=>false)
 |.box d h x=>cr nt o d && (match o.op with|.box _ x'=>aG x' x|_=>false)
 |.new d z=>cr nt o d && (match o.op with|.alloc ty=>vP P ty z|_=>false)
 |.make d sz bytes z n=>cr nt o d && (match o.op with|.makeSlice ty n1 n2=>(match iW P ty with|some el=>DO P el sz bytes z && decide (0<bytes) && decide (0<sz) && decide (z.length=sz) && aG n1 n && aG n2 n|none=>false)|_=>false)
 |.bytes d x=>cr nt o d && (match o.op with|.convert src dst x'=>(match iW P dst with|some el=>isInt P el .u8 && isStr P src && aG x' x|none=>false)|_=>false)
 |.lit d h sz ps=>cr nt o d && (match o.op with|.buildSlice ty n ps'=>(match iW P ty with|some el=>DP P el sz && decide (0<sz) && decide (ps'.toList.length=n) && decide (n*sz<=16777216) && sR 0 ps'.toList ps|none=>false)|_=>false)
 |.build d h z ps=>cr nt o d && (match o.op with|.build ty ps'=>(match placesOf P ty with|some places=>vP P ty z && oq places z.length ps'.toList ps|none=>false)|_=>false)
 |.store sz h y x=>(match o.dst with|none=>true|some _=>false) && (match o.op with|.store ty y' x'=>iJ P ty sz && decide (0<sz) && aG x' x && aG y' y|_=>false)
 |.app d h sz bytes x y=>cr nt o d && (match o.op with|.call ⟨.builtin .append,as,ts⟩=>(match as.toList,ts.toList with|[x',y'],[ty,ty']=>(match iW P ty,iW P ty' with|some el,some _=>DR P el sz bytes && decide (0<bytes) && decide (0<sz) && aG x' x && aG y' y|_,_=>false)|_,_=>false)|_=>false)
 |.call d f as=>sW nt o d && (match o.op with|.call ⟨.value (.func f'),as',_⟩=>f'==f && aF P f && eL as'.toList as|_=>false)
 |.lf d x as=>sW nt o d && (match o.op with|.call ⟨.value x',as',_⟩=>aG x' x && eL as'.toList as|_=>false)
 |.qk sz z x=>(match o.dst with|none=>true|some _=>false) && (match o.op with|.call ⟨.builtin .clear,as,ts⟩=>(match as.toList,ts.toList with|[x'],[ty]=>(match iW P ty with|some el=>vP P el z && decide (z.length=sz) && decide (0<sz) && aG x' x|_=>false)|_,_=>false)|_=>false)
 |.mF d f x as=>sW nt o d && (match o.op with|.call ⟨.value (.func f'),as',_⟩=>f'==f && aF P f && (match as'.toList with|x'::l'=>aG x' x && eL l' as && fN as|[]=>false)|_=>false)
 |_=>false
def Le(h:St c G zl s a w){x:bt}(hc:AB P c.nt o x=true)(hK:aI P x s K):Step P c o a w K (nD x):=by
 unfold AB at hc;split at hc
 ·simp only[au] at hc;obtain⟨hd,hn⟩:=cB hc.1;have hc:=hc.2;split at hc;·rename_i ho;exact(Qe h ho hd hn hc hK).step _
  ·cases hc
 ·simp only[au] at hc;obtain⟨hd,hn⟩:=cB hc.1;have hc:=hc.2;split at hc;·rename_i ho;exact(Qh h ho hd hn hc hK).step _
  ·cases hc
 ·simp only[au] at hc;obtain⟨hd,hn⟩:=cB hc.1;have hc:=hc.2;split at hc;·rename_i ho;obtain⟨i,v,h1,h2,h3⟩:=DQ hc;exact(QB h ho h1 h2 h3 hd hn hK).step _
  ·cases hc
 ·simp only[au] at hc;obtain⟨hd,hn⟩:=cB hc.1;have hc:=hc.2;split at hc
  ·rename_i ho;split at hc;·rename_i el hel;simp only[au,aP] at hc;obtain⟨⟨⟨⟨⟨h1,h2⟩,h3⟩,h4⟩,h5⟩,h6⟩:=hc;obtain⟨i,v,i1,i2,i3,i4,i5⟩:=T9 h1;exact(Qx h ho (jY hel) i1 i4 i2 i3 h2 h3 h4 i5 hd hn h5 h6 hK).step _
   ·cases hc
  ·cases hc
 ·simp only[au] at hc;obtain⟨hd,hn⟩:=cB hc.1;have hc:=hc.2;split at hc
  ·rename_i ho;split at hc;·rename_i el hel;simp only[au] at hc;exact(Qj h ho (tX hc.1.2) (jY hel) (BQ hc.1.1) hd hn hc.2 hK).step _
   ·cases hc
  ·cases hc
 ·simp only[au] at hc;obtain⟨hd,hn⟩:=cB hc.1;have hc:=hc.2;split at hc
  ·rename_i ho;split at hc;·rename_i el hel;simp only[au,aP] at hc;obtain⟨⟨⟨⟨h1,h2⟩,h3⟩,h4⟩,h5⟩:=hc;obtain⟨i,v,i1,i2,i3,i4⟩:=Uc h1;exact(Qv h ho (jY hel) i1 i3 i2 h2 i4 h3 h4 hd hn h5 hK).step _
   ·cases hc
  ·cases hc
 ·simp only[au] at hc;obtain⟨hd,hn⟩:=cB hc.1;have hc:=hc.2;split at hc
  ·rename_i ho;split at hc;·rename_i places hp;simp only[au] at hc;obtain⟨i,v,i1,i2,i3⟩:=DQ hc.1;exact(Qi (i:=i) h ho (QU hp i1 i2) i3 hd hn hc.2 hK).step _
   ·cases hc
  ·cases hc
 ·simp only[au] at hc;obtain⟨hd,hc⟩:=hc
  have hd:o.dst=none:=by
   split at hd;·assumption
   ·cases hd
  split at hc;·rename_i ho;simp only[au,aP] at hc;obtain⟨⟨⟨h1,h2⟩,h3⟩,h4⟩:=hc;exact(QI h ho (mV h1) h2 hd h3 h4 hK).step
  ·cases hc
 ·simp only[au] at hc;obtain⟨hd,hn⟩:=cB hc.1;have hc:=hc.2;split at hc
  ·rename_i as ts ho;split at hc
   ·rename_i x' y' ty ty' has hts;split at hc;·rename_i el wF hel N4;simp only[au,aP] at hc;obtain⟨⟨⟨⟨h1,h2⟩,h3⟩,h4⟩,h5⟩:=hc;obtain⟨i,v,i1,i2,i3,i4,i5⟩:=Ud h1;rw[zh has,zh hts] at ho;exact(Qd h ho (jY hel) (jY N4) i1 i4 i2 i3 h2 h3 i5 hd hn h4 h5 hK).step
    ·cases hc
   ·cases hc
  ·cases hc
 ·simp only[au] at hc;obtain⟨hd,hc⟩:=hc;obtain⟨hd,hn⟩:=AP hd;subst hd;split at hc;·rename_i f' as' ts ho;simp only[au,cT] at hc;obtain⟨⟨rfl,h2⟩,h3⟩:=hc;obtain⟨fn,f1,f2,f3⟩:=A7 h2;exact .inr (Qk h ho f1 f2 f3 hn h3 hK)
  ·cases hc
 ·simp only[au] at hc;obtain⟨hd,hc⟩:=hc;obtain⟨hd,hn⟩:=AP hd;subst hd;split at hc;·rename_i x' as' ts ho;simp only[au] at hc;exact .inr (Qm h ho hc.1 hn hc.2 hK)
  ·cases hc
 ·simp only[au] at hc;obtain⟨hd,hc⟩:=hc
  have hd:o.dst=none:=by
   split at hd;·assumption
   ·cases hd
  split at hc
  ·rename_i as ts ho;split at hc
   ·rename_i x' ty has hts;split at hc;·rename_i el hel;simp only[au,aP] at hc;obtain⟨⟨⟨h1,h2⟩,h3⟩,h4⟩:=hc;obtain⟨i,v,i1,i2,i3⟩:=DQ h1;rw[rW has,rW hts] at ho;exact(Qo h ho (jY hel) i1 i2 i3 h2 h3 hd h4 hK).step
    ·cases hc
   ·cases hc
  ·cases hc
 ·simp only[au] at hc;obtain⟨hd,hc⟩:=hc;obtain⟨hd,hn⟩:=AP hd;subst hd;split at hc
  ·rename_i f' as' ts ho;simp only[au,cT] at hc;obtain⟨⟨rfl,h2⟩,h3⟩:=hc;obtain⟨fn,f1,f2,f3⟩:=A7 h2;split at h3;·rename_i x' l' hl;simp only[au] at h3;exact .inr (Ql h ho hl f1 f2 f3 hn h3.1.1 h3.1.2 h3.2 hK)
   ·cases h3
  ·cases hc
 ·cases hc
def sQ(P:Program)(nt:Nat)(o:Oper)(x:bt):Bool:=bif ri x then wv P nt o x else AB P nt o x
def ET(h:St c G zl s a w){x:bt}(hc:sQ P c.nt o x=true)(hK:aI P x s K):Step P c o a w K (nD x):=by
 unfold sQ at hc;cases hr:ri x with
 |true=>rw[hr] at hc;exact(AA h hc hK).quiet.step _
 |false=>rw[hr] at hc;exact Le h hc hK
end
end M
namespace M
open Go Go.RowKit
variable [Bs]
section
variable {P:Program}{c:Ctx}{G:Nat->C}{zl:Nat->Nat->Prop}{s s':af}{a:Act}{w:World}{K:af->Prop}{ops:Array Oper}
def St.congr(h:St c G zl s a w)(he:∀t,get s t=get s' t):St c G zl s' a w:=
 {h with inv:={h.inv with er:=λt=>(h.inv.er t).trans (he t)}}
def lp(P:Program)(nt:Nat)(ops:Array Oper)(i:Nat)(g:M.G):Bool:=match ops[i]? with
 |some o=>(match o.guard,g.g with
  |none,none=>true
  |some (j,b),some (t,b')=>b==b' && decide (t<base) && (match ops[j]? with|some oj=>decide (oj.dst=some t)|none=>false)
  |_,_=>false) && decide (o.dst=g.o.dst) && (match g.o.dst with|some d=>decide (d<nt)|none=>true) && sQ P nt o g.o
 |none=>false
def p6(c:Ctx)(K:af->Prop)(a:Act)(w:World):Prop:=∃G zl s,K s/\St c G zl s a w
def IV(h:St c G zl s a w){t j:Nat}{v:Bool}(hv:get s t=.bool v)(ht:t<base){oj:Oper}(hj:ops[j]?=some oj)(hd:oj.dst=some t):yielded ops a.tmps j=some v:=by
 have hG:=h.inv.er t;rw[hv] at hG;have hc:=mO hG;have:=h.val t ht;rw[hc,C.val] at this;unfold yielded;simp only[hj,jx,hd];rw[pV] at this;cases ht:a.tmps[t]? with
 |none=>rw[ht] at this;simp[undef] at this
 |some u=>rw[ht] at this;simp only[zE] at this;rw[<-this]
def St.zm(h:St c G zl s a w)(d:Option Nat)(hn:∀n,d=some n->n<c.nt):∃G',St c G' zl (dN d (.aq []) s) (a.put d undef) w:=by
 cases d with
 |none=>exact⟨G,h⟩
 |some n=>exact h.put (x:=.aq 0 λ_=>.dead undef) (hn n rfl) ⟨λj hj=>(by omega),λj hj=>(by omega)⟩ (λ_ _ b k ⟨j,hj,_⟩=>(by omega)) (λb k ⟨j,hj,_⟩=>(by omega)) (λj hj=>(by omega)) (λb k ⟨j,hj,_⟩=>(by omega))
def wY{t:Nat}{v:Bool}(hv:get s t=.bool v):∀u,get s u=get ((t,.bool v)::s) u:=λu=>by
 rw[qx];split;·rename_i e;subst e;exact hv
 ·rfl
def IW(h:St c G zl s a w){t j:Nat}(hv:get s t=.aq [])(ht:t<base){oj:Oper}(hj:ops[j]?=some oj)(hd:oj.dst=some t):yielded ops a.tmps j=none:=by
 have hG:=h.inv.er t;rw[hv] at hG;have hval:=h.val t ht
 have:(G t).val=.tuple #[]:=by
  cases hc:G t with
  |aq n f=>rw[hc] at hG;simp only[C.er,X.aq.injEq,List.map_eq_nil_iff,List.range_eq_nil] at hG;subst hG;rfl
  |_=>rw[hc] at hG;simp[C.er] at hG
 rw[this] at hval;unfold yielded;simp only[hj,jx,hd];rw[pV] at hval;cases ht:a.tmps[t]? with
 |none=>rfl
 |some u=>rw[ht] at hval;simp only[zE] at hval;rw[<-hval]
def ER{i:Nat}{g:M.G}(h:St c G zl s a w)(hc:lp P c.nt ops i g=true)(hK:k8 P g s K)(Q:Exit->Act->World->Prop):
  wpOp P ops Q i (λa' w'=>Rel (nD g.o) w w'/\p6 c K a' w') a w:=by
 unfold lp at hc;split at hc
 ·rename_i o ho;simp only[au,aP] at hc;obtain⟨⟨⟨hg,hd⟩,hn⟩,hop⟩:=hc;unfold wpOp;simp only[ho];obtain⟨gg,go⟩:=g;split at hg
  ·rename_i h1 h2;subst h2;have hw:Region.wanted o (yielded ops a.tmps)=true:=by simp[Region.wanted,h1]
   rw[aA hw];exact .inl ((ET h hop hK).wp Q)
  ·rename_i j b t b' h1 h2;subst h2;simp only[au,cT,aP] at hg;obtain⟨⟨rfl,ht⟩,hj⟩:=hg;split at hj
   ·rename_i oj ei;have hj:=sj hj;simp only[k8] at hK;split at hK
    ·rename_i v hv;have hy:=IV h hv ht ei hj;obtain⟨k1,k2⟩:=hK;have mZ:Region.wanted o (yielded ops a.tmps)=(v==b):=by simp only[Region.wanted,h1,hy];cases v<;>cases b<;>rfl
     rw[mZ];by_cases iN:v=b;·subst iN;rw[aA (by simp)];exact .inl ((ET (h.congr (wY hv)) hop (k1 rfl)).wp Q)
     ·have hnb:v= !b:=by cases v<;>cases b<;>first|rfl|exact absurd rfl iN
      rw[aC (by simpa using iN)];subst hnb;obtain⟨G',h'⟩:=(h.congr (wY hv)).zm o.dst (λn hU=>by rw[hd] at hU;simp only[hU] at hn;simpa using hn)
      rw[hd] at h'⊢;exact⟨Rel.refl _ _,G',zl,_,k2 rfl,h'⟩
    ·rename_i hv;have hy:=IW h hv ht ei hj;have mZ:Region.wanted o (yielded ops a.tmps)=false:=by simp only[Region.wanted,h1,hy];rfl
     rw[mZ,aC (by simp)];obtain⟨G',h'⟩:=h.zm o.dst (λn hU=>by rw[hd] at hU;simp only[hU] at hn;simpa using hn)
     rw[hd] at h'⊢;exact⟨Rel.refl _ _,G',zl,_,hK,h'⟩
    ·exact hK.elim
   ·cases hj
  ·cases hg
 ·cases hc
def Ld{i:Nat}{g:M.G}(h:St c G zl s a w)(hc:lp P c.nt ops i g=true)(hr:ri g.o=true)(hK:k8 P g s K):
  ∃o v,ops[i]?=some o/\j8 P ops o v a w/\p6 c K (a.put o.dst v) w:=by
 unfold lp at hc;split at hc
 ·rename_i o ho;simp only[au,aP] at hc;obtain⟨⟨⟨hg,hd⟩,hn⟩,hop⟩:=hc;obtain⟨gg,go⟩:=g;unfold sQ at hop;simp only at hr hop;rw[hr] at hop;simp only[iY] at hop;refine⟨o,?_⟩;split at hg
  ·rename_i h1 h2;subst h2;have hw:Region.wanted o (yielded ops a.tmps)=true:=by simp[Region.wanted,h1]
   obtain⟨v,hv,G',ay,s',k1,k2⟩:=AA h hop hK;exact⟨v,ho,.inl ⟨hw,hv⟩,G',ay,s',k1,k2⟩
  ·rename_i j b t b' h1 h2;subst h2;simp only[au,cT,aP] at hg;obtain⟨⟨rfl,ht⟩,hj⟩:=hg;split at hj
   ·rename_i oj ei;have hj:=sj hj;simp only[k8] at hK;split at hK
    ·rename_i v hv;have hy:=IV h hv ht ei hj;obtain⟨k1,k2⟩:=hK;have mZ:Region.wanted o (yielded ops a.tmps)=(v==b):=by simp only[Region.wanted,h1,hy];cases v<;>cases b<;>rfl
     by_cases iN:v=b;·subst iN;obtain⟨u,hu,G',ay,s',k3,k4⟩:=AA (h.congr (wY hv)) hop (k1 rfl);exact⟨u,ho,.inl ⟨by rw[mZ];simp,hu⟩,G',ay,s',k3,k4⟩
     ·have hnb:v= !b:=by cases v<;>cases b<;>first|rfl|exact absurd rfl iN
      subst hnb;obtain⟨G',h'⟩:=(h.congr (wY hv)).zm o.dst (λn hU=>by rw[hd] at hU;simp only[hU] at hn;simpa using hn)
      refine⟨undef,ho,.inr ⟨by rw[mZ];simp,rfl⟩,G',zl,_,k2 rfl,?_⟩;rw[hd] at h'⊢;exact h'
    ·rename_i hv;have hy:=IW h hv ht ei hj;have mZ:Region.wanted o (yielded ops a.tmps)=false:=by simp only[Region.wanted,h1,hy];rfl
     obtain⟨G',h'⟩:=h.zm o.dst (λn hU=>by rw[hd] at hU;simp only[hU] at hn;simpa using hn)
     refine⟨undef,ho,.inr ⟨mZ,rfl⟩,G',zl,_,hK,?_⟩;rw[hd] at h'⊢;exact h'
    ·exact hK.elim
   ·cases hj
  ·cases hg
 ·cases hc
def gA(c:Ctx)(Q:Ex->af->Prop):Exit->Act->World->Prop
 |.normal,a,w=>p6 c (Q .normal) a w
 |.exit id,a,w=>p6 c (Q (.exit id)) a w
 |.ret,a,w=>p6 c (Q .ret) a w
 |_,_,_=>False
def mJ(P:Program)(nt:Nat)(ops:Array Oper):Nat->List M.G->Bool
 |k,[]=>decide (k=ops.size)
 |k,g::l=>lp P nt ops k g && mJ P nt ops (k+1) l
def Hh{Q:Ex->af->Prop}:∀(l:List M.G) (k:Nat) {G:Nat->C} {zl:Nat->Nat->Prop} {s:af} {a:Act} {w:World},mJ P c.nt ops k l=true->St c G zl s a w->gS P l s Q->wpOps P ops (gA c Q) (List.range' k l.length) a w
 |[],k,G,zl,s,a,w,hc,h,hK=>⟨G,zl,s,hK,h⟩
 |g::l,k,G,zl,s,a,w,hc,h,hK=>by simp only[mJ,au] at hc;rw[cw,List.range'_succ,wpOps_cons];refine wpOp_mono (λa' w' ⟨_,G',ay,s',k1,k2⟩=>?_) (ER h hc.1 hK (gA c Q));exact Hh l (k+1) hc.2 k2 k1
def ES:∀(l:List M.G) (k:Nat),mJ P c.nt ops k l=true->k+l.length=ops.size
 |[],k,h=>by simpa [mJ] using h
 |g::l,k,h=>by simp only[mJ,au] at h;have:=ES l (k+1) h.2;simp only[cw];omega
def Q7{Q:Ex->af->Prop}{l:List M.G}{id:Nat}(hc:mJ P c.nt ops 0 l=true)(h:St c G zl s a w)(hK:gS P l s Q):(Code.region id ops false).wp P (gA c Q) a w:=by refine wp_region ?_;have hl:=ES l 0 hc;rw[List.range_eq_range',<-hl,j6];exact Hh l 0 hc h hK
def FO(BX:List Nat)(s:af)(t:Nat):∀ks:List Nat,get (ks.map λk=>(k,(get s k).only BX)) t=if ks.contains t then (get s t).only BX else .dead
 |[]=>rfl
 |k::ks=>by
  simp only[aS,get];by_cases h:k=t;·subst h;simp
  ·have h1:(k==t)=false:=by simpa using h
   have h2:(k::ks).contains t=ks.contains t:=by
    simp only[List.contains_cons];have:(t==k)=false:=by simpa using λe=>h e.symm
    rw[this,Bool.false_or]
   rw[h1,h2,mb];exact FO BX s t ks
def St.keep(h:St c G zl s a w)(ks:List Nat):∃G',St c G' zl (M.keep ks s) a w:=by
 let G':Nat->C:=λt=>if ks.contains t then (G t).ak (C.others ks) else .dead (G t).val
 have hin:∀t,ks.contains t=true->G' t=(G t).ak (C.others ks):=λt ht=>aA ht;have hout:∀t,ks.contains t=false->G' t=.dead (G t).val:=λt ht=>aC (by rw[ht];simp)
 have hv:∀t,(G' t).val=(G t).val:=λt=>by
  cases ht:ks.contains t with
  |true=>rw[hin t ht,C.fL]
  |false=>rw[hout t ht];rfl
 have bu:∀t b k,(G' t).fp b k->(G t).fp b k:=λt b k hf=>by
  cases ht:ks.contains t with
  |true=>rw[hin t ht,C.bK] at hf;exact hf
  |false=>rw[hout t ht] at hf;exact hf.elim
 refine⟨G',h.move ⟨λt=>?_,λt=>?_,λt u hne b k hf hf'=>h.inv.sep t u hne b k (bu t b k hf) (bu u b k hf'),λt b k hf=>h.inv.fz t b k (bu t b k hf),λt=>?_,h.inv.bF⟩ hv (Ext.refl (λ_ _=>False) w) (λ_ _ hs=>hs.elim) (λt b k hf=>.inl ⟨t,bu t b k hf⟩)⟩
 ·unfold M.keep;rw[FO];cases ht:ks.contains t with
  |true=>rw[hin t ht,C.uC,h.inv.er];rfl
  |false=>rw[hout t ht];rfl
 ·cases ht:ks.contains t with
  |true=>rw[hin t ht];exact C.jo _ _ (h.inv.ok t)
  |false=>rw[hout t ht];trivial
 ·cases ht:ks.contains t with
  |true=>
   rw[hin t ht];refine C.iV (C.others ks) (λs' q y hk hs=>?_) _ (C.en _ _) (C.jS _ _ (h.inv.rf t));have hs':ks.contains s'=true:=by simpa [C.others] using hk
   rw[hin s' hs'];rcases C.self y _ q hs with ⟨z,hz,hs2⟩|hno;·exact .inl ⟨_,hz.off _,C.fK _ q _ _ (h.inv.ok s') hs2⟩
   ·exact .inr hno
  |false=>rw[hout t ht];trivial
def wJ:bt->Bool
 |.lq _ _ _=>true
 |_=>false
def Lz{ev:Operand->Value}{o:Oper}{ty:TypeId}{fi:Nat}{x':Operand}{fs:Array Field}{f:Field}{i:TypeInfo}(ho:o.op=.fieldAddr ty x' fi)(hu:P.underlying ty=some (.struct fs))(hf:fs[fi]?=some f)(hi:P.info? f.type=some i)(hi0:i.size≠0){v:Value}{w:World}(h:(execOp ev o).run P w=.ok (.value v) w)(w':World):(execOp ev o).run P w'=.ok (.value v) w':=by
 cases hv:ev x' with
 |pointer p=>
  cases p with
  |none=>simp[execOp,ho,hv,Instr.fieldAt,Instr.sureAddr,run_underlying hu,hf] at h
  |some a=>simp[execOp,ho,hv,Instr.fieldAt,Instr.sureAddr,run_underlying hu,hf,fieldPlace,Go.sizeOf,typeInfo,hi,hi0] at h⊢;exact h
 |_=>simp[execOp,ho,hv,Instr.fieldAt,Instr.sureAddr,run_underlying hu,hf] at h
def Lc{i:Nat}{g:M.G}(hc:lp P c.nt ops i g=true)(he:wJ g.o=true){o:Oper}{v:Value}(ho:ops[i]?=some o)(hl:j8 P ops o v a w):mj P ops o v a:=by
 rcases hl with ⟨h1,h2⟩|h
 ·refine .inl ⟨h1,?_⟩;have h3:=h2 w (Ext.refl _ _);unfold lp at hc;rw[ho] at hc;simp only[au] at hc;obtain⟨_,hop⟩:=hc;obtain⟨gg,go⟩:=g;cases go<;>simp only[wJ] at he<;>try (cases he)
  unfold sQ at hop;simp only[ri,iY] at hop;unfold wv at hop;simp only[au] at hop;have hc:=hop.2;split at hc
  ·rename_i hfo;split at hc
   ·rename_i fs hfs;split at hc;·rename_i f hf;simp only[au,aP,pT] at hc;obtain⟨⟨⟨h5,h6⟩,h7⟩,h8⟩:=hc;obtain⟨i,hi⟩:=sg.1 h7;exact λw'=>Lz hfo hfs hf hi (λh0=>by simp[iJ,hi,h0] at h6) h3 w'
    ·cases hc
   ·cases hc
  ·cases hc
 ·exact .inr h
def DT.gW:DT->List Nat
 |.nil _=>[]
 |.step i _ _=>[i]
 |.alt a b=>a.gW++b.gW
 |.kp _ t=>t.gW
def DT.quiet:DT->Nat->Bool
 |.nil _,_=>true
 |.step i g t,j=>(if i=j then nD g.o else true) && t.quiet j
 |.alt a b,j=>a.quiet j && b.quiet j
 |.kp _ t,j=>t.quiet j
def A8(ops:Array Oper)(q:Nat->Bool)(t:Nat->Nat->Bool)(listed:Array Bool)(e:Bool)(i:Nat):Bool:=match ops[i]? with
 | some oi => (List.range ops.size).all λj => j == i || listed.getD j true || t j i || ((e || q j) && (match ops[j]? with
  |some oj=>oi.apart ops oj
  |none=>true))
 |none=>false
def ec(P:Program)(nt:Nat)(ops:Array Oper)(q:Nat->Bool)(bf:Nat->Nat->Bool):DT->Nat->Array Bool->Bool->Bool
 |.nil _,_,listed,alt=> !alt && decide (Region.ready .any ops listed=[])
 |.step i g t,fuel,listed,alt=>(match fuel with
  |0=>false
  |fuel+1=>lp P nt ops i g && (!q i||nD g.o) && (alt||decide (Region.ready .any ops listed=[i])||(ri g.o && (Region.ready .any ops listed).contains i && A8 ops q bf listed (wJ g.o) i)) && ec P nt ops q bf t fuel (listed.setIfInBounds i true) false)
 |.alt a b,fuel,listed,alt=>(alt||decide (Region.ready .any ops listed=a.gW++b.gW)) && ec P nt ops q bf a fuel listed true && ec P nt ops q bf b fuel listed true
 |.kp _ t,fuel,listed,alt=>ec P nt ops q bf t fuel listed alt
def FI{q:Nat->Bool}{t:Nat->Nat->Bool}{listed:Array Bool}{i:Nat}{oi:Oper}{e:Bool}(hi:ops[i]?=some oi)(h:A8 ops q t listed e i=true)(j:Nat)(oj:Oper)(hj:ops[j]?=some oj)(hne:j≠i)(hun:listed.getD j true=false)(hno:t j i=false):oi.apart ops oj=true/\(e=true\/q j=true):=by simp only[A8,hi,kV,nY] at h;have h1:=h j (gQ.1 hj).1;simp only[hj,pU,cT,hne,false_or,hun,gx,hno,au] at h1;exact⟨h1.2,h1.1⟩
def pN{q:Nat->Bool}{bf:Nat->Nat->Bool}(hY:qj ops bf=true)(hns:Region.noSelect ops=true){Q:Ex->af->Prop}:∀(t:DT) (fuel:Nat) (listed:Array Bool) {G:Nat->C} {zl:Nat->Nat->Prop} {s:af} {a:Act} {w:World},Down ops listed->St c G zl s a w->eR P t s Q->
  (ec P c.nt ops q bf t fuel listed false=true->wpAnyQ P ops q (gA c Q) fuel listed a w)/\
  ((∀i∈t.gW,i∈Region.ready .any ops listed)->ec P c.nt ops q bf t fuel listed true=true->∃f,fuel=f+1/\∀i∈t.gW,wpOp P ops (gA c Q) i (λa' w'=>Rel (q i) w w'/\wpAnyQ P ops q (gA c Q) f (listed.setIfInBounds i true) a' w') a w)
 |.nil ks,fuel,listed,G,zl,s,a,w,hdn,h,hK=>by
  obtain⟨G',h'⟩:=h.keep ks;constructor
  ·intro hc;simp only[ec,Dw,Dx,aP] at hc;cases fuel with
   |zero=>exact⟨hc,G',zl,_,hK,h'⟩
   |succ f=>exact⟨λ_=>⟨G',zl,_,hK,h'⟩,by rw[hc];intro i hi;cases hi⟩
  ·intro _ hc;simp[ec] at hc
 |.step i g t,fuel,listed,G,zl,s,a,w,hdn,h,hK=>by
  cases fuel with
  |zero=>exact⟨λhc=>by simp[ec] at hc,λ_ hc=>by simp[ec] at hc⟩
  |succ f=>
   have tG:i∈Region.ready .any ops listed->Down ops (listed.setIfInBounds i true):=λhr=>by obtain⟨_,o,ho,hall⟩:=mem_ready.1 hr;exact hdn.set ho hall
   have one:i∈Region.ready .any ops listed->ec P c.nt ops q bf t f (listed.setIfInBounds i true) false=true->lp P c.nt ops i g=true->(q i=true->nD g.o=true)->
     wpOp P ops (gA c Q) i (λa' w'=>Rel (q i) w w'/\wpAnyQ P ops q (gA c Q) f (listed.setIfInBounds i true) a' w') a w:=λqE ht hg hq=>
    wpOp_mono (λa' w' ⟨hr,G',ay,s',k1,k2⟩=>⟨λhqi=>hr (hq hqi),(pN hY hns t f _ (tG qE) k2 k1).1 ht⟩) (ER h hg hK (gA c Q))
   constructor
   ·intro hc;have hc0:=hc;simp only[ec,au,pU,aP,gx,false_or] at hc;obtain⟨⟨⟨hg,hq⟩,hr⟩,ht⟩:=hc;have kz:q i=true->nD g.o=true:=λhqi=>by rw[hqi] at hq;simpa using hq
    rcases hr with hr|⟨⟨hr,hrd⟩,Bo⟩;·refine⟨λh0=>(by rw[hr] at h0;cases h0),λj hj=>?_⟩;rw[hr,ew] at hj;subst hj;exact one (by rw[hr];exact ew.2 rfl) ht hg kz
    ·obtain⟨o,v,ho,hl,G',ay,s',k1,k2⟩:=Ld h hg hr hK;have qE:i∈Region.ready .any ops listed:=by simpa using hrd
     cases he:wJ g.o with
     |true=>exact TS ho (Region.noSelect_spec hns) (λ_ _ _ hh=>hh.elim) hY f listed a w hdn (λj oj hj hne hun hno=>(FI ho Bo j oj hj hne hun hno).1) qE (Lc hg he ho hl) ((pN hY hns t f _ (tG qE) k2 k1).1 ht)
     |false=>rw[he] at Bo;exact wpAnyQ_first ho (Region.noSelect_spec hns) (λ_ _ _ hh=>hh.elim) hY f listed a w hdn (λj oj hj hne hun hno=>(FI ho Bo j oj hj hne hun hno).imp id λh=>h.resolve_left (by simp)) qE hl ((pN hY hns t f _ (tG qE) k2 k1).1 ht)
   ·intro Br hc;have hc0:=hc;simp only[ec,au,pU,aP,true_or] at hc;obtain⟨⟨⟨hg,hq⟩,_⟩,ht⟩:=hc;have kz:q i=true->nD g.o=true:=λhqi=>by rw[hqi] at hq;simpa using hq
    refine⟨f,rfl,λj hj=>?_⟩;rw[DT.gW,ew] at hj;subst hj;exact one (Br j (ew.2 rfl)) ht hg kz
 |.alt t1 t2,fuel,listed,G,zl,s,a,w,hdn,h,hK=>by
  have both:(∀i∈t1.gW++t2.gW,i∈Region.ready .any ops listed)->ec P c.nt ops q bf t1 fuel listed true=true->ec P c.nt ops q bf t2 fuel listed true=true->∃f,fuel=f+1/\∀i∈t1.gW++t2.gW,wpOp P ops (gA c Q) i (λa' w'=>Rel (q i) w w'/\wpAnyQ P ops q (gA c Q) f (listed.setIfInBounds i true) a' w') a w:=λhh h1 h2=>by
   obtain⟨f,hf,i1⟩:=(pN hY hns t1 fuel listed hdn h hK.1).2 (λi hi=>hh i (Jf _ hi)) h1;obtain⟨f',hf',i2⟩:=(pN hY hns t2 fuel listed hdn h hK.2).2 (λi hi=>hh i (Jg _ hi)) h2;have:f'=f:=by omega
   subst this;exact⟨f',hf,λi hi=>(dz.1 hi).elim (i1 i) (i2 i)⟩
  constructor
  ·intro hc;simp only[ec,au,pU,aP,gx,false_or] at hc;obtain⟨⟨hr,h1⟩,h2⟩:=hc;obtain⟨f,rfl,hi⟩:=both (λi hi=>by rw[hr];exact hi) h1 h2;refine⟨λh0=>?_,λi hi'=>hi i (by rw[<-hr];exact hi')⟩;exfalso;rw[h0] at hr
   have ne:∀{t:DT},ec P c.nt ops q bf t (f+1) listed true=true->t.gW≠[]:=by
    intro t;induction t with
    |nil=>intro hh;simp[ec] at hh
    |step i g t _=>intro _ hh;cases hh
    |alt a b fk _=>intro hh he;simp only[ec,au] at hh;rw[DT.gW,I7] at he;exact fk hh.1.2 he.1
    |kp ks t ih=>exact ih
   have:=(I7.1 hr.symm).1;exact ne h1 this
  ·intro Br hc;simp only[ec,au,pU,aP,true_or,true_and] at hc;exact both Br hc.1 hc.2
 |.kp ks t,fuel,listed,G,zl,s,a,w,hdn,h,hK=>by obtain⟨G',h'⟩:=h.keep ks;exact pN hY hns t fuel listed hdn h' hK
def waits(ops:Array Oper)(j i:Nat):Bool:=((Region.before ops).getD j 0).testBit i
def Az(P:Program)(nt:Nat)(ops:Array Oper)(t:DT):Bool:=P.follows .mixedOrders && Region.noSelect ops && qj ops (waits ops) && ec P nt ops t.quiet (waits ops) t ops.size (Array.replicate ops.size false) false
def Ln{Q:Ex->af->Prop}{t:DT}{id:Nat}(hc:Az P c.nt ops t=true)(h:St c G zl s a w)(hK:eR P t s Q):(Code.region id ops true).wp P (gA c Q) a w:=by
 simp only[Az,au] at hc;obtain⟨⟨⟨hm,hns⟩,hY⟩,hc⟩:=hc;refine wp_region_any hm ?_;have hE:Ext (λ_ _=>False) w w.drew:=Ext.drew w _;have h':St c G zl s a w.drew:=h.move (h.inv.world hE λ_ _ hs=>hs.elim) (λ_=>rfl) hE (λ_ _ hs=>hs.elim) (λt b k hf=>.inl ⟨t,hf⟩);have hdn:Down ops (Array.replicate ops.size false):=λk ok _ hl=>by exfalso;simp only[pV,Jh] at hl;split at hl<;>simp at hl
 exact((pN hY hns t ops.size _ hdn h' hK).1 hc).any
end
end M
namespace M
open Go Go.RowKit
variable [Bs]
section
variable {P:Program}{c:Ctx}{G:Nat->C}{zl:Nat->Nat->Prop}{s s':af}{a:Act}{w:World}
def eM(P:Program)(nt:Nat):A->Code->Bool
 |.skip,.skip=>true
 |.ret,.ret=>true
 |.exit id,.exit id'=>decide (id=id')
 |.ops l,.region _ ops false=>mJ P nt ops 0 l
 |.draw t,.region _ ops true=>Az P nt ops t
 |.seq a b,.seq x y=>eM P nt a x && eM P nt b y
 |.cond c a b,.cond c' x y=>aG c' c && eM P nt a x && eM P nt b y
 |.block id b,.block id' x=>decide (id=id') && eM P nt b x
 |.loop b,.loop x=>eM P nt b x
 |.pk _ b,x=>eM P nt b x
 |_,_=>false
def least(p:Nat->Prop):(∃n,p n)->∃m,p m/\∀k,p k->m<=k:=by
 rintro ⟨n,hn⟩;induction n using Nat.strongRecOn with
 |_ n ih=>
  by_cases h:∃k,k<n/\p k;·obtain⟨k,hk,hp⟩:=h;exact ih k hk hp
  ·exact⟨n,hn,λk hk=>by
    rcases fA k n with hlt|hge;·exact(h ⟨k,hlt,hk⟩).elim
    ·exact hge⟩
def Li:∀(t:A) (code:Code) {Q:Ex->af->Prop} {G:Nat->C} {zl:Nat->Nat->Prop} {s:af} {a:Act} {w:World},eM P c.nt t code=true->St c G zl s a w->cX P t s Q->code.wp P (gA c Q) a w:=by
 intro t;induction t with
 |skip=>intro code Q G zl s a w hc h hK;unfold eM at hc;cases code<;>simp at hc;exact wp_skip ⟨G,zl,s,hK,h⟩
 |ret=>intro code Q G zl s a w hc h hK;unfold eM at hc;cases code<;>simp at hc;exact wp_ret ⟨G,zl,s,hK,h⟩
 |exit id=>intro code Q G zl s a w hc h hK;unfold eM at hc;cases code<;>simp at hc;subst hc;exact wp_exit ⟨G,zl,s,hK,h⟩
 |ops l=>
  intro code Q G zl s a w hc h hK;unfold eM at hc;cases code with
  |region id os d=>
   cases d with
   |false=>exact Q7 hc h hK
   |true=>simp at hc
  |_=>simp at hc
 |draw t=>
  intro code Q G zl s a w hc h hK;unfold eM at hc;cases code with
  |region id os d=>
   cases d with
   |true=>exact Ln hc h hK
   |false=>simp at hc
  |_=>simp at hc
 |seq x y BM BN=>
  intro code Q G zl s a w hc h hK;unfold eM at hc;cases code with
  |seq x' y'=>
   simp only[au] at hc;refine wp_seq (wp_mono (BM x' hc.1 h hK) λe a w he=>?_);cases e with
   |normal=>obtain⟨G,zl,s,k,h⟩:=he;exact BN y' hc.2 h k
   |exit id=>exact he
   |ret=>exact he
   |goto l=>exact he.elim
   |panic ch=>exact he.elim
   |outgrown=>exact he.elim
  |_=>simp at hc
 |cond cc x y BM BN=>
  intro code Q G zl s a w hc h hK;unfold eM at hc;cases code with
  |cond c' x' y'=>
   simp only[au] at hc;obtain⟨⟨h1,h2⟩,h3⟩:=hc;obtain⟨d,e1,e2,e3⟩:=bp h h1;simp only[cX] at hK;split at hK;·rename_i b hb;rw[<-e1] at hb;have:=mO hb;subst this;exact wp_cond_split (by rw[<-e2];rfl) (λht=>BM x' h2 h (hK.1 ht)) (λhf=>BN y' h3 h (hK.2 hf))
   ·exact hK.elim
  |_=>simp at hc
 |block id b ih=>
  intro code Q G zl s a w hc h hK;unfold eM at hc;cases code with
  |block id' x=>
   simp only[au,aP] at hc;obtain⟨rfl,hc⟩:=hc;refine wp_block (wp_mono (ih x hc h hK) λe a w he=>?_);cases e with
   |normal=>exact he
   |exit i=>
    obtain⟨G,zl,s,k,h⟩:=he;simp only at k;show if i=id then gA c Q .normal a w else gA c Q (.exit i) a w
    by_cases hi:i=id;·subst hi;rw[aA rfl];simp only[beq_self_eq_true,iY] at k;exact⟨G,zl,s,k,h⟩
    ·rw[aC hi];have:(i==id)=false:=by simpa using hi
     rw[this] at k;exact⟨G,zl,s,k,h⟩
   |ret=>exact he
   |goto l=>exact he.elim
   |panic ch=>exact he.elim
   |outgrown=>exact he.elim
  |_=>simp at hc
 |loop b ih=>
  intro code Q G zl s a w hc h hK;unfold eM at hc;cases code with
  |loop x=>
   obtain⟨I,⟨n,hn⟩,OD⟩:=hK;let J:Nat->Act->World->Prop:=λn a w=>p6 c (I n) a w;have Bu:=λa w=>least (λn=>J n a w);let μ:Act->World->Nat:=λa w=>by classical exact if hh:∃n,J n a w then Classical.choose (Bu a w hh) else 0
   have hμ:∀a w,(∃n,J n a w)->J (μ a w) a w/\∀k,J k a w->μ a w<=k:=λa w hh=>by have hspec:=vM (Bu a w hh);have:μ a w=Classical.choose (Bu a w hh):=j7 hh;rw[this];exact hspec
   refine wp_loop (λa w=>∃n,J n a w) μ ?_ λa w hI=>?_;·exact⟨n,G,zl,s,hn,h⟩
   ·obtain⟨⟨G1,nZ,s1,k1,h1⟩,_⟩:=hμ a w hI;refine wp_mono (ih x hc h1 (OD _ s1 k1)) λe a' w' he=>?_;cases e with
    |normal=>obtain⟨G2,n7,s2,⟨m,hm,Be⟩,h2⟩:=he;have hJ:J m a' w':=⟨G2,n7,s2,Be,h2⟩;exact⟨⟨m,hJ⟩,Nat.lt_of_le_of_lt ((hμ a' w' ⟨m,hJ⟩).2 m hJ) hm⟩
    |exit id=>exact he
    |ret=>exact he
    |goto l=>exact he.elim
    |panic ch=>exact he.elim
    |outgrown=>exact he.elim
  |_=>simp at hc
 |pk ks b ih=>
  intro code Q G zl s a w hc h hK;have hc:eM P c.nt b code=true:=by cases b<;>cases code<;>first|exact hc|(rename_i d;cases d<;>exact hc)
  refine wp_mono (ih code hc h hK) λe a w he=>?_;cases e with
  |normal=>obtain⟨G,zl,s,k,h⟩:=he;obtain⟨G',h'⟩:=h.keep ks;exact⟨G',zl,_,k,h'⟩
  |exit id=>exact he
  |ret=>exact he
  |goto l=>exact he.elim
  |panic ch=>exact he.elim
  |outgrown=>exact he.elim
end
end M
namespace M
open Go Go.RowKit
variable [Bs]
def vm:Nat->List X->af
 |_,[]=>[]
 |i,x::l=>(i,alias (base+i) [] x)::vm (i+1) l
def vn:Nat->List X->af
 |_,[]=>[]
 |i,x::l=>(base+i,x)::vn (i+1) l
def jE(xs:List X):af:=vm 0 xs++vn 0 xs
def X.jm:X->Bool
 |.aq _=>true
 |_=>false
def post(x:X):X:=bif x.clean then x else .dead
inductive RV where
 |t (n:Nat)
 |c (n sz:Nat) (agg:Bool) (ty:TypeId)
def cJ:List RV->af->List X×af
 |[],s=>([],s)
 |.t n::l,s=>((take .mv (aj s (.t n)) s).1::(cJ l (take .mv (aj s (.t n)) s).2).1,(cJ l (take .mv (aj s (.t n)) s).2).2)
 |.c n sz agg _::l,s=>((match get s n with
  |.ptr .own cs=>if cs.length=sz then (bif agg then .agg (X.ek n [] cs) else (X.ek n [] cs).headD (.aq [])) else .aq []
  |_=>.aq [])::(cJ l (fu n [] .dead s)).1,(cJ l (fu n [] .dead s)).2)
def oV:List X->X
 |[x]=>x
 |l=>.aq l
def lQ:Nat->Nat->af->List X
 |_,0,_=>[]
 |i,n+1,s=>post (get s (base+i))::lQ (i+1) n s
def Ends(rs:List RV)(n:Nat)(Q:X->List X->Prop):Ex->af->Prop
 |.exit _,_=>False
 |_,s=>X.clean.bC (cJ rs s).1=true/\(∀x∈(cJ rs s).1,x.jm=false)/\Q (oV (cJ rs s).1) (lQ 0 n (cJ rs s).2)
namespace C
def ou:∀c:C,c.er.clean=true->c.bare
 |.ref _ _ _,h=>by simp[er,X.clean] at h
 |.av _ _ _ _ _,h=>by simp[er,X.clean] at h
 |.cut _ _ _ _ _,h=>by simp[er,X.clean] at h
 |.ptr m g o n c,h=>λj hj=>ou (c j) (by simp only[er,X.clean,au] at h;exact gC.1 h.2 _ (aL.2 ⟨j,by simpa using hj,rfl⟩))
 |.agg n c,h=>λj hj=>ou (c j) (by simp only[er,X.clean] at h;exact gC.1 h _ (aL.2 ⟨j,by simpa using hj,rfl⟩))
 |.aq n c,h=>λj hj=>ou (c j) (by simp only[er,X.clean] at h;exact gC.1 h _ (aL.2 ⟨j,by simpa using hj,rfl⟩))
 |.fn f n c,h=>λj hj=>ou (c j) (by simp only[er,X.clean] at h;exact gC.1 h _ (aL.2 ⟨j,by simpa using hj,rfl⟩))
 |.dead _,_=>trivial
 |.int _ _,_=>trivial
 |.bool _,_=>trivial
 |.str _,_=>trivial
 |.row _ _ _ _ _ _,_=>trivial
variable {w:World}{zl zb:Nat->Nat->Prop}
def mK:∀c:C,c.er.clean=true->c.ok w (Zf zl zb)->c.ok w (Zf zl λ_ _=>False)
 |.ref _ _ _,h,_=>by simp[er,X.clean] at h
 |.av _ _ _ _ _,h,_=>by simp[er,X.clean] at h
 |.cut _ _ _ _ _,h,_=>by simp[er,X.clean] at h
 |.row m sz A len cap e,h,ho=>by
  simp only[er,X.clean,au] at h;obtain⟨h1,h2,h3,h4,h5⟩:=ho;refine⟨h1,λi j hi hj=>?_,λi j hi hj=>?_,h4,h5⟩
  ·obtain⟨g,o,q1,q2,q3⟩:=h2 i j hi hj;refine⟨g,o,q1,q2,λhm=>?_⟩;cases m with
   |own=>exact(hm rfl).elim
   |sl=>exact q3 hm
   |ah=>simp at h
  ·obtain⟨a1,a2,a3,a4⟩:=h3 i j hi hj;exact⟨a1,a2,a3,mK (e i j) (EV.1 h.2 _ (aL.2 ⟨i,by simpa using hi,rfl⟩) _ (aL.2 ⟨j,by simpa using hj,rfl⟩)) a4⟩
 |.ptr m g o n c,h,ho=>by
  simp only[er,X.clean,au] at h;obtain⟨h1,h2,h3,h4⟩:=ho;refine⟨λj hj=>?_,h2,λj hj=>?_,h4⟩
  ·obtain⟨a1,a2,a3⟩:=h1 j hj;refine⟨a1,λhm=>?_,a3⟩;cases m with
   |own=>exact(hm rfl).elim
   |sl=>exact a2 hm
   |ah=>simp at h
  ·obtain⟨a1,a2,a3⟩:=h3 j hj;exact⟨a1,a2,mK (c j) (gC.1 h.2 _ (aL.2 ⟨j,by simpa using hj,rfl⟩)) a3⟩
 |.agg n c,h,ho=>by simp only[er,X.clean] at h;exact⟨λj hj=>⟨(ho.1 j hj).1,mK (c j) (gC.1 h _ (aL.2 ⟨j,by simpa using hj,rfl⟩)) (ho.1 j hj).2⟩,ho.2⟩
 |.aq n c,h,ho=>by simp only[er,X.clean] at h;exact⟨λj hj=>⟨(ho.1 j hj).1,mK (c j) (gC.1 h _ (aL.2 ⟨j,by simpa using hj,rfl⟩)) (ho.1 j hj).2⟩,ho.2⟩
 |.fn f n c,h,ho=>λj hj=>⟨mK (c j) (by simp only[er,X.clean] at h;exact gC.1 h _ (aL.2 ⟨j,by simpa using hj,rfl⟩)) (ho j hj).1,(ho j hj).2⟩
 |.dead _,_,_=>trivial
 |.int _ _,_,_=>trivial
 |.bool _,_,_=>trivial
 |.str _,_,h=>h
end C
def FR(i:Nat):∀(xs:List X) (r:af) (t:Nat),get (vm i xs++r) t=if i<=t/\t<i+xs.length then alias (base+t) [] (xs.getD (t - i) .dead) else get r t
 |[],r,t=>by rw[aC (by simp only[iA];omega)];rfl
 |x::xs,r,t=>by
  simp only[vm,gN];rw[qx,FR (i+1) xs];by_cases h:t=i;·subst h;rw[aA rfl,aA ⟨ez _,by simp only[cw];omega⟩,Nat.sub_self];rfl
  ·rw[aC h];by_cases h2:i+1<=t/\t<i+1+xs.length;·rw[aA h2,aA ⟨by omega,by simp only[cw];omega⟩,show t - i=(t - (i+1))+1 by omega];rfl
   ·rw[aC h2,aC (by simp only[cw];omega)]
def FT(i:Nat):∀(xs:List X) (t:Nat),get (vn i xs) t=if base+i<=t/\t<base+i+xs.length then xs.getD (t - (base+i)) .dead else .dead
 |[],t=>by rw[aC (by simp only[iA];omega)];rfl
 |x::xs,t=>by
  simp only[vn];rw[qx,FT (i+1) xs];by_cases h:t=base+i;·subst h;rw[aA rfl,aA ⟨ez _,by simp only[cw];omega⟩,Nat.sub_self];rfl
  ·rw[aC h];by_cases h2:base+(i+1)<=t/\t<base+(i+1)+xs.length;·rw[aA h2,aA ⟨by omega,by simp only[cw];omega⟩,show t - (base+i)=(t - (base+(i+1)))+1 by omega];rfl
   ·rw[aC h2,aC (by simp only[cw];omega)]
def RC{w:World}{zl zb:Nat->Nat->Prop}{cs:List C}(h:mg w zl zb cs)(jL:vS w zl zb){nt:Nat}(hn:cs.length<=nt)(hnt:nt<=base):
  ∃G,St ⟨w,λb k=>∃x∈cs,x.fp b k,zl,zb,nt,cs.map C.val⟩ G zl (jE (cs.map C.er)) ⟨(cs.map C.val).toArray++Array.replicate (nt - (cs.map C.val).toArray.size) undef,[]⟩ w:=by
 let G:Nat->C:=λt=>if t<cs.length then (cs.getD t (.dead undef)).alias (base+t) [] else if base<=t/\t<base+cs.length then cs.getD (t - base) (.dead undef) else .dead undef
 have g1:∀t,t<cs.length->G t=(cs.getD t (.dead undef)).alias (base+t) []:=λt ht=>aA ht;have g2:∀t,t<cs.length->G (base+t)=cs.getD t (.dead undef):=λt ht=>by show (if _ then _ else _:C)=_;rw[aC (by omega),aA (by omega),Nat.add_sub_cancel_left]
 have g3:∀t,¬t<cs.length->¬(base<=t/\t<base+cs.length)->G t=.dead undef:=λt h1 h2=>by show (if _ then _ else _:C)=_;rw[aC h1,aC h2]
 have hm:∀t,t<cs.length->cs.getD t (.dead undef)∈cs:=λt ht=>bO ht _
 have wo:∀t,(t<cs.length/\t<base)\/(∃u,u<cs.length/\t=base+u)\/(G t=.dead undef/\¬t<cs.length/\¬(base<=t/\t<base+cs.length)):=λt=>by
  by_cases h1:t<cs.length;·exact .inl ⟨h1,by omega⟩
  ·by_cases h2:base<=t/\t<base+cs.length;·exact .inr (.inl ⟨t - base,by omega,by omega⟩)
   ·exact .inr (.inr ⟨g3 t h1 h2,h1,h2⟩)
 have hal:∀t,t<cs.length->(G t).ok w (Zf zl zb)/\(G t).rf G/\∀b k,¬(G t).fp b k:=λt ht=>by rw[g1 t ht];have hx:=hm t ht;exact C.D0 (base+t) _ (g2 t ht) (h.ok _ hx) (C.mE G _ (h.bare _ hx))
 have bu:∀t b k,(G t).fp b k->∃u,u<cs.length/\t=base+u/\(cs.getD u (.dead undef)).fp b k:=λt b k hf=>by
  rcases wo t with ⟨h1,_⟩|⟨u,hu,rfl⟩|⟨h1,_⟩;·exact((hal t h1).2.2 b k hf).elim
  ·rw[g2 u hu] at hf;exact⟨u,hu,rfl,hf⟩
  ·rw[h1] at hf;exact hf.elim
 refine⟨G,⟨⟨λt=>?_,λt=>?_,λt u hne b k hf hf'=>?_,λt b k hf=>?_,λt=>?_,h.bF⟩,λt ht=>?_,?_,hnt,rfl,⟨Ext.refl _ _,λt b k hf=>?_,λ_ _ hz=>hz,λ_ _ hz=>.inl hz,jL,λb k hb ⟨x,hx,hf⟩=>((jL b hb).2 k).elim (h.fz x hx b k hf).1 (h.fz x hx b k hf).2⟩,λi v hi=>?_⟩⟩
 ·have hgd:∀u,(cs.map C.er).getD u .dead=(cs.getD u (.dead undef)).er:=λu=>by rw[gP,gP,cg];cases cs[u]?<;>rfl
  unfold jE;rw[FR,FT,cM,hgd,hgd];rcases wo t with ⟨h1,h2⟩|⟨u,hu,rfl⟩|⟨h1,h2,h3⟩;·rw[aA ⟨by omega,by omega⟩,g1 t h1,C.D6,Nat.sub_zero]
  ·rw[aC (by omega),aA ⟨by omega,by omega⟩,g2 u hu,show base+u - (base+0)=u by omega]
  ·rw[aC (by omega),aC (by omega),h1];rfl
 ·rcases wo t with ⟨h1,_⟩|⟨u,hu,rfl⟩|⟨h1,_⟩;·exact(hal t h1).1
  ·rw[g2 u hu];exact h.ok _ (hm u hu)
  ·rw[h1];trivial
 ·obtain⟨x,hx,e1,h1⟩:=bu t b k hf;obtain⟨y,hy,e2,h2⟩:=bu u b k hf';exact q8 h.apart _ hx hy (λe=>hne (by rw[e1,e2,e])) h1 h2
 ·obtain⟨x,hx,e1,h1⟩:=bu t b k hf;exact h.fz _ (hm x hx) b k h1
 ·rcases wo t with ⟨h1,_⟩|⟨u,hu,rfl⟩|⟨h1,_⟩;·exact(hal t h1).2.1
  ·rw[g2 u hu];exact C.mE G _ (h.bare _ (hm u hu))
  ·rw[h1];trivial
 ·rw[pV,Array.getElem?_append];simp only[pQ,cM];by_cases h1:t<cs.length;·rw[aA h1,g1 t h1,C.D7,sA,cg,bH h1,lz (bH h1)];rfl
  ·rw[aC h1,g3 t h1 (by omega),Jh];split<;>rfl
 ·simp only[Dq,pQ,cM,Array.size_replicate];omega
 ·obtain⟨x,hx,e1,h1⟩:=bu t b k hf;exact .inl ⟨_,hm x hx,h1⟩
 ·simp only[cg] at hi;cases hc:cs[i]? with
  |none=>rw[hc] at hi;cases hi
  |some x=>
   rw[hc] at hi;injection hi with hi
   have hlt:=(br.1 hc).1;rw[g2 i hlt,lz hc,hi]
end M
namespace M
open Go Go.RowKit
variable [Bs]
def ot(P:Program):List ResultVar->List RV->Bool
 |[],[]=>true
 |.tmp t::l,.t t'::l'=>t==t' && decide (t<base) && ot P l l'
 |.cell a ty::l,.c n sz agg ty'::l'=>a==n && decide (n<base) && ty==ty' && iJ P ty sz && oN P ty agg && (agg||decide (sz=1)) && ot P l l'
 |_,_=>false
section
variable {P:Program}{w:World}
def PF(x:C)(h:x.er.jm=false):x.dV:=by cases x<;>first|trivial|(simp[C.er,X.jm] at h)
def Cg:List Value->Value
 |[v]=>v
 |l=>.tuple l.toArray
def uJ(tmps:Array Value):ResultVar->Sem Value
 |.tmp t=>pure (tmps.getD t undef)
 |.cell a t=>do loadVar t (<-asAddr (tmps.getD a undef))
def Rl{fn:Func}{vs:List Value}(tmps:Array Value)(h:(fn.results.toList.mapM (uJ tmps)).run P w=.ok vs w):(results fn tmps).run P w=.ok (Cg vs) w:=by
 unfold results;rw[Array.mapM_eq_mapM_toList];rw[Sem.run_bind,Sem.run_map];erw [h];simp only[Result.andThen_ok,Sem.run_pure];match vs with
 |[]=>rfl
 |[v]=>rfl
 |u::v::l=>simp[Cg]
def CX{c:Ctx}{zl:Nat->Nat->Prop}{a:Act}:∀{l':List ResultVar} {l:List RV},ot P l' l=true->∀{G:Nat->C} {s:af},St c G zl s a w->(∀x∈(cJ l s).1,x.jm=false)->
  ∃cs G',cs.map C.er=(cJ l s).1/\(l'.mapM (uJ a.tmps)).run P w=.ok (cs.map C.val) w/\aU w zl c.zb G cs G' (cJ l s).2
 |[],[],_,G,s,h,_=>⟨[],G,rfl,by simp,aU.nil h.inv⟩
 |.tmp t::l',.t t'::l,hc,G,s,h,hk=>by
  simp only[ot,au,cT,aP] at hc;obtain⟨⟨rfl,ht⟩,hc⟩:=hc;obtain⟨p,p1,p2,p3⟩:=bp h (o:=.tmp t) (x:=.t t) (by simp[aG,ht]);obtain⟨y,G1,f1,f2,f3,f4⟩:=lW .mv h.inv p3;rw[p1] at f1 f4;obtain⟨cs,G',g1,g2,g3⟩:=CX hc (h.rX f4) λx hx=>hk x (bU _ hx);refine⟨y::cs,G',by simp[cJ,f1,g1],?_,aU.cons f4 g3⟩;have hv:a.tmps.getD t undef=y.val:=by rw[f2,p2];rfl
  simp only[List.mapM_cons,uJ,Sem.run_bind,Sem.run_pure,Result.andThen_ok,g2,hv,aS]
 |.cell ad ty::l',.c n sz agg ty'::l,hc,G,s,h,hk=>by
  simp only[ot,au,cT,aP] at hc;obtain⟨⟨⟨⟨⟨⟨rfl,ht⟩,rfl⟩,hsz⟩,jK⟩,h1⟩,hc⟩:=hc
  have hk0:(match get s ad with
   |.ptr .own cs=>if cs.length=sz then (bif agg then .agg (X.ek ad [] cs) else (X.ek ad [] cs).headD (.aq [])) else .aq []
   |_=>.aq []:X).jm=false:=hk _ (bE ..)
  split at hk0
  ·rename_i cs0 hg;split at hk0
   ·rename_i hlen;obtain⟨D,G1,t1,t2,t3,t4,t5,t6,t7,t8,t9,t10,t11,t12⟩:=h.inv.pL ad [] (G ad) rfl;rw[h.inv.er,hg] at t1;simp only[X.kill] at t1;obtain⟨g,o,m,f,rfl,hcs⟩:=AR t1;have hm:m=sz:=by have:=cK List.length hcs;rw[X.BW] at this;simpa [hlen] using this.symm
    subst hm;obtain⟨q1,q2,q3,q4⟩:=t4;have hin:∀j,j<m->∀b k,(f j).fp b k->(C.ptr .own g o m f).fp b k:=λj hj b k hf=>C.ia (q3 j hj).1 (q3 j hj).2.1 hj hf;have Bg:a.tmps.getD ad undef=.pointer (some ⟨g,o,none⟩):=by rw[<-h.val ad ht,<-t2];rfl
    obtain⟨ii,hi,gY⟩:=mV hsz;obtain⟨dd,tu,hda⟩:=tW jK;have oE:(isAgg ty).run P w=.ok agg w:=by subst hda;simp only[isAgg,Sem.run_bind,run_underlying tu,Result.andThen_ok];cases dd<;>rfl
    have hsize:(Go.sizeOf ty).run P w=.ok m w:=by simp[Go.sizeOf,typeInfo,hi,gY]
    have hl:(loadCells ⟨g,o,none⟩ m).run P w=.ok ((List.range m).map λj=>(f j).val).toArray w:=run_loadCells w _ m _ (λj hj=>by rw[mz];exact(q1 j hj).1)
    have fin:∀y:C,(∀b k,y.fp b k->(C.ptr .own g o m f).fp b k)->y.ok w (Zf zl c.zb)->y.rf G1->y.er=(if cs0.length=m then (bif agg then .agg (X.ek ad [] cs0) else (X.ek ad [] cs0).headD (.aq [])) else .aq [])->(loadVar ty ⟨g,o,none⟩).run P w=.ok y.val w->
      ∃cs G',cs.map C.er=(cJ (.c ad m agg ty::l) s).1/\((ResultVar.cell ad ty::l').mapM (uJ a.tmps)).run P w=.ok (cs.map C.val) w/\aU w zl c.zb G cs G' (cJ (.c ad m agg ty::l) s).2:=λy Dh T5 T6 T4 T7=>by
     have fZ:dA w zl c.zb G y G1 (fu ad [] .dead s):=⟨t3,T5,T6,λt b k hf=>t8 t b k (Dh b k hf),λb k hf=>h.inv.fz ad b k (t9 b k (Dh b k hf)),t10,λb k hf=>⟨ad,t9 b k (Dh b k hf)⟩,t11⟩;obtain⟨cs,G',g1,g2,g3⟩:=CX hc (h.rX fZ) λx hx=>hk x (bU _ hx);refine⟨y::cs,G',?_,?_,aU.cons fZ g3⟩;·simp only[aS,cJ,hg,T4,g1]
     ·simp only[List.mapM_cons,uJ,Bg,asAddr,Sem.run_bind,Sem.run_pure,Result.andThen_ok,T7,g2,aS]
    cases agg with
    |true=>
     refine fin (.agg m f) (λb k ⟨j,hj,hf⟩=>hin j hj b k hf) ⟨λj hj=>⟨(q3 j hj).1,(q3 j hj).2.2⟩,λj hj b k hf=>(q4 j hj b k hf).2⟩ t5 ?_ ?_;·rw[aA hlen,iY,hcs];rfl
     ·simp only[loadVar,Sem.run_bind,oE,Result.andThen_ok,cU,hsize,hl,Sem.run_pure];rfl
    |false=>
     have hs1:m=1:=by simpa using h1
     subst hs1;refine fin (f 0) (λb k hf=>hin 0 (by omega) b k hf) (q3 0 (by omega)).2.2 (t5 0 (by omega)) ?_ ?_;·rw[aA hlen,mb,hcs];rfl
     ·have:=(q1 0 (by omega)).1;simp only[loadVar,Sem.run_bind,oE,Result.andThen_ok,gx,iZ,run_load];simp only[lZ] at this;rw[this]
   ·simp[X.jm] at hk0
  ·simp[X.jm] at hk0
 |[],_::_,hc,_,_,_,_=>by cases hc
 |.tmp _::_,[],hc,_,_,_,_=>by cases hc
 |.cell _ _::_,[],hc,_,_,_,_=>by cases hc
 |.tmp _::_,.c _ _ _ _::_,hc,_,_,_,_=>by cases hc
 |.cell _ _::_,.t _::_,hc,_,_,_,_=>by cases hc
def QX{c:Ctx}{G:Nat->C}{zl:Nat->Nat->Prop}{s:af}(h:Inv w zl c.zb G s)(t:Nat):∃p:C,p.er=post (get s t)/\p.val=(G t).val/\p.ok w (Zf zl λ_ _=>False)/\p.bare/\∀b k,p.fp b k->(G t).fp b k:=by
 unfold post;cases hc:(get s t).clean with
 |true=>rw[<-h.er] at hc;exact⟨G t,h.er t,rfl,C.mK _ hc (h.ok t),C.ou _ hc,λ_ _ hf=>hf⟩
 |false=>exact⟨.dead (G t).val,rfl,rfl,trivial,trivial,λ_ _ hf=>hf.elim⟩
def Hq{c:Ctx}{G:Nat->C}{zl:Nat->Nat->Prop}{s:af}(h:Inv w zl c.zb G s):∀(n i:Nat),∃ps:List C,ps.map C.er=lQ i n s/\ps.map C.val=(List.range' i n).map (λj=>(G (base+j)).val)/\(∀p∈ps,p.ok w (Zf zl λ_ _=>False)/\p.bare/\∃t,i<=t/\∀b k,p.fp b k->(G (base+t)).fp b k)/\ps.Pairwise λa b=>∀x k,a.fp x k->¬b.fp x k
 |0,i=>⟨[],rfl,rfl,λ_ hx=>(by cases hx),List.Pairwise.nil⟩
 |n+1,i=>by
  obtain⟨p,p1,p2,p3,p4,p5⟩:=QX h (base+i);obtain⟨ps,q1,q2,q3,q4⟩:=Hq h n (i+1);refine⟨p::ps,by simp[lQ,p1,q1],by simp[List.range'_succ,p2,q2],λx hx=>?_,ey.2 ⟨λx hx b k hf hf'=>?_,q4⟩⟩
  ·rcases bA.1 hx with rfl|hx;·exact⟨p3,p4,i,ez _,p5⟩
   ·obtain⟨a1,a2,t,ht,a3⟩:=q3 x hx;exact⟨a1,a2,t,by omega,a3⟩
  ·obtain⟨_,_,t,ht,a3⟩:=q3 x hx;exact h.sep (base+i) (base+t) (by omega) b k (p5 b k hf) (a3 b k hf')
structure Told (P:Program) (f:FuncId) (t:A) (rs:List RV) (n:Nat):Prop where
 told:∃fn code,P.funcs[f]?=some fn/\fn.body=some code/\eM P fn.ntmps t code=true/\ot P fn.results.toList rs=true/\fn.ntmps<=base/\n<=fn.ntmps
def Told.ac{f:FuncId}{t:A}{rs:List RV}{n:Nat}(hT:Told P f t rs n){xs:List X}(hn:xs.length=n){Q:X->List X->Prop}(h:cX P t (jE xs) (Ends rs n Q)):AC P f xs Q:=by
 intro w zl zb cs hxs hA jL;obtain⟨fn,code,hf,hb,hc,hr,hnt,hU⟩:=hT.told;have hcl:cs.length=n:=by rw[<-hn,<-hxs];simp
 obtain⟨G,hst⟩:=RC hA jL (nt:=fn.ntmps) (by omega) hnt;rw[hxs] at hst;refine calls_of_wp hf hb (wp_mono (Li t code hc hst h) λe a w' he=>?_)
 have fin:∀{G:Nat->C} {ay:Nat->Nat->Prop} {s:af},St ⟨w,λb k=>∃x∈cs,x.fp b k,zl,zb,fn.ntmps,cs.map C.val⟩ G ay s a w'->(X.clean.bC (cJ rs s).1=true/\(∀x∈(cJ rs s).1,x.jm=false)/\Q (oV (cJ rs s).1) (lQ 0 n (cJ rs s).2))->
   a.defers=[]/\∃v,(results fn a.tmps).run P w'=.ok v w'/\∃r ps ay,DU w zl cs (.returned v) w' r ps ay/\Q r.er (ps.map C.er):=by
  intro G ay s h ⟨k1,k2,k3⟩;obtain⟨jU,G1,g1,g2,fZ⟩:=CX hr h k2;refine⟨h.defers,_,Rl a.tmps g2,?_⟩;rw[<-g1] at k1 k2 k3;obtain⟨ps,p1,p2,p3,p4⟩:=Hq (c:=⟨w,λb k=>∃x∈cs,x.fp b k,zl,zb,fn.ntmps,cs.map C.val⟩) fZ.inv n 0;have hrc:∀x∈jU,x.er.clean=true:=λx hx=>gC.1 k1 _ (gR hx)
  obtain⟨r,r1,r2,r3,r4,r5⟩:∃r:C,r.er=oV (jU.map C.er)/\r.val=Cg (jU.map C.val)/\r.ok w' (Zf ay λ_ _=>False)/\r.bare/\∀b k,r.fp b k->∃x∈jU,x.fp b k:=by
   by_cases h1:jU.length=1;·obtain⟨x,rfl⟩:=List.length_eq_one_iff.1 h1;refine⟨x,rfl,rfl,C.mK x (hrc x (ew.2 rfl)) (fZ.all x (ew.2 rfl)).1,C.ou x (hrc x (ew.2 rfl)),λb k hf=>⟨x,ew.2 rfl,hf⟩⟩
   ·refine⟨.aq jU.length λj=>jU.getD j (.dead undef),?_,?_,⟨λj hj=>⟨?_,C.mK _ (hrc _ (bO hj _)) (fZ.all _ (bO hj _)).1⟩,λj hj b k hf j' hj' hne=>q8 fZ.apart _ hj hj' hne hf⟩,λj hj=>C.ou _ (hrc _ (bO hj _)),λb k ⟨j,hj,hf⟩=>⟨_,bO hj _,hf⟩⟩
    ·show X.aq _=_;rw[jr jU _ C.er];cases jU with
     |nil=>rfl
     |cons x l=>cases l with
      |nil=>simp at h1
      |cons y l=>rfl
    ·show Value.tuple _=_;rw[jr jU _ C.val];cases jU with
     |nil=>rfl
     |cons x l=>cases l with
      |nil=>simp at h1
      |cons y l=>rfl
    ·have:=k2 _ (gR (bO hj (.dead undef)));exact PF _ this
  refine⟨r,ps,ay,?_,by rw[r1,p1];exact k3⟩;have N2:∀t b k,(G1 t).fp b k->(∃y∈cs,y.fp b k)\/w.heap.size<=b:=λt b k hf=>h.tr.dom t b k (fZ.mono t b k hf);have hrd:∀b k,r.fp b k->(∃y∈cs,y.fp b k)\/w.heap.size<=b:=λb k hf=>by obtain⟨x,hx,hf⟩:=r5 b k hf;obtain⟨t,ht⟩:=(fZ.all x hx).2.2.2 b k hf;exact h.tr.dom t b k ht
  refine⟨by rw[r2],?_,h.tr.ext,⟨λx hx=>?_,λx hx=>?_,λx hx b k hf=>?_,λb k hz=>fZ.inv.bF b k (hz.imp id λh=>h.elim),ey.2 ⟨λx hx b k hf hf'=>?_,p4⟩⟩,λx hx b k hf=>?_,h.tr.kX,h.tr.zl⟩
  ·rw[p2,List.range_eq_range'.symm];apply gy;intro i;rw[cg,cg];by_cases hi:i<n;·rw[nX hi,bH (by omega)];simp only[bM,cE];rw[fZ.val];exact h.args i _ (by rw[cg,bH (by omega)];rfl)
   ·rw[iz (by simp;omega),iz (by omega)];rfl
  ·rcases bA.1 hx with rfl|hx;·exact r3
   ·exact(p3 x hx).1
  ·rcases bA.1 hx with rfl|hx;·exact r4
   ·exact(p3 x hx).2.1
  ·refine⟨?_,λh=>h⟩;rcases bA.1 hx with rfl|hx;·obtain⟨y,hy,hf⟩:=r5 b k hf;exact((fZ.all y hy).2.2.1 b k hf).1
   ·obtain⟨_,_,t,_,a3⟩:=p3 x hx;exact(fZ.inv.fz _ b k (a3 b k hf)).1
  ·obtain⟨y,hy,hf⟩:=r5 b k hf;obtain⟨_,_,t,_,a3⟩:=p3 x hx;exact(fZ.all y hy).2.1 _ b k hf (a3 b k hf')
  ·rcases bA.1 hx with rfl|hx;·exact hrd b k hf
   ·obtain⟨_,_,t,_,a3⟩:=p3 x hx;exact N2 _ b k (a3 b k hf)
 cases e with
 |normal=>obtain⟨G,ay,s,k,h⟩:=he;exact fin h k
 |ret=>obtain⟨G,ay,s,k,h⟩:=he;exact fin h k
 |exit id=>obtain⟨G,ay,s,k,h⟩:=he;exact k.elim
 |goto l=>exact he.elim
 |panic ch=>exact he.elim
 |outgrown=>exact he.elim
def Ii(P:Program)(fn:Func)(t:A)(rs:List RV)(n:Nat):Bool:=match fn.body with
 |some code=>eM P fn.ntmps t code && ot P fn.results.toList rs && decide (fn.ntmps<=base) && decide (n<=fn.ntmps)
 |none=>false
def Told.of{f:FuncId}{fn:Func}{t:A}{rs:List RV}{n:Nat}(hf:P.funcs[f]?=some fn)(h:Ii P fn t rs n=true):Told P f t rs n:=by
 unfold Ii at h;split at h;·rename_i code hc;simp only[au,aP] at h;exact⟨fn,code,hf,hc,h.1.1.1,h.1.1.2,h.1.2,h.2⟩
 ·cases h
end
end M
namespace M
open Go
def AC.mono[Bs]{P:Program}{f:FuncId}{xs:List X}{Q Q':X->List X->Prop}(h:AC P f xs Q)(hq:∀r ps,Q r ps->Q' r ps):AC P f xs Q':=
 λw zl zb cs e a g=>(h w zl zb cs e a g).mono λ_ _ ⟨r,ps,ay,d,q⟩=>⟨r,ps,ay,d,hq _ _ q⟩
abbrev Out:=X×List X
abbrev bw:=FuncId->List X->Option Out
def BP(f:FuncId):X->Bool
 |.fn g _=>g==f
 |_=>false
def qg(s1:af)(fv:Option AV)(f:FuncId):Bool:=match fv with
 |none=>true
 |some x=>BP f (aj s1 x)
abbrev sC:=X->Option af
def x8(r:Nat)(p:Path)(s:af)(n:Nat)(x:X):Option (X×sC):=
 match x with
 |.ref _ _=>(match look s r p with
  |some (.row .own z xs)=>some (.row .own z xs,λy=>match y with
   |.row .own z' ys=>if z'=z then some (eX r p (.row .own z ys) s) else none
   |_=>none)
  |_=>none)
 |.av _ _ i c=>(match look s r p with
  |some (.ptr .own cs)=>if c+n<=cs.length then some (.ptr .own ((cs.drop c).take n),λy=>match y with
   |.ptr .own ys=>if ys.length=n then some (eX r p (.ptr .own (cs.take c++ys++cs.drop (c+n))) s) else none
   |_=>none) else none
  |some (.row .own z xs)=>(match xs[i]? with
   |some e=>if c+n<=e.length then some (.ptr .own ((e.drop c).take n),λy=>match y with
    |.ptr .own ys=>if ys.length=n then (if eN ys=true then some (eX r p (.row .own z (xs.set i (e.take c++ys++e.drop (c+n)))) s) else none) else none
    |_=>none) else none
   |none=>none)
  |_=>none)
 |_=>none
def lR(d:Option Nat)(s:af):Option Out->Option af
 |some o=>some (dN d o.1 s)
 |none=>none
def uI(d:Option Nat)(as:List (AV×PM))(back:sC):Option Out->Option af
 |some o=>(match back (ig as o.2) with
  |some s'=>some (dN d o.1 s')
  |none=>none)
 |none=>none
def wm(C:bw)(f:FuncId)(d:Option Nat)(as:List (AV×PM))(fv:Option AV)(ms:List X)(s0:af):Option (X×sC)->Option af
 |some (y,back)=>if X.bare y=true/\qg s0 fv f=true then uI d as back (C f (dY s0 y as ms++kf s0 fv)) else none
 |none=>none
def mG(C:bw)(f:FuncId)(d:Option Nat)(as:List (AV×PM))(fv:Option AV)(s:af):Option af:=
 if X.bare.fD (aX as s).1=true then
 match cH as with
 |none=>if qg (aX as s).2 fv f=true then lR d (aX as s).2 (C f (dY (aX as s).2 .dead as (aX as s).1++kf (aX as s).2 fv)) else none
 |some (x,n)=>wm C f d as fv (aX as s).1 (fu (placeOf (aj (aX as s).2 x)).1 (placeOf (aj (aX as s).2 x)).2 .dead (aX as s).2) (x8 (placeOf (aj (aX as s).2 x)).1 (placeOf (aj (aX as s).2 x)).2 (aX as s).2 n (aj (aX as s).2 x))
 else none
def wh(op:BinOp):X->X->Bool
 |.int k a,.int k' b=>match op with
  |.shl=>decide (0<=b)
  |.shr=>decide (0<=b)
  |.quo=>decide (k=k') && !decide (b=0)
  |.rem=>decide (k=k') && !decide (b=0)
  |.andNot=>false
  |_=>decide (k=k')
 |.str a,.str b=>match op with
  |.add=>decide (a.size+b.size<=9223372036854775807)
  |.eql=>true
  |.neq=>true
  |_=>false
 |_,_=>false
def Kl{op:BinOp}{x y:X}(h:wh op x y=true):qa op x y:=by cases x<;>cases y<;>cases op<;>simp_all[wh,qa]
def zk(op:UnOp):X->Bool
 |.int _ _=>match op with
  |.neg=>true
  |_=>false
 |.bool _=>match op with
  |.not=>true
  |_=>false
 |_=>false
def TM{op:UnOp}{x:X}(h:zk op x=true):rZ op x:=by cases x<;>cases op<;>simp_all[zk,rZ]
def xR:List X->Option UInt8
 |[.int .u8 n]=>if 0<=n/\n<256 then some (UInt8.ofNat n.toNat) else none
 |_=>none
def OP{e:List X}{b:UInt8}(h:xR e=some b):e=[.int .u8 b.toNat]:=by
 unfold xR at h;split at h
 ·split at h
  ·rename_i n hn;obtain rfl:=e8 h;have:(UInt8.ofNat n.toNat).toNat=n.toNat:=by rw[zG];exact Nat.mod_eq_of_lt (by omega)
   rw[this];congr 2;omega
  ·cases h
 ·cases h
def lX:List (List X)->Option (List UInt8)
 |[]=>some []
 |e::l=>match xR e,lX l with
  |some b,some r=>some (b::r)
  |_,_=>none
def Iq:∀{xs:List (List X)} {l:List UInt8},lX xs=some l->xs=l.map λb=>[.int .u8 b.toNat]
 |[],l,h=>by cases h;rfl
 |e::r,l,h=>by
  unfold lX at h;split at h;·rename_i b r' h1 h2;obtain rfl:=e8 h;rw[OP h1,Iq h2];rfl
  ·cases h
def C8(l:List UInt8):lX (l.map λb=>[.int .u8 (b.toNat:Int)])=some l:=by
 induction l with
 |nil=>rfl
 |cons b l ih=>
  simp only[aS,lX,ih];have:xR [.int .u8 (b.toNat:Int)]=some b:=by have h:=b.toNat_lt;show (if 0<=(b.toNat:Int)/\(b.toNat:Int)<256 then some (UInt8.ofNat (b.toNat:Int).toNat) else none)=some b;rw[aA ⟨by omega,by omega⟩];simp
  rw[this]
def fP:List (List X)->Bool
 |[]=>true
 |e::l=>e.all scalar && fP l
def CR{xs:List (List X)}(h:fP xs=true):scalars xs:=by
 induction xs with
 |nil=>intro e he;cases he
 |cons a l ih=>
  simp only[fP,au,kV] at h;intro e he c hc;rcases bA.1 he with rfl|he;·exact h.1 c hc
  ·exact ih h.2 e he c hc
def bZ(h:Tk)(l:List X):Bool:=match h with
 |.al=>true
 |_=>l.all λx=>eN (cellsOf x)
def Rw{h:Tk}{l:List X}(e:bZ h l=true):y8 h l:=by
 cases h;·intro x hx;exact(kV.1 e) x hx
 ·trivial
 ·intro x hx;exact(kV.1 e) x hx
def bW:List Nat->List X->Bool
 |[],[]=>true
 |n::ns,y::ys=>((cellsOf y).length==n) && bW ns ys
 |_,_=>false
def HQ:∀{ns:List Nat} {ys:List X},bW ns ys=true->rS ns ys
 |[],[],_=>trivial
 |[],_::_,h=>by cases h
 |_::_,[],h=>by cases h
 |n::ns,y::ys,h=>by simp only[bW,au,cT] at h;exact⟨h.1,HQ h.2⟩
def b7(sz:Nat)(l:List X):Bool:=l.all λx=>((cellsOf x).length==sz) && eN (cellsOf x)
def za(s:af)(r:Nat)(p:Path)(i c:Nat)(l:List X):Bool:=match look s r p with
 |some (.row .own _ xs)=>(match xs[i]? with
  |some e=>decide (c+l.length<=e.length) && eN l
  |none=>false)
 |some (.ptr .own cs)=>decide (c+l.length<=cs.length)
 |_=>false
def RF{s:af}{r:Nat}{p:Path}{i c:Nat}{l:List X}(h:za s r p i c l=true):storable s r p i c l:=by
 unfold za at h;unfold storable;split at h
 ·split at h;·rename_i h1 _ _ h2;rw[h1];simp only[h2];simpa using h
  ·cases h
 ·rename_i h1;rw[h1];simpa using h
 ·cases h
def Ht(d:Option Nat)(cs:List X)(s1:af):Option Out->Option af
 |some (r,.agg ys::_)=>if eN ys=true then (match jD cs ys s1 with
  |some s'=>some (dN d r s')
  |none=>none) else none
 |_=>none
def bJ(C:bw)(ok:FuncId->Bool)(o:bt)(s:af):Option af:=
 match o with
 |.mv d x=>some (put d (aj s x) s)
 |.bk d h x=>some (put d (take h (aj s x) s).1 (take h (aj s x) s).2)
 |.pick d c a b=>match aj s c with
  |.bool t=>some (put d (uE t (aj s a) (aj s b)) s)
  |_=>none
 |.un d op x=>if zk op (aj s x)=true then some (put d (C9 op (aj s x)) s) else none
 |.bin d op x y=>if wh op (aj s x) (aj s y)=true then some (put d (Aj op (aj s x) (aj s y)) s) else none
 |.beq d neg x y=>match aj s x,aj s y with
  |.bool p,.bool q=>some (put d (.bool (xor neg (p==q))) s)
  |_,_=>none
 |.nx d neg x=>match aj s x with
  |.row _ _ xs=>if lT xs=true then some (put d (.bool neg) s) else none
  |_=>none
 |.k6 d neg ks x y=>match aj s x,aj s y with
  |.agg p,.agg q=>match gF ks p q with
   |some t=>some (put d (.bool (xor neg t)) s)
   |none=>none
  |_,_=>none
 |.conv d k x=>match aj s x with
  |.int _ n=>some (put d (.int k (k.wrap n)) s)
  |_=>none
 |.bytes d x=>match aj s x with
  |.str t=>some (put d (.row .own 1 (t.data.toList.map λb=>[.int .u8 b.toNat])) s)
  |_=>none
 |.text d x=>match rowAt s (aj s x) with
  |some (1,xs)=>if xs.length<=9223372036854775807 then (match lX xs with
   |some l=>some (put d (.str ⟨l.toArray⟩) s)
   |none=>none) else none
  |_=>none
 |.box d h x=>if 0<(cellsOf (take h (aj s x) s).1).length then some (put d (.ptr .own (cellsOf (take h (aj s x) s).1)) (take h (aj s x) s).2) else none
 |.new d z=>some (put d (.ptr .own z) s)
 |.build d h z ps=>if bZ h (takes h (ps.map (·.2)) s).1=true/\bW (ps.map (·.1.2)) (takes h (ps.map (·.2)) s).1=true then some (put d (.agg (qv z (ps.map (·.1.1)) (takes h (ps.map (·.2)) s).1)) (takes h (ps.map (·.2)) s).2) else none
 |.lit d h sz ps=>if b7 sz (takes h ps s).1=true then some (put d (.row .own sz ((takes h ps s).1.map cellsOf)) (takes h ps s).2) else none
 |.make d sz bytes z n=>match aj s n with
  |.int _ i=>if 0<=i/\i*bytes<=140737488355328 then some (put d (.row .own sz (List.replicate i.toNat z)) s) else none
  |_=>none
 |.load d sz agg a=>match dZ s (aj s a) with
  |some cs=>if sz<=cs.length then some (put d (bif agg then .agg (cs.take sz) else cs.headD .dead) s) else none
  |none=>none
 |.store sz h a x=>if (cellsOf (take h (aj s x) s).1).length=sz then (match aj (take h (aj s x) s).2 a with
  |.av r p i c=>if za (take h (aj s x) s).2 r p i c (cellsOf (take h (aj s x) s).1)=true then some (setCells r p i c (cellsOf (take h (aj s x) s).1) (take h (aj s x) s).2) else none
  |_=>none) else none
 |.dr d x=>match aj s x with
  |.av r p i c=>some (put d (.av r p i c) s)
  |.ptr m cs=>some (put d (.ptr m cs) s)
  |.fn f cs=>some (put d (.fn f cs) s)
  |_=>none
 |.lq d x off=>match aj s x with
  |.av r p i c=>some (put d (.av r p i (c+off)) s)
  |.ptr m cs=>some (put d (.ptr m (cs.drop off)) s)
  |_=>none
 |.lu d x off sz agg=>match aj s x with
  |.agg cs=>if off+sz<=cs.length then some (put d (bif agg then .agg ((cs.drop off).take sz) else (cs.drop off).headD .dead) s) else none
  |_=>none
 |.nj d sz x i=>match aj s i with
  |.int _ n=>if 0<=n then (match aj s x with
   |.row m z xs=>if z=sz then (match xs[n.toNat]? with
    |some e=>some (put d (.ptr m e) s)
    |none=>none) else none
   |.ref r p=>(match look s r p with
    |some (.row _ z xs)=>if z=sz/\n.toNat<xs.length then some (put d (.av r p n.toNat 0) s) else none
    |_=>none)
   |.cut r p lo hi=>(match look s r p with
    |some (.row _ z _)=>if z=sz/\lo+n.toNat<hi then some (put d (.av r p (lo+n.toNat) 0) s) else none
    |_=>none)
   |_=>none) else none
  |_=>none
 |.cR d x i=>match aj s x,aj s i with
  |.str t,.int _ n=>if 0<=n then (match t.data[n.toNat]? with
   |some b=>some (put d (.int .u8 b.toNat) s)
   |none=>none) else none
  |_,_=>none
 |.mB d n sz agg x i=>match aj s x,aj s i with
  |.agg cs,.int _ j=>if 0<=j/\j<n/\cs.length=n*sz then some (put d (bif agg then .agg ((cs.drop (j.toNat*sz)).take sz) else (cs.drop (j.toNat*sz)).headD .dead) s) else none
  |_,_=>none
 |.ext d x i=>match aj s x with
  |.aq cs=>if i<cs.length then some (put d (cs.getD i .dead) s) else none
  |_=>none
 |.jw d x lo hi=>match aj s x with
  |.str t=>if 0<=asNat s lo 0/\asNat s lo 0<=asNat s hi t.size/\asNat s hi t.size<=t.size then some (put d (.str (t.extract (asNat s lo 0).toNat (asNat s hi t.size).toNat)) s) else none
  |_=>none
 |.oX d sz x lo hi=>match rowAt s (aj s x) with
  |some (z0,xs)=>if z0=sz/\0<=asNat s lo 0/\asNat s lo 0<=asNat s hi xs.length/\asNat s hi xs.length<=xs.length then (match aj s x with
   |.row m z _=>some (put d (.row m z ((xs.take (asNat s hi xs.length).toNat).drop (asNat s lo 0).toNat)) s)
   |.ref r p=>some (put d (.cut r p (asNat s lo 0).toNat (asNat s hi xs.length).toNat) s)
   |_=>none) else none
  |none=>none
 |.qk sz z x=>match aj s x with
  |.cut r p lo hi=>(match look s r p with
   |some (.row .own z' xs)=>if z'=sz then some (eX r p (.row .own z' (wN lo hi z xs)) s) else none
   |_=>none)
  |_=>none
 |.mF d f x as=>match aj s x with
  |.agg cs=>if X.bare.fD (aY cs s).1=true then Ht d cs (aY cs s).2 (C f (.agg (aY cs s).1::dY (aY cs s).2 .dead as (as.map λ_=>.dead))) else none
  |_=>none
 |.oP d fz sz agg a=>match dZ s (aj s a) with
  |some cs=>if sz<=cs.length then ghost fz d (put d (bif agg then .agg (cs.take sz) else cs.headD .dead) s) else none
  |none=>none
 |.nw d f cs=>some (put d (.fn f (cs.map (aj s))) s)
 |.len d x=>match rowAt s (aj s x) with
  |some (z,xs)=>some (put d (.int .i64 xs.length) s)
  |none=>none
 |.nP d x=>match aj s x with
  |.str t=>some (put d (.int .i64 t.size) s)
  |_=>none
 |.app d h sz bytes x y=>match (take .mv (aj s x) s).1 with
  |.row .own z xs=>if z=sz then (match h with
   |.mv=>(match (cl (aj (take .mv (aj s x) s).2 y) (take .mv (aj s x) s).2).1 with
    |.row .own z' ys=>if z'=sz/\(xs.length+ys.length)*bytes<=140737488355328 then some (put d (.row .own z (xs++ys)) (cl (aj (take .mv (aj s x) s).2 y) (take .mv (aj s x) s).2).2) else none
    |_=>none)
   |_=>(match rowAt (take .mv (aj s x) s).2 (aj (take .mv (aj s x) s).2 y) with
    |some (z',ys)=>if z'=sz/\(xs.length+ys.length)*bytes<=140737488355328/\fP ys=true then some (put d (.row .own z (xs++ys)) (take .mv (aj s x) s).2) else none
    |none=>none)) else none
  |_=>none
 |.mn d xs=>match xs.map (aj s) with
  |[.int k a,.int k' b]=>if k=k' then some (put d (.int k (if b<a then b else a)) s) else none
  |_=>none
 |.mx d xs=>match xs.map (aj s) with
  |[.int k a,.int k' b]=>if k=k' then some (put d (.int k (if b>a then b else a)) s) else none
  |_=>none
 |.call d f as=>mG C f d as none s
 |.lf d x as=>match aj s x with
  |.fn f _=>if ok f=true then mG C f d as (some x) s else none
  |_=>none
end M
namespace M
open Go
def bw.Sound[Bs](P:Program)(C:bw):Prop:=∀f xs o,C f xs=some o->AC P f xs λr ps=>r=o.1/\ps=o.2
section
variable [Bs]{P:Program}{C:bw}{ok:FuncId->Bool}
def EN{s1:af}{fv:Option AV}{f:FuncId}(h:qg s1 fv f=true):mH s1 fv f:=by
 unfold qg at h;unfold mH;cases fv with
 |none=>trivial
 |some x=>
  simp only at h⊢;unfold BP at h;split at h;·rename_i h1;rw[h1];simpa using h
  ·cases h
def PD{r:Nat}{p:Path}{s:af}{n:Nat}{x y:X}{back:sC}(h:x8 r p s n x=some (y,back)){go:X->(X->(af->Prop)->Prop)->Prop}
  (hg:∀b':X->(af->Prop)->Prop,(∀q K s',back q=some s'->K s'->b' q K)->go y b'):qX r p s n x go:=by
 unfold x8 at h;unfold qX;split at h
 ·split at h
  ·rename_i z xs hl;obtain⟨rfl,rfl⟩:=zF (e8 h);simp only[hl];refine hg _ λq K s' hb hK=>?_;simp only at hb;split at hb
   ·split at hb;·rename_i hz;obtain rfl:=e8 hb;exact⟨hz,hK⟩
    ·cases hb
   ·cases hb
  ·cases h
 ·split at h
  ·rename_i cs hl;split at h
   ·rename_i hc;obtain⟨rfl,rfl⟩:=zF (e8 h);simp only[hl];refine⟨hc,hg _ λq K s' hb hK=>?_⟩;simp only at hb;split at hb
    ·split at hb;·rename_i hz;obtain rfl:=e8 hb;exact⟨hz,hK⟩
     ·cases hb
    ·cases hb
   ·cases h
  ·rename_i z xs hl;split at h
   ·rename_i e he;split at h
    ·rename_i hc;obtain⟨rfl,rfl⟩:=zF (e8 h);simp only[hl,he];refine⟨hc,hg _ λq K s' hb hK=>?_⟩;simp only at hb;split at hb
     ·split at hb
      ·split at hb;·rename_i hz OH;obtain rfl:=e8 hb;exact⟨hz,OH,hK⟩
       ·cases hb
      ·cases hb
     ·cases hb
    ·cases h
   ·cases h
  ·cases h
 ·cases h
def EK(hC:C.Sound P){f:FuncId}{d:Option Nat}{as:List (AV×PM)}{fv:Option AV}{s s':af}(h:mG C f d as fv s=some s'){K:af->Prop}(hK:K s'):oh P f d as fv s K:=by
 unfold mG at h;unfold oh;split at h
 ·rename_i hb;refine⟨hb,?_⟩;split at h
  ·rename_i hm;split at h
   ·rename_i hc;simp only[hm];refine⟨EN hc,?_⟩;unfold lR at h;split at h;·rename_i o ho;obtain rfl:=e8 h;exact(hC _ _ _ ho).mono λr ps ⟨h1,_⟩=>by rw[h1];exact hK
    ·cases h
   ·cases h
  ·rename_i x n hm;simp only[hm];unfold wm at h;split at h
   ·rename_i y back On;split at h
    ·rename_i hc;refine PD On λb' hb'=>⟨hc.1,EN hc.2,?_⟩;unfold uI at h;split at h
     ·rename_i o ho;split at h;·rename_i s2 hs2;obtain rfl:=e8 h;refine(hC _ _ _ ho).mono λr ps ⟨h1,h2⟩=>?_;rw[h1,h2];exact hb' _ _ _ hs2 hK
      ·cases h
     ·cases h
    ·cases h
   ·cases h
 ·cases h
def Fc(hC:C.Sound P)(hok:∀f,ok f=true->aF P f=true){o:bt}{s s':af}(h:bJ C ok o s=some s'){K:af->Prop}(hK:K s'):aI P o s K:=by
 cases o with
 |mv d x=>cases h;exact hK
 |bk d h1 x=>cases h;exact hK
 |pick d c a b=>simp only[bJ] at h;simp only[aI];split at h<;>first|(rename_i h1;rw[h1];cases h;exact hK)|cases h
 |un d op x=>
  simp only[bJ] at h;split at h;·rename_i h1;cases h;exact⟨TM h1,hK⟩
  ·cases h
 |bin d op x y=>
  simp only[bJ] at h;split at h;·rename_i h1;cases h;exact⟨Kl h1,hK⟩
  ·cases h
 |beq d neg x y=>
  simp only[bJ] at h;simp only[aI];split at h;·rename_i h1 h2;rw[h1,h2];cases h;exact hK
  ·cases h
 |nx d neg x=>
  simp only[bJ] at h;simp only[aI];split at h
  ·rename_i h1;rw[h1];split at h;·rename_i hc;cases h;intro b hb;rw[hb hc];cases neg<;>exact hK
   ·cases h
  ·cases h
 |k6 d neg ks x y=>
  simp only[bJ] at h;simp only[aI];split at h
  ·rename_i h1 h2;rw[h1,h2];split at h;·rename_i t ht;cases h;exact⟨t,ht,hK⟩
   ·cases h
  ·cases h
 |conv d k x=>
  simp only[bJ] at h;simp only[aI];split at h;·rename_i h1;rw[h1];cases h;exact hK
  ·cases h
 |bytes d x=>
  simp only[bJ] at h;simp only[aI];split at h;·rename_i h1;rw[h1];cases h;exact hK
  ·cases h
 |text d x=>
  simp only[bJ] at h;simp only[aI];split at h
  ·rename_i xs h1;split at h
   ·rename_i h2;split at h;·rename_i l h3;cases h;exact⟨xs,h1,h2,l,Iq h3,hK⟩
    ·cases h
   ·cases h
  ·cases h
 |box d h1 x=>
  simp only[bJ] at h;split at h;·rename_i h2;cases h;exact⟨h2,hK⟩
  ·cases h
 |new d z=>cases h;exact hK
 |build d h1 z ps=>
  simp only[bJ] at h;split at h;·rename_i h2;cases h;exact⟨Rw h2.1,HQ h2.2,hK⟩
  ·cases h
 |lit d h1 sz ps=>
  simp only[bJ] at h;split at h;·rename_i h2;cases h;refine⟨λx hx=>?_,hK⟩;have:=(kV.1 h2) x hx;simpa using this
  ·cases h
 |make d sz bytes z n=>
  simp only[bJ] at h;simp only[aI];split at h
  ·rename_i h1;rw[h1];split at h;·rename_i h2;cases h;exact⟨h2.1,h2.2,hK⟩
   ·cases h
  ·cases h
 |load d sz agg a=>
  simp only[bJ] at h;simp only[aI];split at h
  ·rename_i cs h1;split at h;·rename_i h2;cases h;exact⟨cs,h1,h2,hK⟩
   ·cases h
  ·cases h
 |store sz h1 a x=>
  simp only[bJ] at h;simp only[aI];split at h
  ·rename_i h2;refine⟨h2,?_⟩;split at h
   ·rename_i h3;rw[h3];split at h;·rename_i h4;cases h;exact⟨RF h4,hK⟩
    ·cases h
   ·cases h
  ·cases h
 |dr d x=>simp only[bJ] at h;simp only[aI];split at h<;>first|(rename_i h1;rw[h1];cases h;exact hK)|cases h
 |lq d x off=>simp only[bJ] at h;simp only[aI];split at h<;>first|(rename_i h1;rw[h1];cases h;exact hK)|cases h
 |lu d x off sz agg=>
  simp only[bJ] at h;simp only[aI];split at h
  ·rename_i h1;rw[h1];split at h;·rename_i h2;cases h;exact⟨h2,hK⟩
   ·cases h
  ·cases h
 |nj d sz x i=>
  simp only[bJ] at h;simp only[aI];split at h
  ·rename_i h1;rw[h1];split at h
   ·rename_i h2;refine⟨h2,?_⟩;split at h
    ·rename_i h3;rw[h3];split at h
     ·rename_i h4;refine⟨h4,?_⟩;split at h;·rename_i e h5;cases h;exact⟨e,h5,hK⟩
      ·cases h
     ·cases h
    ·rename_i h3;rw[h3];simp only;split at h
     ·rename_i h4;rw[h4];split at h;·rename_i h5;cases h;exact⟨h5.1,h5.2,hK⟩
      ·cases h
     ·cases h
    ·rename_i h3;rw[h3];simp only;split at h
     ·rename_i h4;rw[h4];split at h;·rename_i h5;cases h;exact⟨h5.1,h5.2,hK⟩
      ·cases h
     ·cases h
    ·cases h
   ·cases h
  ·cases h
 |cR d x i=>
  simp only[bJ] at h;simp only[aI];split at h
  ·rename_i h1 h2;rw[h1,h2];split at h
   ·rename_i h3;refine⟨h3,?_⟩;split at h;·rename_i b h4;cases h;exact⟨b,h4,hK⟩
    ·cases h
   ·cases h
  ·cases h
 |mB d n sz agg x i=>
  simp only[bJ] at h;simp only[aI];split at h
  ·rename_i h1 h2;rw[h1,h2];split at h;·rename_i h3;cases h;exact⟨h3.1,h3.2.1,h3.2.2,hK⟩
   ·cases h
  ·cases h
 |ext d x i=>
  simp only[bJ] at h;simp only[aI];split at h
  ·rename_i h1;rw[h1];split at h;·rename_i h3;cases h;exact⟨h3,hK⟩
   ·cases h
  ·cases h
 |jw d x lo hi=>
  simp only[bJ] at h;simp only[aI];split at h
  ·rename_i h1;rw[h1];split at h;·rename_i h3;cases h;exact⟨h3.1,h3.2.1,h3.2.2,hK⟩
   ·cases h
  ·cases h
 |oX d sz x lo hi=>
  simp only[bJ] at h;simp only[aI];split at h
  ·rename_i z0 xs h1;split at h;·rename_i h2;obtain⟨rfl,h2,h3,h4⟩:=h2;refine⟨xs,h1,h2,h3,h4,?_⟩;split at h<;>first|(rename_i h5;rw[h5];cases h;exact hK)|cases h
   ·cases h
  ·cases h
 |qk sz z x=>
  simp only[bJ] at h;simp only[aI];split at h
  ·rename_i h1;rw[h1];simp only;split at h
   ·rename_i h2;rw[h2];split at h;·rename_i h3;cases h;exact⟨h3,hK⟩
    ·cases h
   ·cases h
  ·cases h
 |mF d f x as=>
  simp only[bJ] at h;simp only[aI];split at h
  ·rename_i cs h1;rw[h1];split at h
   ·rename_i h2;refine⟨h2,?_⟩;unfold Ht at h;split at h
    ·rename_i r ys ps ho;split at h
     ·rename_i h3;split at h;·rename_i s2 h4;cases h;exact(hC _ _ _ ho).mono λr' ps' ⟨e1,e2⟩=>by rw[e1,e2];exact⟨h3,_,h4,hK⟩
      ·cases h
     ·cases h
    ·cases h
   ·cases h
  ·cases h
 |oP d fz sz agg a=>
  simp only[bJ] at h;simp only[aI];split at h
  ·rename_i cs h1;split at h;·rename_i h2;exact⟨cs,h1,h2,s',h,hK⟩
   ·cases h
  ·cases h
 |nw d f cs=>cases h;exact hK
 |len d x=>
  simp only[bJ] at h;simp only[aI];split at h;·rename_i z xs h1;cases h;exact⟨z,xs,h1,hK⟩
  ·cases h
 |nP d x=>
  simp only[bJ] at h;simp only[aI];split at h;·rename_i h1;rw[h1];cases h;exact hK
  ·cases h
 |app d h1 sz bytes x y=>
  simp only[bJ] at h;simp only[aI];split at h
  ·rename_i z xs h2;rw[h2];split at h
   ·rename_i h3;refine⟨h3,?_⟩;cases h1 with
    |mv=>
     simp only at h⊢;split at h
     ·rename_i h4;simp only[h4];split at h;·rename_i h5;cases h;exact⟨h5.1,h5.2,hK⟩
      ·cases h
     ·cases h
    |al=>
     simp only at h⊢;split at h
     ·rename_i z' ys h4;split at h;·rename_i h5;obtain⟨rfl,h5,h6⟩:=h5;cases h;exact⟨ys,h4,h5,CR h6,hK⟩
      ·cases h
     ·cases h
    |aZ=>
     simp only at h⊢;split at h
     ·rename_i z' ys h4;split at h;·rename_i h5;obtain⟨rfl,h5,h6⟩:=h5;cases h;exact⟨ys,h4,h5,CR h6,hK⟩
      ·cases h
     ·cases h
   ·cases h
  ·cases h
 |mn d xs=>
  simp only[bJ] at h;simp only[aI];split at h
  ·rename_i h1;rw[h1];split at h;·rename_i h2;cases h;exact⟨h2,hK⟩
   ·cases h
  ·cases h
 |mx d xs=>
  simp only[bJ] at h;simp only[aI];split at h
  ·rename_i h1;rw[h1];split at h;·rename_i h2;cases h;exact⟨h2,hK⟩
   ·cases h
  ·cases h
 |call d f as=>exact EK hC h hK
 |lf d x as=>
  simp only[bJ] at h;simp only[aI];split at h
  ·rename_i h1;rw[h1];split at h;·rename_i h2;exact⟨hok _ h2,EK hC h hK⟩
   ·cases h
  ·cases h
end
end M
namespace M
open Go
mutual
def X.cY:X->X->Bool
 |.dead,.dead=>true
 |.int k n,.int k' n'=>decide (k=k') && decide (n=n')
 |.bool a,.bool b=>a==b
 |.str s,.str t=>decide (s=t)
 |.row m z xs,.row m' z' ys=>decide (m=m') && z==z' && X.mN xs ys
 |.ptr m xs,.ptr m' ys=>decide (m=m') && X.jg xs ys
 |.agg xs,.agg ys=>X.jg xs ys
 |.aq xs,.aq ys=>X.jg xs ys
 |.fn f xs,.fn g ys=>f==g && X.jg xs ys
 |.ref s p,.ref t q=>s==t && p==q
 |.av s p i c,.av t q j d=>s==t && p==q && i==j && c==d
 |.cut s p i c,.cut t q j d=>s==t && p==q && i==j && c==d
 |_,_=>false
def X.jg:List X->List X->Bool
 |[],[]=>true
 |x::l,y::r=>X.cY x y && X.jg l r
 |_,_=>false
def X.mN:List (List X)->List (List X)->Bool
 |[],[]=>true
 |x::l,y::r=>X.jg x y && X.mN l r
 |_,_=>false
end
mutual
def X.Fj:∀{x y:X},X.cY x y=true->x=y
 |.dead,y,h=>by cases y<;>simp_all[X.cY]
 |.int k n,y,h=>by cases y<;>simp_all[X.cY]
 |.bool a,y,h=>by cases y<;>simp_all[X.cY]
 |.str s,y,h=>by cases y<;>simp_all[X.cY]
 |.row m z xs,y,h=>by cases y<;>simp only[X.cY,au,aP,cT,gx] at h;rw[h.1.1,h.1.2,X.Fh h.2]
 |.ptr m xs,y,h=>by cases y<;>simp only[X.cY,au,aP,cT,gx] at h;rw[h.1,X.qq h.2]
 |.agg xs,y,h=>by cases y<;>simp only[X.cY,gx] at h;rw[X.qq h]
 |.aq xs,y,h=>by cases y<;>simp only[X.cY,gx] at h;rw[X.qq h]
 |.fn f xs,y,h=>by cases y<;>simp only[X.cY,au,cT,gx] at h;rw[h.1,X.qq h.2]
 |.ref s p,y,h=>by cases y<;>simp_all[X.cY]
 |.av s p i c,y,h=>by cases y<;>simp_all[X.cY]
 |.cut s p i c,y,h=>by cases y<;>simp_all[X.cY]
def X.qq:∀{x y:List X},X.jg x y=true->x=y
 |[],[],_=>rfl
 |[],_::_,h=>by simp[X.jg] at h
 |_::_,[],h=>by simp[X.jg] at h
 |x::l,y::r,h=>by simp only[X.jg,au] at h;rw[X.Fj h.1,X.qq h.2]
def X.Fh:∀{x y:List (List X)},X.mN x y=true->x=y
 |[],[],_=>rfl
 |[],_::_,h=>by simp[X.mN] at h
 |_::_,[],h=>by simp[X.mN] at h
 |x::l,y::r,h=>by simp only[X.mN,au] at h;rw[X.qq h.1,X.Fh h.2]
end
mutual
def X.Fk:∀x:X,X.cY x x=true
 |.dead=>rfl
 |.int k n=>by simp[X.cY]
 |.bool a=>by simp[X.cY]
 |.str s=>by simp[X.cY]
 |.row m z xs=>by simp[X.cY,X.Fi xs]
 |.ptr m xs=>by simp[X.cY,X.qt xs]
 |.agg xs=>by simp[X.cY,X.qt xs]
 |.aq xs=>by simp[X.cY,X.qt xs]
 |.fn f xs=>by simp[X.cY,X.qt xs]
 |.ref s p=>by simp[X.cY]
 |.av s p i c=>by simp[X.cY]
 |.cut s p i c=>by simp[X.cY]
def X.qt:∀x:List X,X.jg x x=true
 |[]=>rfl
 |x::l=>by simp[X.jg,X.Fk x,X.qt l]
def X.Fi:∀x:List (List X),X.mN x x=true
 |[]=>rfl
 |x::l=>by simp[X.mN,X.qt x,X.Fi l]
end
def mM:af->af->Bool
 |[],[]=>true
 |(k,x)::l,(k',y)::r=>k==k' && X.cY x y && mM l r
 |_,_=>false
def Fg:∀{x y:af},mM x y=true->x=y
 |[],[],_=>rfl
 |[],_::_,h=>by simp[mM] at h
 |_::_,[],h=>by simp[mM] at h
 |(k,x)::l,(k',y)::r,h=>by simp only[mM,au,cT] at h;rw[h.1.1,X.Fj h.1.2,Fg h.2]
def same:Option af->Option af->Option af
 |some a,some b=>if mM a b=true then some a else none
 |_,_=>none
def eG(C:bw)(ok:FuncId->Bool)(g:G)(s:af):Option af:=match g with
 |⟨none,o⟩=>bJ C ok o s
 |⟨some (t,b),o⟩=>match get s t with
  |.bool v=>if v=b then bJ C ok o ((t,.bool b)::s) else some (dN o.dst (.aq []) ((t,.bool (!b))::s))
  |.aq []=>some (dN o.dst (.aq []) s)
  |_=>none
def gE(C:bw)(ok:FuncId->Bool):List G->af->Option af
 |[],s=>some s
 |g::l,s=>(eG C ok g s).bind (gE C ok l)
def eD(C:bw)(ok:FuncId->Bool):DT->af->Option af
 |.nil ks,s=>some (keep ks s)
 |.step _ g t,s=>(eG C ok g s).bind (eD C ok t)
 |.alt a b,s=>same (eD C ok a s) (eD C ok b s)
 |.kp ks t,s=>eD C ok t (keep ks s)
abbrev bx:=Option (Ex×af)
def dG(k:af->bx):bx->bx
 |some (.normal,s)=>k s
 |some (.exit i,s)=>some (.exit i,s)
 |some (.ret,s)=>some (.ret,s)
 |none=>none
def iD(id:Nat):bx->bx
 |some (.exit i,s)=>if i=id then some (.normal,s) else some (.exit i,s)
 |some (.normal,s)=>some (.normal,s)
 |some (.ret,s)=>some (.ret,s)
 |none=>none
def iS(ks:List Nat):bx->bx
 |some (.normal,s)=>some (.normal,keep ks s)
 |some (.exit i,s)=>some (.exit i,s)
 |some (.ret,s)=>some (.ret,s)
 |none=>none
def fm:Option af->bx
 |some s=>some (.normal,s)
 |none=>none
def iter(f:af->bx):Nat->af->bx
 |0,_=>none
 |n+1,s=>dG (iter f n) (f s)
def eA(C:bw)(ok:FuncId->Bool)(N:Nat):A->af->bx
 |.skip,s=>some (.normal,s)
 |.ret,s=>some (.ret,s)
 |.exit id,s=>some (.exit id,s)
 |.ops l,s=>fm (gE C ok l s)
 |.draw t,s=>fm (eD C ok t s)
 |.seq a b,s=>dG (eA C ok N b) (eA C ok N a s)
 |.cond c a b,s=>match aj s c with
  |.bool t=>if t=true then eA C ok N a s else eA C ok N b s
  |_=>none
 |.block id b,s=>iD id (eA C ok N b s)
 |.loop b,s=>iter (eA C ok N b) N s
 |.pk ks b,s=>iS ks (eA C ok N b s)
structure Fn where
 body:A
 rs:List RV
 n:Nat
abbrev fU:=FuncId->Option Fn
def fin(F:Fn):bx->Option Out
 |some (.exit _,_)=>none
 |some (_,s)=>if X.clean.bC (cJ F.rs s).1=true/\(cJ F.rs s).1.any X.jm=false then some (oV (cJ F.rs s).1,lQ 0 F.n (cJ F.rs s).2) else none
 |none=>none
def eF(C:bw)(ok:FuncId->Bool)(N:Nat)(F:Fn)(xs:List X):Option Out:=
 if xs.length=F.n then fin F (eA C ok N F.body (jE xs)) else none
def aH(T:fU)(f:FuncId):Bool:=(T f).isSome
def exec(L:bw)(T:fU):Nat->bw
 |0,_,_=>none
 |n+1,f,xs=>match T f with
  |some F=>eF (exec L T n) (aH T) n F xs
  |none=>L f xs
section
variable [Bs]{P:Program}{C:bw}{ok:FuncId->Bool}
def Fa(hC:C.Sound P)(hok:∀f,ok f=true->aF P f=true){g:G}{s s':af}(h:eG C ok g s=some s'){K:af->Prop}(hK:K s'):k8 P g s K:=by
 obtain⟨gg,o⟩:=g;cases gg with
 |none=>exact Fc hC hok h hK
 |some tb=>
  obtain⟨t,b⟩:=tb;simp only[eG] at h;simp only[k8];split at h
  ·rename_i v hv;rw[hv];split at h;·rename_i iN;exact⟨λ_=>Fc hC hok h hK,λhn=>by subst iN;cases v<;>simp at hn⟩
   ·rename_i iN;exact⟨λhh=>(iN hh).elim,λ_=>by cases h;exact hK⟩
  ·rename_i hv;rw[hv];cases h;exact hK
  ·cases h
def Ff(hC:C.Sound P)(hok:∀f,ok f=true->aF P f=true):∀{l:List G} {s s':af},gE C ok l s=some s'->∀{Q:Ex->af->Prop},Q .normal s'->gS P l s Q
 |[],s,s',h,Q,hQ=>by cases h;exact hQ
 |g::l,s,s',h,Q,hQ=>by
  simp only[gE] at h;cases h1:eG C ok g s with
  |none=>rw[h1] at h;cases h
  |some s1=>rw[h1] at h;exact Fa hC hok h1 (Ff hC hok h hQ)
def sZ(hC:C.Sound P)(hok:∀f,ok f=true->aF P f=true):∀{t:DT} {s s':af},eD C ok t s=some s'->∀{Q:Ex->af->Prop},Q .normal s'->eR P t s Q
 |.nil ks,s,s',h,Q,hQ=>by cases h;exact hQ
 |.step i g t,s,s',h,Q,hQ=>by
  simp only[eD] at h;cases h1:eG C ok g s with
  |none=>rw[h1] at h;cases h
  |some s1=>rw[h1] at h;exact Fa hC hok h1 (sZ hC hok h hQ)
 |.alt a b,s,s',h,Q,hQ=>by
  simp only[eD] at h;unfold same at h;split at h
  ·rename_i x y hx hy;split at h;·rename_i he;obtain rfl:=Fg he;cases h;exact⟨sZ hC hok hx hQ,sZ hC hok hy hQ⟩
   ·cases h
  ·cases h
 |.kp ks t,s,s',h,Q,hQ=>sZ (t:=t) hC hok h hQ
def Ib{k:af->bx}{r:bx}{e:Ex}{s:af}(h:dG k r=some (e,s)):(∃s',r=some (.normal,s')/\k s'=some (e,s))\/(e≠.normal/\r=some (e,s)):=by
 unfold dG at h;split at h;·exact .inl ⟨_,rfl,h⟩
 ·cases h;exact .inr ⟨by simp,rfl⟩
 ·cases h;exact .inr ⟨by simp,rfl⟩
 ·cases h
def Lr(hC:C.Sound P)(hok:∀f,ok f=true->aF P f=true){N:Nat}:∀{t:A} {s s':af} {e:Ex},eA C ok N t s=some (e,s')->∀{Q:Ex->af->Prop},Q e s'->cX P t s Q:=by
 intro t;induction t with
 |skip=>intro s s' e h Q hQ;cases h;exact hQ
 |ret=>intro s s' e h Q hQ;cases h;exact hQ
 |exit id=>intro s s' e h Q hQ;cases h;exact hQ
 |ops l=>
  intro s s' e h Q hQ;simp only[eA] at h;unfold fm at h;split at h;·rename_i s1 h1;cases h;exact Ff hC hok h1 hQ
  ·cases h
 |draw l=>
  intro s s' e h Q hQ;simp only[eA] at h;unfold fm at h;split at h;·rename_i s1 h1;cases h;exact sZ hC hok h1 hQ
  ·cases h
 |seq a b fk gI=>
  intro s s' e h Q hQ;simp only[eA] at h;rcases Ib h with ⟨s1,h1,h2⟩|⟨hne,h1⟩;·exact fk h1 (gI h2 hQ)
  ·refine fk h1 ?_;cases e with
   |normal=>exact(hne rfl).elim
   |exit i=>exact hQ
   |ret=>exact hQ
 |cond c a b fk gI=>
  intro s s' e h Q hQ;simp only[eA] at h;simp only[cX];split at h
  ·rename_i t ht;rw[ht];split at h;·rename_i h1;exact⟨λ_=>fk h hQ,λh2=>by rw[h1] at h2;cases h2⟩
   ·rename_i h1;exact⟨λh2=>(h1 h2).elim,λ_=>gI h hQ⟩
  ·cases h
 |block id b ih=>
  intro s s' e h Q hQ;simp only[eA] at h;unfold iD at h;split at h
  ·rename_i i s1 h1;split at h;·rename_i hi;cases h;refine ih h1 ?_;subst hi;simpa using hQ
   ·rename_i hi;cases h;refine ih h1 ?_;have:(i==id)=false:=by simpa using hi
    simpa [this] using hQ
  ·rename_i s1 h1;cases h;exact ih h1 hQ
  ·rename_i s1 h1;cases h;exact ih h1 hQ
  ·cases h
 |loop b ih=>
  intro s s' e h Q hQ;simp only[eA] at h;refine⟨λn s1=>iter (eA C ok N b) n s1=some (e,s'),⟨N,h⟩,λn s1 h1=>?_⟩;cases n with
  |zero=>cases h1
  |succ n=>
   simp only[iter] at h1;rcases Ib h1 with ⟨s2,h2,h3⟩|⟨hne,h2⟩;·exact ih h2 ⟨n,Nat.lt_succ_self n,h3⟩
   ·refine ih h2 ?_;cases e with
    |normal=>exact(hne rfl).elim
    |exit i=>exact hQ
    |ret=>exact hQ
 |pk ks b ih=>
  intro s s' e h Q hQ;simp only[eA] at h;unfold iS at h;split at h;·rename_i s1 h1;cases h;exact ih h1 hQ
  ·rename_i s1 h1;cases h;exact ih h1 hQ
  ·rename_i s1 h1;cases h;exact ih h1 hQ
  ·cases h
structure fU.Ok (P:Program) (T:fU):Prop where
 told:∀f F,T f=some F->Told P f F.body F.rs F.n
 ok:∀f F,T f=some F->aF P f=true
def Fm{L:bw}{T:fU}(hL:L.Sound P)(hT:T.Ok P):∀n,(exec L T n).Sound P
 |0=>λf xs o h=>by cases h
 |n+1=>λf xs o h=>by
  simp only[exec] at h;split at h
  ·rename_i F hF;unfold eF at h;split at h
   ·rename_i hn;refine(hT.told f F hF).ac hn ?_;unfold fin at h;split at h;·cases h
    ·rename_i e s' h1 h2;split at h
     ·rename_i hc;have h2:eA (exec L T n) (aH T) n F.body (jE xs)=some (e,s'):=h2;cases h;refine Lr (Fm hL hT n) (λf hf=>?_) h2 ?_;·unfold aH at hf;obtain⟨F',NO⟩:=sg.1 hf;exact hT.ok f F' NO
      ·cases e with
       |exit i=>exact(h1 i rfl).elim
       |normal=>exact⟨hc.1,λx hx=>by have:=List.any_eq_false.1 hc.2 x hx;simpa using this,rfl,rfl⟩
       |ret=>exact⟨hc.1,λx hx=>by have:=List.any_eq_false.1 hc.2 x hx;simpa using this,rfl,rfl⟩
     ·cases h
    ·cases h
   ·cases h
  ·exact hL f xs o h
end
end M
