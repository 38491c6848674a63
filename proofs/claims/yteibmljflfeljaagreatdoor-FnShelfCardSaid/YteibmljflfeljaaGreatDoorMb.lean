/- A machine of values for loaded Go functions, sound for the calculus of calls; part 2; no conditions. -/
import Derived.Test.YteibmljflfeljaaGreatDoorMa
import Derived.Laws.IdiomCopy
import Derived.Lib.SliceRun
import Derived.Laws.Cover3
set_option linter.defProp false
set_option linter.unusedSectionVars false
set_option linter.unusedVariables false
set_option linter.unusedSimpArgs false
namespace M
open Go Go.RowKit
variable [Bs]
section
variable {P:Program}{c:Ctx}{G:Nat->C}{zl:Nat->Nat->Prop}{s:ah}{a:Act}{w:World}{o:Oper}{K:ah->Prop}
def aiM{zb:Nat->Nat->Prop}(h:Inv w zl zb G s){v:Value}{r:Nat}{p:Path}{i k:Nat}(hr:(C.az v r p i k).rf G){l:List C}(hs:storable s r p i k (l.map C.er))(hl:∀x∈l,cU x.er=true->x.cU):
  ∃g k0 d,v=.pointer (some ⟨g,k0,none⟩)/\(G r).sub p=some d/\∀q x,l[q]?=some x->fm d i (k+q) x g (k0+q):=by
 obtain⟨d,hd,hp⟩:=hr;unfold storable look at hs;rw[<-h.er,C.gP,hd] at hs;simp only[cv] at hs;rcases hp with ⟨m,sz,g,o,len,cap,e,rfl,rfl⟩|⟨m,g,o,n,f,rfl,rfl,rfl⟩
 ·refine⟨g,o+i*sz+k,_,rfl,hd,λq x hq=>?_⟩;simp only[C.er] at hs;cases m with
  |own=>
   simp only[C.de] at hs;split at hs
   ·rename_i e0 kj;split at kj
    ·rename_i hi;injection kj with kj
     obtain⟨h1,h2⟩:=hs;have hlen:e0.length=sz:=by rw[<-kj];simp
     have oG:=(aJ.1 hq).1;simp only[cV] at h1;have:=fm.row (d:=.row .own sz (some (g,o,none)) len cap e) (i:=i) (c:=k+q) (y:=x) rfl hi (by omega) (hl x (mo hq) (Iz h2 _ (kH (mo hq))));rwa [show o+i*sz+(k+q)=o+i*sz+k+q by omega] at this
    ·cases kj
   ·exact hs.elim
  |sl=>exact hs.elim
  |af=>exact hs.elim
 ·refine⟨g,o+k,_,rfl,hd,λq x hq=>?_⟩;simp only[C.er] at hs;cases m with
  |own=>have oG:=(aJ.1 hq).1;simp only[cV,tU] at hs;have:=fm.ptr (d:=.ptr .own g o n f) (i:=0) (c:=k+q) (y:=x) rfl rfl (by omega);rwa [show o+(k+q)=o+k+q by omega] at this
  |sl=>exact hs.elim
  |af=>exact hs.elim
def Vb{x:C}(h:cU x.er=true):x.cU:=by cases x<;>first|trivial|(simp[C.er,cU] at h)
def ahB(h:St c G zl s a w){sz:Nat}{tk:Tk}{ty:TypeId}{x y:AV}{x' y':Operand}(ho:o.op=.store ty y' x')(hsz:∃i,P.info? ty=some i/\i.size=sz)(h0:0<sz)(hd:o.dst=none)(hx:aQ x' x=true)(hy:aQ y' y=true)
  (hK:aT P (.store sz tk y x) s K):Good P c o a w K:=by
 obtain⟨p,e1,e2,e3⟩:=cx h hx;obtain⟨q,G1,f1,f2,f3,f4⟩:=qV tk h.inv e3;obtain⟨k1,k2⟩:=hK;rw[e1] at f1 f4;have h1:=h.zu f4;obtain⟨u,u1,u2,u3⟩:=cx h1 hy;rw[<-u1] at k2;cases u with
 |az v r pp i k=>
  simp only[C.er] at k2;obtain⟨k2,k3⟩:=k2;rw[<-f1,<-uo] at k1 k2 k3;have hsh:=Iv f4.rf;have hT:=bP.flat (bP.one f4) (λx hx=>by rw[fC] at hx;subst hx;exact hsh);simp only[jV,Pd,lz] at hT;obtain⟨g,k0,d,hv,hsub,hsp⟩:=aiM h1.inv u3.rf k2 (λx _ hs=>Vb hs);have hlen:q.cells.length=sz:=by simpa using k1
  obtain⟨w',G',j1,j2,j3,j4,j5⟩:=Vj (P:=P) r pp i (k0:=k0) q.cells.length q.cells rfl k 0 h1.inv hsub (by simpa using hsp) ⟨λx hx=>⟨(wW hsh f4.ok hx).1,(wW hsh f4.ok hx).2,Kk f4.rf hx,(hT.all x hx).2.1,(hT.all x hx).2.2.1⟩,hT.apart⟩;have hcv:=ED (by omega) hsh;refine⟨undef,w',.inr ⟨?_,rfl⟩,G',zl,_,k3,?_⟩
  ·have K5:a.eval y'=.pointer (some ⟨g,k0,none⟩):=by rw[<-u2];exact hv
   obtain⟨ii,hi,kU⟩:=hsz;have hxv:a.eval x'=q.val:=by rw[f2,e2]
   simp[execOp,ho,K5,hxv,Instr.storeAt,Instr.sureAddr,storeVar,hcv,Go.sizeOf,typeInfo,hi,kU,hlen,j1]
  ·rw[hd];refine h.move j2 (λt=>(j3 t).trans (f4.val t)) j5 (λb k' hs=>?_) (λt b k' hf=>?_)
   ·obtain⟨rfl,hs1,hs2⟩:=hs;simp only[om] at hs1 hs2;have hlt:k' - k0<q.cells.length:=by omega
    have:=(hsp (k' - k0) _ (cz hlt)).fp;rw[show k0+(k' - k0)=k' by omega] at this;exact h1.tr.dom r _ _ (C.gQ pp hsub (h1.inv.ok r) this)
   ·refine .inl ?_;rcases j4 t b k' hf with ⟨x,hx,hf⟩|hf;·exact(hT.all x hx).2.2.2 b k' hf
    ·exact⟨t,f4.mono t b k' hf⟩
 |_=>exact k2.elim
def cR(len z:Nat)(e:Nat->Nat->C):List (List C):=(List.range len).map λi=>(List.range z).map λj=>e i j
def ve(len z:Nat)(e:Nat->Nat->C):∀x∈cR len z e,x.length=z:=λx hx=>by obtain⟨i,_,rfl⟩:=bw.1 hx;simp
def Tv(len z:Nat)(e:Nat->Nat->C):(cR len z e).map (λx=>x.map C.er)=dL z len e:=by simp only[cR,dL,cP];refine cm λi _=>?_;show ((List.range z).map λj=>e i j).map C.er=_;rw[cP];rfl
def nN{len z:Nat}{e:Nat->Nat->C}{x:C}(hx:x∈(cR len z e).flatten):∃i j,i<len/\j<z/\x=e i j:=by obtain⟨l,hl,hx⟩:=Jg.1 hx;obtain⟨i,hi,rfl⟩:=bw.1 hl;obtain⟨j,hj,rfl⟩:=bw.1 hx;exact⟨i,j,by simpa using hi,by simpa using hj,rfl⟩
def Tu{len z:Nat}{e:Nat->Nat->C}{q:Nat}{x:C}(h0:0<z)(h:(cR len z e).flatten[q]?=some x):q / z<len/\q%z<z/\x=e (q / z) (q%z):=by
 have hq:=(aJ.1 h).1;rw[r7 (ve len z e)] at hq;have hl:(cR len z e).length=len:=by simp[cR]
 rw[hl] at hq;have h1:q%z<z:=tN _ h0;have h2:q / z<len:=WG (by rw[q9];exact hq);have A5:q=q / z*z+q%z:=by have:=DP q z;rw[q9] at this;omega
 have:=AE (ve len z e) (q / z) (q%z) (by rw[hl];exact h2) h1;rw[<-A5,h] at this;simp only[cR,C.de,ax h2,gx,ax h1] at this;exact⟨h2,h1,iL this⟩
def Mc{Z:Md->Nat->Nat->Prop}{z len cap:Nat}{A:Option Ad}{e:Nat->Nat->C}(h:(C.row .own z A len cap e).ok w Z):(cR len z e).flatten.Pairwise λa b=>∀x k,a.fp x k->¬b.fp x k:=by
 obtain⟨h1,h2,h3,h4,h5⟩:=h;refine List.pairwise_flatten.2 ⟨λl hl=>?_,?_⟩
 ·obtain⟨i,hi,rfl⟩:=bw.1 hl;have hi:i<len:=by simpa using hi
  refine DL.2 (Jp (R:=λa b=>a<b) ?_ OO);intro j j' hj hj' hlt b k hf;exact(h5 i j hi (by simpa using hj) b k hf).2 i j' hi (by simpa using hj') (by simp;omega)
 ·refine DL.2 (Jp (R:=λa b=>a<b) ?_ OO);intro i i' hi hi' hlt x hx y hy b k hf;obtain⟨j,hj,rfl⟩:=bw.1 hx;obtain⟨j',hj',rfl⟩:=bw.1 hy;exact(h5 i j (by simpa using hi) (by simpa using hj) b k hf).2 i' j' (by simpa using hi') (by simpa using hj') (by simp;omega)
def KL{w1:World}{z len cap:Nat}{A:Option Ad}{e:Nat->Nat->C}(h0:0<z)(hc:∀i j,i<len->j<z->∃g o,A=some (g,o,none)/\w1.cell? ⟨g,o+i*z+j,none⟩=some (e i j).val):
  (Builtin.firstCells z len (.slice (A.map λq=>⟨q.1,q.2.1,q.2.2⟩) len cap)).run P w1=.ok ((cR len z e).flatten.map C.val).toArray w1/\(A=none->len=0):=by
 cases A with
 |none=>
  have hl:len=0:=by
   rcases OU len with h|h;·exact h
   ·obtain⟨g,o,hA,_⟩:=hc 0 0 h h0;cases hA
  subst hl;exact⟨run_firstCells_none w1 z 0 0 cap,λ_=>rfl⟩
 |some q=>
  refine⟨?_,λh=>by cases h⟩;refine run_firstCells_some w1 z len ⟨q.1,q.2.1,q.2.2⟩ len cap _ ?_ λj v hj=>?_;·rw[cV,r7 (ve len z e)];simp[cR]
  ·rw[cZ] at hj;cases hk:(cR len z e).flatten[j]? with
   |none=>rw[hk] at hj;cases hj
   |some x=>
    rw[hk] at hj;obtain⟨a1,a2,rfl⟩:=Tu h0 hk;injection hj with hj
    obtain⟨g,o,hA,hcl⟩:=hc _ _ a1 a2;injection hA with hA
    subst hA;have A5:j=j / z*z+j%z:=by have:=DP j z;rw[q9] at this;omega
    rw[rC,<-hj,<-hcl];congr 2;show o+j=_;omega
end
end M
namespace M
open Go Go.RowKit
variable [Bs]
section
variable {P:Program}
def bP.sub{w:World}{zl zb:Nat->Nat->Prop}{G G1:Nat->C}{s1:ah}{l ks:List C}(hT:bP w zl zb G l G1 s1)(hok:∀x∈ks,x.ok w (Zf zl zb))(cC:∀x∈ks,∀b k,x.fp b k->∃y∈l,y.fp b k)
  (ia:ks.Pairwise λa b=>∀x k,a.fp x k->¬b.fp x k):bP w zl zb G ks G1 s1 where
 inv:=hT.inv
 all:=λx hx=>⟨hok x hx,λt b k hf=>by obtain⟨y,hy,hf⟩:=cC x hx b k hf;exact(hT.all y hy).2.1 t b k hf,λb k hf=>by obtain⟨y,hy,hf⟩:=cC x hx b k hf;exact(hT.all y hy).2.2.1 b k hf,
  λb k hf=>by obtain⟨y,hy,hf⟩:=cC x hx b k hf;exact(hT.all y hy).2.2.2 b k hf⟩
 apart:=ia
 val:=hT.val
 mono:=hT.mono
def Ext.setCells(b:Nat):∀(vs:List Value) (o:Nat) (w:World),Ext (λg k=>g=b/\o<=k/\k<o+vs.length) w (w.setCells b o vs)
 |[],o,w=>Ext.refl _ _
 |v::vs,o,w=>by rw[World.setCells];refine((Ext.setCell w b o v).mono (S':=λg k=>g=b/\o<=k/\k<o+(v::vs).length) (λg k hs _=>⟨hs.1,by omega,by simp only[cw];omega⟩)).trans (Ext.setCells b vs (o+1) _) λg k hs _=>⟨hs.1,by omega,by simp only[cw];omega⟩
def aii{w:World}{t u ty e e':TypeId}{i:TypeInfo}(ht:P.underlying t=some (.slice e))(hu:P.underlying u=some (.slice e'))(hi:P.info? e=some i){A B:Option Addr}{len cap m cap2:Nat}{news:List Value}(h:len+m<=cap)
  (hx:(Builtin.firstCells i.size m (.slice B m cap2)).run P w=.ok news.toArray w):
  (Builtin.append_ #[t,u] ty #[.slice A len cap,.slice B m cap2]).run P w=match A with
   |some a=>((storeCells (a.add (len*i.size)) news).run P w).andThen λ_ w'=>.ok (.slice (some a) (len+m) cap) w'
   |none=>.ok (.slice none (len+m) cap) w:=by
 cases A with
 |none=>simp[Builtin.append_,run_underlying ht,run_underlying hu,Go.sizeOf,typeInfo,hi,Builtin.lenOf,h,hx]
 |some a=>simp[Builtin.append_,run_underlying ht,run_underlying hu,Go.sizeOf,typeInfo,hi,Builtin.lenOf,h,hx]
def aih{w:World}{t u ty e e':TypeId}{i:TypeInfo}{z:Value}(ht:P.underlying t=some (.slice e))(hu:P.underlying u=some (.slice e'))(hi:P.info? e=some i)(hz:i.zero=some z){A B:Option Addr}{len cap m cap2:Nat}{olds news:List Value}(h:¬len+m<=cap)
  (h63:len+m<=9223372036854775807)(hfit:Builtin.nextslicecap (len+m) cap*i.bytes<=281474976710656)
  (hx:(Builtin.firstCells i.size m (.slice B m cap2)).run P w.drew=.ok news.toArray w.drew)(hy:(Builtin.firstCells i.size len (.slice A len cap)).run P w.drew=.ok olds.toArray w.drew):
  (Builtin.append_ #[t,u] ty #[.slice A len cap,.slice B m cap2]).run P w=.ok (.slice (some ⟨w.heap.size,0,none⟩) (len+m) (grownCap w (len+m) cap e))
    (w.drew.alloc (.cells (olds.toArray++news.toArray++Builtin.zeroCells z.cells (grownCap w (len+m) cap e - (len+m))) e)):=by
 have h63':¬(9223372036854775807<((len:Int)+(m:Int))):=by omega
 have aeb:¬(281474976710656<Builtin.nextslicecap (len+m) cap*i.bytes):=by omega
 simp[Builtin.append_,run_underlying ht,run_underlying hu,Go.sizeOf,typeInfo,zeroValue,hi,hz,Builtin.lenOf,h,h63',aeb,Question.forced,hx,hy,newRow,grownCap];congr 2;apply pN;simp[mz]
variable {c:Ctx}{G:Nat->C}{zl:Nat->Nat->Prop}{s:ah}{a:Act}{w:World}{o:Oper}{K:ah->Prop}
def JM(h:St c G zl s a w){G1:Nat->C}{s1:ah}{l:List C}(hT:bP w zl c.zb G l G1 s1){d z bytes:Nat}{ty ty' el EV:TypeId}{i:TypeInfo}{v:Value}{x' y':Operand}
  (ho:o.op=.call {callee:=.builtin .append,args:= #[x',y'],argTypes:= #[ty,ty']})(hu:P.underlying ty=some (.slice el))(xE:P.underlying ty'=some (.slice EV))(hi:P.info? el=some i)(hz:i.zero=some v)(hsz:i.size=z)(hb:i.bytes=bytes)(hb0:0<bytes)(h0:0<z)(hvs:v.cells.size=z)
  (hd:o.dst=some d)(hn:d<c.nt){A:Option Ad}{len cap:Nat}{e:Nat->Nat->C}(hy1:C.row .own z A len cap e∈l)(hv1:a.eval x'=(C.row .own z A len cap e).val)
  {A2:Option Ad}{m cap2:Nat}{e2:Nat->Nat->C}(A9:a.eval y'=.slice (A2.map λq=>⟨q.1,q.2.1,q.2.2⟩) m cap2)(hc2:∀i j,i<m->j<z->∃g o,A2=some (g,o,none)/\w.cell? ⟨g,o+i*z+j,none⟩=some (e2 i j).val)
  (hk2:∀i j,i<m->j<z->(e2 i j).plain/\(e2 i j).ok w (Zf zl c.zb)/\∀b k,(e2 i j).fp b k->¬(C.row .own z A len cap e).fp b k/\∃y∈l,y.fp b k)
  (hp2:(cR m z e2).flatten.Pairwise λa b=>∀x k,a.fp x k->¬b.fp x k)(hbig:(len+m)*bytes<=140737488355328)(hpl:∀i j,i<len->j<z->(e i j).plain)
  (hK:K (put d (.row .own z (dL z len e++dL z m e2)) s1)):Good P c o a w K:=by
 obtain⟨y1,y2,y3,y4⟩:=hT.all _ hy1;have S8:=y1;obtain⟨r1,r2,r3,r4,r5⟩:=y1;have hk1:∀i j,i<len->j<z->∀b k,(e i j).fp b k->(C.row .own z A len cap e).fp b k:=λi j hi hj b k hf=>C.kz (r3 i j hi hj).1 (r3 i j hi hj).2.2.1 hi hj hf;have hc1:∀i j,i<len->j<z->∃g o,A=some (g,o,none)/\w.cell? ⟨g,o+i*z+j,none⟩=some (e i j).val:=λi j hi hj=>by obtain⟨g,o,q1,q2,_⟩:=r2 i j hi hj;exact⟨g,o,q1,q2⟩
 have hlen:∀x∈cR len z e++cR m z e2,x.length=z:=λx hx=>(dy.1 hx).elim (ve _ _ _ x) (ve _ _ _ x);have Sw:(cR len z e).length=len:=by simp[cR]
 have Sy:(cR m z e2).length=m:=by simp[cR]
 have Fm:(cR len z e++cR m z e2).length=len+m:=by rw[eu,Sw,Sy]
 have kT:(cR len z e++cR m z e2).map (λx=>x.map C.er)=dL z len e++dL z m e2:=by rw[jg,Tv,Tv]
 have hall:∀x∈(cR len z e++cR m z e2).flatten,x.plain/\x.ok w (Zf zl c.zb)/\∀b k,x.fp b k->∃y∈l,y.fp b k:=λx hx=>by
  rw[zQ,dy] at hx;rcases hx with hx|hx;·obtain⟨i,j,hi,hj,rfl⟩:=nN hx;exact⟨hpl i j hi hj,(r3 i j hi hj).2.2.2,λb k hf=>⟨_,hy1,hk1 i j hi hj b k hf⟩⟩
  ·obtain⟨i,j,hi,hj,rfl⟩:=nN hx;obtain⟨a1,a2,a3⟩:=hk2 i j hi hj;exact⟨a1,a2,λb k hf=>(a3 b k hf).2⟩
 have ia:(cR len z e++cR m z e2).flatten.Pairwise λa b=>∀x k,a.fp x k->¬b.fp x k:=by rw[zQ];refine tL.2 ⟨Mc S8,hp2,λx hx y hy b k hf hf'=>?_⟩;obtain⟨i,j,hi,hj,rfl⟩:=nN hx;obtain⟨i',j',hi',hj',rfl⟩:=nN hy;exact((hk2 i' j' hi' hj').2.2 b k hf').1 (hk1 i j hi hj b k hf)
 have jM:bP w zl c.zb G (cR len z e++cR m z e2).flatten G1 s1:=hT.sub (λx hx=>(hall x hx).2.1) (λx hx=>(hall x hx).2.2) ia;have hfl:(cR len z e).flatten.length=len*z:=by rw[r7 (ve _ _ _),Sw]
 have sy:(cR m z e2).flatten.length=m*z:=by rw[r7 (ve _ _ _),Sy]
 have mI:∀r w',(Builtin.append_ #[ty,ty'] o.type #[(C.row .own z A len cap e).val,.slice (A2.map λq=>⟨q.1,q.2.1,q.2.2⟩) m cap2]).run P w=.ok r w'->(execOp a.eval o).run P w=.ok (.value r) w':=λr w' hr=>by simp[execOp,ho,resolve,invoke,builtin,hv1,A9,hr]
 have hmul:len+m<=(len+m)*bytes:=Nat.le_mul_of_pos_right _ hb0;subst hsz;by_cases hroom:len+m<=cap
 ·have hx:=KL (P:=P) (cap:=cap2) h0 hc2;have hr:=aii (P:=P) (ty:=o.type) (A:=A.map λq=>⟨q.1,q.2.1,q.2.2⟩) hu xE hi hroom hx.1;rcases r4 rfl with ⟨hA,hcap⟩|⟨g,o',arr,t,fz,hA,hh,aoO,hfr⟩
  ·
   have hm:m=0:=by omega
   have hl:len=0:=by omega
   subst hm;subst hl;subst hA;subst hcap;obtain⟨G',h'⟩:=h.fresh hT (Ext.refl _ w) hn S8 trivial (λb k hf=>.inr ⟨_,hy1,hf⟩);refine⟨_,w,.inl (mI _ _ hr),G',zl,_,hK,?_⟩;rw[hd];exact h'
  ·subst hA;have K9:(len+m)*i.size<=cap*i.size:=oo _ hroom;rw[fk] at K9
   have hst:=run_storeCells_cells (P:=P) g (o'+len*i.size) ((cR m i.size e2).flatten.map C.val) 0 w (λj hj=>by
     rw[cV,sy] at hj;rw[cell_of_row _ _ _ _ _ fz hh];rw[Js (by omega)];rfl) (λj hj=>by
     rw[cV,sy] at hj;exact hfr _ (by omega) (by omega)) (λu hu=>by
     obtain⟨x,hx,rfl⟩:=bw.1 hu;obtain⟨i',j',hi',hj',rfl⟩:=nN hx;exact Inv.rO (C.lY (hk2 i' j' hi' hj').1))
   simp only[cv,rC,hst,om,Result.andThen_ok] at hr;have hE:=Ext.setCells g ((cR m i.size e2).flatten.map C.val) (o'+len*i.size) w;rw[cV,sy] at hE;have hin:=World.cell?_setCells_in g ((cR m i.size e2).flatten.map C.val) (o'+len*i.size) w;generalize hw':w.setCells g (o'+len*i.size) ((cR m i.size e2).flatten.map C.val)=w' at hr hE hin;have hg:g<w.heap.size:=(kL.1 hh).1;have xu:∀k,(C.row .own i.size (some (g,o',none)) len cap e).fp g k:=λk=>⟨rfl,.inl ⟨_,rfl⟩⟩
   obtain⟨fX,qk,hs'⟩:∃fX,w'.heap[g]?=some (.cells fX t fz)/\fX.size=arr.size:=by
    rcases hE.block g hg with e'|⟨a1,a2,t',mH,q1,q2,q3,q4⟩;·exact⟨arr,e'.trans hh,rfl⟩
    ·rw[hh] at q1;injection q1 with q1
     injection q1 with b1 b2 b3
     subst b1;subst b2;subst b3;exact⟨a2,q2,q3⟩
   have hok:(vp g o' i.size cap (cR len i.size e++cR m i.size e2)).ok w' (Zf zl c.zb):=by
    refine UO hlen (by rw[Fm];exact hroom) qk (by omega) (λk h1 h2=>(hE.frozen hg).trans (hfr k h1 h2)) (λq x hq=>?_) (λx hx=>?_) ia (λx hx b k hf=>?_)
    ·rw[zQ] at hq;by_cases hql:q<len*i.size
     ·rw[kK (by omega)] at hq;obtain⟨a1,a2,rfl⟩:=Tu h0 hq;obtain⟨g',o2,hA,hcl⟩:=hc1 _ _ a1 a2;injection hA with hA
      injection hA with b1 b2
      injection b2 with b2
      subst b1;subst b2;have A5:q=q / i.size*i.size+q%i.size:=by have:=DP q i.size;rw[q9] at this;omega
      refine hE.cell (λhs=>by omega) ?_;rw[<-hcl];congr 2;omega
     ·rw[iM (by omega)] at hq;rw[hfl] at hq;have sC:=(aJ.1 hq).1;rw[sy] at sC;have:=hin (λj hj=>by rw[cV,sy] at hj;rw[cell_of_row _ _ _ _ _ fz hh,Js (by omega)];rfl) (q - len*i.size) (by rw[cV,sy];exact sC)
      rw[show o'+len*i.size+(q - len*i.size)=o'+q by omega] at this;rw[this,<-cz,cZ,hq];rfl
    ·obtain⟨a1,a2,a3⟩:=hall x hx;refine⟨C.lY a1,C.Ci a1,hT.fits' hE (λb k hz hs=>?_) a2 (λb k hf hs=>?_)⟩;·obtain⟨rfl,_⟩:=hs;exact hz.elim (y3 b k (xu k)).1 (y3 b k (xu k)).2
     ·obtain⟨rfl,_⟩:=hs;rw[zQ,dy] at hx;rcases hx with hx|hx;·obtain⟨i',j',hi',hj',rfl⟩:=nN hx;exact(r5 i' j' hi' hj' b k hf).1 rfl o' rfl
      ·obtain⟨i',j',hi',hj',rfl⟩:=nN hx;exact((hk2 i' j' hi' hj').2.2 b k hf).1 (xu k)
    ·intro hbg;subst hbg;rw[zQ,dy] at hx;rcases hx with hx|hx;·obtain⟨i',j',hi',hj',rfl⟩:=nN hx;exact(r5 i' j' hi' hj' b k hf).1 rfl o' rfl
     ·obtain⟨i',j',hi',hj',rfl⟩:=nN hx;exact((hk2 i' j' hi' hj').2.2 b k hf).1 (xu k)
   obtain⟨G',h'⟩:=h.fresh' hT hE (λb k hs=>.inr ⟨_,hy1,by rw[hs.1];exact xu k⟩) hn hok trivial (λb k hf=>by
    rcases UN hlen hf with rfl|⟨x,hx,hf⟩;·exact .inr ⟨_,hy1,xu k⟩
    ·exact .inr ((hall x hx).2.2 b k hf))
   refine⟨_,w',.inl (mI _ _ hr),G',zl,_,hK,?_⟩;rw[hd];rw[UM hlen,kT,ah6,Fm] at h';exact h'
 ·have hx:=KL (P:=P) (w1:=w.drew) (cap:=cap2) h0 hc2;have hy:=KL (P:=P) (w1:=w.drew) (cap:=cap) h0 hc1;have hr:=aih (P:=P) (ty:=o.type) hu xE hi hz hroom (by omega) (growslice_fits (by omega) (by rw[hb];exact hbig)) hx.1 hy.1;have hge:=grownCap_ge w (len+m) cap el;generalize grownCap w (len+m) cap el=cap' at hr hge;refine jX.good (good_row h (L:=cR len i.size e++cR m i.size e2) (cap:=cap') (fz:=(0,0)) hlen (by rw[Fm];exact hge) jM (λx hx=>(hall x hx).1) hd hn (Rh w _) (AW w.drew _) ?_ (λk _ hh=>by simp at hh) (λq x hq=>?_) (by rw[Fm];exact mI _ _ hr) (by rw[kT];exact hK));·simp only[OP,pP,cV,hfl,sy,size_zeroCells,hvs];rw[<-fk,<-fk];exact oo _ (by omega)
  ·rw[zQ] at hq;have sC:=(aJ.1 hq).1;have hmap:(((cR len i.size e).flatten++(cR m i.size e2).flatten).map C.val)[q]?=some x.val:=by rw[cZ,hq];rfl
   rw[O6 (by rw[OP,pP,pP,cV,cV,<-eu];exact sC)];rw[<-hmap,jg];simp
end
end M
namespace M
open Go Go.RowKit
variable [Bs]
namespace C
def belows(r:Nat)(p:Path):Nat->Path->Bool:=λs q=>s==r && pY p q
def BR(r:Nat)(p:Path){α:Type}(f:α->X):∀l:List α,X.qw r p (l.map f)=l.map λa=>(f a).e9 r p
 |[]=>rfl
 |a::l=>by simp only[bn,X.qw,BR r p f l]
def xR(r:Nat)(p:Path):∀c:C,(c.aE (belows r p)).er=c.er.e9 r p
 |.ref v s q=>by simp only[aE,er,X.e9,belows];cases s==r && pY p q<;>rfl
 |.az v s q i c=>by simp only[aE,er,X.e9,belows];cases s==r && pY p q<;>rfl
 |.cut v s q i c=>by simp only[aE,er,X.e9,belows];cases s==r && pY p q<;>rfl
 |.ptr m g o n c=>by simp only[aE,er,X.e9,BR];congr 1;exact cm λj _=>xR r p (c j)
 |.agg n c=>by simp only[aE,er,X.e9,BR];congr 1;exact cm λj _=>xR r p (c j)
 |.av n c=>by simp only[aE,er,X.e9,BR];congr 1;exact cm λj _=>xR r p (c j)
 |.fn f n c=>by simp only[aE,er,X.e9,BR];congr 1;exact cm λj _=>xR r p (c j)
 |.dead _=>by simp only[aE,er,X.e9]
 |.int _ _=>by simp only[aE,er,X.e9]
 |.bool _=>by simp only[aE,er,X.e9]
 |.str _=>by simp only[aE,er,X.e9]
 |.row _ _ _ _ _ _=>by simp only[aE,er,X.e9]
def rI(G:Nat->C):∀c:C,c.bare->c.rf G
 |.ref _ _ _,h=>h.elim
 |.az _ _ _ _ _,h=>h.elim
 |.cut _ _ _ _ _,h=>h.elim
 |.ptr m g o n c,h=>λj hj=>rI G (c j) (h j hj)
 |.agg n c,h=>λj hj=>rI G (c j) (h j hj)
 |.av n c,h=>λj hj=>rI G (c j) (h j hj)
 |.fn f n c,h=>λj hj=>rI G (c j) (h j hj)
 |.dead _,_=>trivial
 |.int _ _,_=>trivial
 |.bool _,_=>trivial
 |.str _,_=>trivial
 |.row _ _ _ _ _ _,_=>trivial
def wO{l:List X}:X.bare.jl l=true↔∀x∈l,x.bare=true:=by
 induction l with
 |nil=>simp[X.bare.jl]
 |cons a l ih=>simp[X.bare.jl,ih]
def mB:∀c:C,c.er.bare=true↔c.bare
 |.ref _ _ _=>by simp[er,X.bare,bare]
 |.az _ _ _ _ _=>by simp[er,X.bare,bare]
 |.cut _ _ _ _ _=>by simp[er,X.bare,bare]
 |.ptr m g o n c=>by simp only[er,X.bare,bare,wO,bw,q6];exact⟨λh j hj=>(mB (c j)).1 (h _ ⟨j,hj,rfl⟩),λh x ⟨j,hj,e⟩=>e▸(mB (c j)).2 (h j hj)⟩
 |.agg n c=>by simp only[er,X.bare,bare,wO,bw,q6];exact⟨λh j hj=>(mB (c j)).1 (h _ ⟨j,hj,rfl⟩),λh x ⟨j,hj,e⟩=>e▸(mB (c j)).2 (h j hj)⟩
 |.av n c=>by simp only[er,X.bare,bare,wO,bw,q6];exact⟨λh j hj=>(mB (c j)).1 (h _ ⟨j,hj,rfl⟩),λh x ⟨j,hj,e⟩=>e▸(mB (c j)).2 (h j hj)⟩
 |.fn f n c=>by simp only[er,X.bare,bare,wO,bw,q6];exact⟨λh j hj=>(mB (c j)).1 (h _ ⟨j,hj,rfl⟩),λh x ⟨j,hj,e⟩=>e▸(mB (c j)).2 (h j hj)⟩
 |.dead _=>by simp[er,X.bare,bare]
 |.int _ _=>by simp[er,X.bare,bare]
 |.bool _=>by simp[er,X.bare,bare]
 |.str _=>by simp[er,X.bare,bare]
 |.row _ _ _ _ _ _=>by simp[er,X.bare,bare]
def Us:∀{p q:Path},X.pfx p q=true->¬p.length<q.length->q=p
 |[],[],_,_=>rfl
 |[],_::_,_,h=>by simp at h
 |_::_,[],h,_=>by simp[X.pfx] at h
 |x::p,y::q,h,hl=>by simp only[X.pfx,aB,en] at h;obtain⟨⟨h1,h2⟩,h3⟩:=h;rw[Us h3 (by simpa using hl)];congr 1;cases x;cases y;simp only at h1 h2;rw[h1,h2]
end C
def Sc(r:Nat)(p:Path)(t:Nat):∀s:ah,get (sM r p s) t=(get s t).e9 r p
 |[]=>by simp[sM,get,X.e9]
 |(k,v)::s=>by
  simp only[sM,get];cases k==t;·exact Sc r p t s
  ·rfl
namespace Inv
variable {w w':World}{zl aH zb:Nat->Nat->Prop}{G:Nat->C}{s:ah}{S:Nat->Nat->Prop}
def e9(h:Inv w zl zb G s)(r:Nat)(p:Path):Inv w zl zb (λt=>(G t).aE (C.belows r p)) (sM r p s):=
 h.off _ λt=>by rw[C.xR,Sc,h.er]
def JP(h:Inv w zl zb G s)(r:Nat)(p:Path)(hfree:∀t,(G t).free (C.belows r p)){d d':C}(hsub:(G r).sub p=some d)(hF:C.gB d d')(hl:C.iy d d')(SH:d'.rf G/\d'.free (C.belows r p))(hE:Ext S w w')
  (hS:∀b k,S b k->d.fp b k\/((∀t,¬(G t).fp b k)/\¬zl b k/\¬zb b k))(hok:d'.ok w' (Zf aH zb))(hz1:∀b k,zl b k->aH b k)(hz2:∀b k,aH b k->¬d'.fp b k/\b<w'.heap.size/\∀t,(G t).fp b k->d.fp b k)
  (cC:∀b k,d'.fp b k->d.fp b k\/((∀t,¬(G t).fp b k)/\¬zb b k)):
  Inv w' aH zb (fK G r (C.putAt p (G r) d')) ((r,X.putAt p (get s r) d'.er)::s)/\(∀t,(fK G r (C.putAt p (G r) d') t).val=(G t).val)/\
   ∀t b k,(fK G r (C.putAt p (G r) d') t).fp b k->d'.fp b k\/((G t).fp b k/\¬d.fp b k):=by
 have bx:∀{b k},d.fp b k->(G r).fp b k:=λhf=>C.gQ p hsub (h.ok r) hf
 have hZ:∀m b k,Zf zl zb m b k->¬S b k:=λm b k hz hs=>by
  rcases hS b k hs with hs|hs;·exact h.zU r m b k hz (bx hs)
  ·cases m with
   |own=>exact hz.elim
   |sl=>exact hs.2.1 hz
   |af=>exact hz.elim hs.2.1 hs.2.2
 have hM:∀m b k,Zf zl zb m b k->Zf aH zb m b k:=λm b k hz=>by
  cases m with
  |own=>exact hz
  |sl=>exact hz1 b k hz
  |af=>exact hz.imp (hz1 b k) id
 obtain⟨i1,i2,i3⟩:=C.Cd hM hE hZ p (G r) d d' (h.ok r) hsub hok hl (λb k hs=>(hS b k hs).imp id λhn=>hn.1 r) (λb k hf=>(cC b k hf).imp id λhn=>hn.1 r)
 have hr':∀t,t≠r->∀b k,(C.putAt p (G r) d').fp b k->¬(G t).fp b k:=λt e b k hf=>by
  rcases i2 b k hf with hf|hf
  ·rcases cC b k hf with hf|hf;·exact h.sep r t (λe'=>e e'.symm) b k (bx hf)
   ·exact hf.1 t
  ·exact h.sep r t (λe'=>e e'.symm) b k hf.1
 have key:∀c':C,c'.free (C.belows r p)->c'.rf G->c'.rf (fK G r (C.putAt p (G r) d')):=λc' hf hr=>C.l5 (C.belows r p) (λs' q' y' hk hs=>by
  by_cases e:s'=r
  ·subst e;rw[dI];cases hp:X.pfx p q' with
   |false=>exact C.IE p q' (G s') d' y' hp hs
   |true=>
    have hlen:¬p.length<q'.length:=by simpa [C.belows,pY,hp] using hk
    have he:=C.Us hp hlen;subst he;rw[hsub] at hs;injection hs with hs
    subst hs;exact .inl ⟨d',hF,C.IF _ hsub⟩
  ·rw[dx _ _ e];exact C.self y' _ q' hs) c' hf hr
 refine⟨⟨λt=>?_,λt=>?_,λt u hne b k hf=>?_,λt b k hf=>?_,λt=>?_,λb k hz=>?_⟩,λt=>?_,λt b k hf=>?_⟩
 ·rw[xo];by_cases e:t=r;·subst e;rw[dI,ax rfl,C.MN,h.er]
  ·rw[dx _ _ e,aF e];exact h.er t
 ·by_cases e:t=r;·subst e;rw[dI];exact i1
  ·rw[dx _ _ e];refine C.gM hM _ (C.fI hE hZ _ (λb k hf hs=>?_) (h.ok t));rcases hS b k hs with hs|hs;·exact h.sep t r e b k hf (bx hs)
   ·exact hs.1 t hf
 ·by_cases e:t=r;·subst e;rw[dI] at hf;rw[dx _ _ (λe=>hne e.symm)];exact hr' u (λe=>hne e.symm) b k hf
  ·rw[dx _ _ e] at hf;by_cases e':u=r;·subst e';rw[dI];exact λhc=>hr' t e b k hc hf
   ·rw[dx _ _ e'];exact h.sep t u hne b k hf
 ·by_cases e:t=r
  ·subst e;rw[dI] at hf;rcases i2 b k hf with hf|⟨hf,hn⟩
   ·refine⟨λhz=>(hz2 b k hz).1 hf,λhz=>?_⟩;rcases cC b k hf with hf|hf;·exact(h.fz t b k (bx hf)).2 hz
    ·exact hf.2 hz
   ·exact⟨λhz=>hn ((hz2 b k hz).2.2 t hf),(h.fz t b k hf).2⟩
  ·rw[dx _ _ e] at hf;exact⟨λhz=>h.sep t r e b k hf (bx ((hz2 b k hz).2.2 t hf)),(h.fz t b k hf).2⟩
 ·by_cases e:t=r
  ·subst e;rw[dI]
   have inner:∀(p':Path) (c':C),c'.free (C.belows t p)->c'.rf G->(C.putAt p' c' d').rf (fK G t (C.putAt p (G t) d')):=by
    intro p';induction p' with
    |nil=>intro c' _ _;exact key d' SH.2 SH.1
    |cons x p' ih=>
     intro c' jq ki;simp only[C.putAt];cases hst:c'.step x with
     |none=>exact key c' jq ki
     |some z=>
      cases c' with
      |row m sz A len cap e=>trivial
      |ptr m g o n c=>
       simp only[C.step] at hst;split at hst
       ·rename_i hq;injection hst with hst
        intro j hj;simp only[C.b8];split;·exact ih z (by rw[<-hst];exact jq _ hq.2) (by rw[<-hst];exact ki _ hq.2)
        ·exact key _ (jq j hj) (ki j hj)
       ·cases hst
      |agg n c=>
       simp only[C.step] at hst;split at hst
       ·rename_i hq;injection hst with hst
        intro j hj;simp only[C.b8];split;·exact ih z (by rw[<-hst];exact jq _ hq.2) (by rw[<-hst];exact ki _ hq.2)
        ·exact key _ (jq j hj) (ki j hj)
       ·cases hst
      |av n c=>
       simp only[C.step] at hst;split at hst
       ·rename_i hq;injection hst with hst
        intro j hj;simp only[C.b8];split;·exact ih z (by rw[<-hst];exact jq _ hq.2) (by rw[<-hst];exact ki _ hq.2)
        ·exact key _ (jq j hj) (ki j hj)
       ·cases hst
      |_=>simp[C.step] at hst
   exact inner p (G t) (hfree t) (h.rf t)
  ·rw[dx _ _ e];exact key _ (hfree t) (h.rf t)
 ·exact hz.elim (λhz=>(hz2 b k hz).2.1) λhz=>lg (h.cJ b k (.inr hz)) hE.size
 ·by_cases e:t=r;·subst e;rw[dI];exact i3.val
  ·rw[dx _ _ e]
 ·by_cases e:t=r;·subst e;rw[dI] at hf;exact i2 b k hf
  ·rw[dx _ _ e] at hf;exact .inr ⟨hf,λhd=>h.sep t r e b k hf (bx hd)⟩
def PV(h:Inv w zl zb G s)(hE:Ext S w w')(hS:∀b k,S b k->(∀t,¬(G t).fp b k)/\¬zl b k/\¬zb b k)(hz1:∀b k,zl b k->aH b k)(hz2:∀b k,aH b k->b<w'.heap.size/\∀t,¬(G t).fp b k):Inv w' aH zb G s:=by
 have h1:=h.ext hE (λt b k hf hs=>(hS b k hs).1 t hf) (λb k hz hs=>hz.elim (hS b k hs).2.1 (hS b k hs).2.2);refine⟨h1.er,λt=>C.gM (λm b k hz=>?_) _ (h1.ok t),h1.sep,λt b k hf=>⟨λhz=>(hz2 b k hz).2 t hf,(h1.fz t b k hf).2⟩,h1.rf,λb k hz=>hz.elim (λhz=>(hz2 b k hz).1) λhz=>h1.cJ b k (.inr hz)⟩;cases m with
 |own=>exact hz
 |sl=>exact hz1 b k hz
 |af=>exact hz.imp (hz1 b k) id
end Inv
end M
namespace M
open Go Go.RowKit
variable [Bs]
section
variable {P:Program}{c:Ctx}{G:Nat->C}{zl:Nat->Nat->Prop}{s:ah}{a:Act}{w:World}{o:Oper}{K:ah->Prop}
def ahh(h:St c G zl s a w){sz:Nat}{z:List X}{ty el:TypeId}{ii:TypeInfo}{v:Value}{x:AV}{x':Operand}(ho:o.op=.call {callee:=.builtin .clear,args:= #[x'],argTypes:= #[ty]})(hu:P.underlying ty=some (.slice el))(hi:P.info? el=some ii)(hz:ii.zero=some v)
  (K9:ny v.cells.toList z=true)(hzs:z.length=sz)(h0:0<sz)(hd:o.dst=none)(hx:aQ x' x=true)(hK:aT P (.uw sz z x) s K):Good P c o a w K:=by
 obtain⟨q,q1,q2,q3⟩:=cx h hx;simp only[aT] at hK;rw[<-q1] at hK;cases q with
 |cut vv r p lo hi'=>
  simp only[C.er] at hK;obtain⟨m,bX,A,len,cap,e,A',cap',hs,hv,hlo,hhi,hcap,kR,-,-⟩:=q3.rf;unfold look at hK;rw[<-h.inv.er,C.gP,hs] at hK;cases m with
  |own=>
   simp only[cv,C.er] at hK;obtain⟨rfl,hK⟩:=hK;obtain⟨zs,Z⟩:=DZ w zl c.zb K9;have hzl:zs.length=z.length:=by rw[<-Z.er];simp
   have hvs:v.cells.size=z.length:=by rw[<-hzl,<-DK,<-Z.val];simp
   have hok:=C.iu p hs (h.inv.ok r);have hin:∀b k,(C.row .own bX A len cap e).fp b k->(G r).fp b k:=λb k hf=>C.gQ p hs (h.inv.ok r) hf;obtain⟨h1,h2,h3,h4,h5⟩:=hok;let e':Nat->Nat->C:=λi j=>if lo<=i/\i<hi' then zs.getD j (.dead undef) else e i j
   have he:∀i j,(lo<=i/\i<hi')->e' i j=zs.getD j (.dead undef):=λi j hh=>ax hh;have hne:∀i j,¬(lo<=i/\i<hi')->e' i j=e i j:=λi j hh=>aF hh;have Bh:∀j,j<bX->zs.getD j (.dead undef)∈zs:=λj hj=>cQ (by omega) _;have kV:∀i j,i<len->j<bX->∀b k,(e i j).fp b k->(C.row .own bX A len cap e).fp b k:=λi j hi hj b k hf=>⟨rfl,.inr ⟨i,j,hi,hj,hf⟩⟩
   have uI:∀b k,(C.row .own bX A len cap e').fp b k->(C.row .own bX A len cap e).fp b k:=λb k hf=>by
    obtain⟨_,hA|⟨i,j,hi2,hj,hf⟩⟩:=hf;·exact⟨rfl,.inl hA⟩
    ·by_cases hh:lo<=i/\i<hi';·rw[he i j hh] at hf;exact((Z.all _ (Bh j hj)).2.2 b k hf).elim
     ·rw[hne i j hh] at hf;exact kV i j hi2 hj b k hf
   have run:∃w',(execOp a.eval o).run P w=.ok (.value (.tuple #[])) w'/\Ext (λb k=>∃o',A=some (b,o',none)) w w'/\∀i j,i<len->j<bX->∃g o',A=some (g,o',none)/\w'.cell? ⟨g,o'+i*bX+j,none⟩=some (e' i j).val:=by
    have mI:∀n' A2 c2 r w',a.eval x'=.slice A2 n' c2->(Builtin.clear_ #[ty] o.type #[.slice A2 n' c2]).run P w=.ok r w'->(execOp a.eval o).run P w=.ok (.value r) w':=by intro n' A2 c2 r w' hh hr;simp[execOp,ho,hh,resolve,invoke,builtin,hr]
    by_cases hn0:hi' - lo=0
    ·refine⟨w,?_,Ext.refl _ _,λi j mK hj=>?_⟩
     ·have A9:a.eval x'=.slice (Option.map (λq:Ad=>⟨q.1,q.2.1,q.2.2⟩) A') 0 cap':=by rw[<-q2,C.val,hv,hn0]
      refine mI _ _ _ _ _ A9 ?_;cases A'<;>simp[Builtin.clear_,run_underlying hu]
     ·obtain⟨g,o',b1,b2,_⟩:=h2 i j mK hj;exact⟨g,o',b1,by rw[b2,hne i j (by omega)]⟩
    ·obtain⟨g,o',b1,_,_⟩:=h2 lo 0 (by omega) h0;have hAs:A'=some (g,o'+lo*bX,none):=by rw[kR (by omega),b1,cv,pW]
     have hall:∀i j,i<len->j<bX->w.cell? ⟨g,o'+i*bX+j,none⟩=some (e i j).val:=λi j mK hj=>by
      obtain⟨g2,o2,c1,c2,_⟩:=h2 i j mK hj;rw[b1] at c1;injection c1 with c1
      injection c1 with c3 c4
      injection c4 with c4
      subst c3;subst c4;exact c2
     have aeG:∀k,o'<=k->k<o'+cap*bX->w.frozen? ⟨g,k,none⟩=false:=by
      rcases h4 rfl with ⟨d1,_⟩|⟨g2,o2,arr,t,fz,d1,d2,d3,d4⟩;·rw[b1] at d1;cases d1
      ·rw[b1] at d1;injection d1 with d1
       injection d1 with d5 d6
       injection d6 with d6
       subst d5;subst d6;exact d4
     let vs:List Value:=(Builtin.zeroCells v.cells (hi' - lo)).toList;have hvl:vs.length=(hi' - lo)*bX:=by simp[vs,Builtin.zeroCells,hvs,hzs]
     have S5:∀k (hk:k<vs.length),vs[k]=(zs.getD (k%bX) (.dead undef)).val:=by
      intro k hk;have hm:k%bX<zs.length:=by rw[hzl,hzs];exact tN _ h0
      have hm2:k%bX<v.cells.size:=by omega
      have e1:vs[k]=v.cells[k%v.cells.size]!:=by simp[vs,Builtin.zeroCells]
      rw[e1,hvs,hzs,getElem!_pos v.cells (k%bX) hm2];have:=dz (λt:List Value=>t[k%bX]?) Z.val;simp only[cZ] at this;rw[cz hm] at this;rw[ji,cz hm];simp only[cv,Array.getElem?_toList,Js hm2,dP] at this;exact this.symm
     have hidx:∀k,k<(hi' - lo)*bX->k / bX<hi' - lo/\k=k / bX*bX+k%bX:=λk hk=>by refine⟨(Nat.div_lt_iff_lt_mul h0).2 hk,?_⟩;have:=DP k bX;rw[q9] at this;omega
     have SZ:∀k,k<(hi' - lo)*bX->o'+lo*bX+k=o'+(lo+k / bX)*bX+k%bX:=λk hk=>by have:=(hidx k hk).2;rw[fk];omega
     have hsome:∀j,j<vs.length->(w.cell? ⟨g,o'+lo*bX+j,none⟩).isSome=true:=λj hj=>by rw[hvl] at hj;rw[SZ j hj,hall _ _ (by have:=(hidx j hj).1;omega) (tN _ h0)];rfl
     have hst:=run_storeCells_cells (P:=P) g (o'+lo*bX) vs 0 w (by simpa using hsome) (λj hj=>by
      rw[hvl] at hj;refine aeG _ (by omega) ?_;rw[om,SZ j hj];have h7:=(hidx j hj).1;have h8:(lo+j / bX+1)*bX<=cap*bX:=oo _ (by omega);have h9:=tN j h0;rw[fk,Ji] at h8;omega) (λu hu=>by
      obtain⟨k,hk,rfl⟩:=tT hu;rw[S5 k hk];exact Inv.rO (C.lY (Z.all _ (Bh _ (tN _ h0))).1))
     have hE:=Ext.setCells g vs (o'+lo*bX) w;have aek:=World.cell?_setCells_in g vs (o'+lo*bX) w hsome;simp only[om] at hst;refine⟨w.setCells g (o'+lo*bX) vs,?_,hE.mono λb k hh _=>⟨o',by rw[b1,hh.1]⟩,λi j mK hj=>⟨g,o',b1,?_⟩⟩
     ·have A9:a.eval x'=.slice (some ⟨g,o'+lo*bX,none⟩) (hi' - lo) cap':=by rw[<-q2,C.val,hv,hAs];rfl
      refine mI _ _ _ _ _ A9 ?_;obtain⟨m,hm⟩:∃m,hi' - lo=m+1:=⟨hi' - lo - 1,by omega⟩;have hzr:∀w,(zeroValue el).run P w=.ok v w:=by intro w;simp[zeroValue,typeInfo,hi,hz]
      simp only[vs,hm] at hst⊢;simp[Builtin.clear_,run_underlying hu,hzr,hst]
     ·by_cases hh:lo<=i/\i<hi'
      ·have hk:(i - lo)*bX+j<vs.length:=by rw[hvl];have:(i - lo+1)*bX<=(hi' - lo)*bX:=oo _ (by omega);rw[fk,Ji] at this;omega
       have:=aek _ hk;rw[S5 _ hk,Nat.mul_add_mod_self_right,Nat.mod_eq_of_lt hj] at this;have hq:lo*bX+(i - lo)*bX=i*bX:=by rw[<-fk];congr 1;omega
       rw[show o'+lo*bX+((i - lo)*bX+j)=o'+i*bX+j by omega] at this;rw[he i j hh];exact this
      ·rw[hne i j hh,World.cell?_setCells_out,hall i j mK hj];intro _ _;simp only;rw[hvl];by_cases hl:i<lo;·left;have:(i+1)*bX<=lo*bX:=oo _ (by omega);rw[fk,Ji] at this;omega
       ·right;have t1:hi'*bX<=i*bX:=oo _ (by omega);have t2:lo*bX+(hi' - lo)*bX=hi'*bX:=by rw[<-fk];congr 1;omega
        omega
   obtain⟨w',hrun,hE,hcell⟩:=run;have sj:∀b k,(∃o',A=some (b,o',none))->(C.row .own bX A len cap e).fp b k:=λb k hh=>⟨rfl,.inl hh⟩;have SA:∀m b k,Zf zl c.zb m b k->¬(∃o',A=some (b,o',none)):=λm b k hz hh=>h.inv.zU r m b k hz (hin b k (sj b k hh))
   have La:(C.row .own bX A len cap e').ok w' (Zf zl c.zb):=by
    refine⟨h1,λi j mK hj=>?_,λi j mK hj=>?_,λhm=>?_,λi j mK hj b k hf=>?_⟩;·obtain⟨g,o',c1,c2⟩:=hcell i j mK hj;exact⟨g,o',c1,c2,λhm=>(hm rfl).elim⟩
    ·obtain⟨a1,a2,a3,a4⟩:=h3 i j mK hj;by_cases hh:lo<=i/\i<hi';·rw[he i j hh];obtain⟨b1,b2,b3⟩:=Z.all _ (Bh j hj);exact⟨C.lY b1,C.Ci b1,by cases hq:zs.getD j (.dead undef)<;>first|trivial|exact .inl rfl,C.fI hE SA _ (λb k hf=>(b3 b k hf).elim) b2⟩
     ·rw[hne i j hh];exact⟨a1,a2,a3,C.fI hE SA _ (λb k hf hS=>by obtain⟨o',hA⟩:=hS;exact(h5 i j mK hj b k hf).1 rfl o' hA) a4⟩
    ·rcases h4 hm with hh|⟨g,o',arr,t,fz,d1,d2,d3,d4⟩;·exact .inl hh
     ·have hg:g<w.heap.size:=(kL.1 d2).1
      obtain⟨fX,qk,hs'⟩:∃fX,w'.heap[g]?=some (.cells fX t fz)/\fX.size=arr.size:=by
       rcases hE.block g hg with e'|⟨a1,a2,t',mH,q1,q2,q3,q4⟩;·exact⟨arr,e'.trans d2,rfl⟩
       ·rw[d2] at q1;injection q1 with q1
        injection q1 with b1 b2 b3
        subst b1;subst b2;subst b3;exact⟨a2,q2,q3⟩
      exact .inr ⟨g,o',fX,t,fz,d1,qk,by omega,λk k1 k2=>(hE.frozen hg).trans (d4 k k1 k2)⟩
    ·by_cases hh:lo<=i/\i<hi';·rw[he i j hh] at hf;exact((Z.all _ (Bh j hj)).2.2 b k hf).elim
     ·rw[hne i j hh] at hf;obtain⟨a1,a2⟩:=h5 i j mK hj b k hf;refine⟨a1,λi' j' hi2 hj2 uN hf'=>?_⟩;by_cases qk:lo<=i'/\i'<hi';·rw[he i' j' qk] at hf';exact(Z.all _ (Bh j' hj2)).2.2 b k hf'
      ·rw[hne i' j' qk] at hf';exact a2 i' j' hi2 hj2 uN hf'
   have hk0:=h.inv.e9 r p;have hs0:((G r).aE (C.belows r p)).sub p=some (C.row .own bX A len cap e):=C.jv _ p _ _ (h.inv.ok r) hs
   obtain⟨i1,i2,i3⟩:=hk0.JP r p (λt=>C.gL _ _) hs0 (C.gB.row .own .own bX A len cap e e') ⟨rfl,λh=>h,λh=>h,λh=>h,λm h=>h⟩ ⟨trivial,trivial⟩ hE (λb k hs=>.inl (sj b k hs)) La (λb k hz=>hz)
    (λb k hz=>⟨λhf=>(h.inv.fz r b k (hin b k (uI b k hf))).1 hz,lg (h.inv.cJ b k (.inl hz)) hE.size,λt hf=>by rw[C.cO] at hf;exact((h.inv.fz t b k hf).1 hz).elim⟩) (λb k hf=>.inl (uI b k hf))
   have kT:(C.row .own bX A len cap e').er=.row .own bX (rZ lo hi' z ((List.range len).map λi=>(List.range bX).map λj=>(e i j).er)):=by
    simp only[C.er,rZ];congr 1;apply gy;intro i;rw[zS,C.de,C.de];split
    ·simp only[cv,dP];by_cases hh:lo<=i/\i<hi';·rw[ax hh,<-Z.er,<-mW zs (.dead undef) C.er,hzl,hzs];exact cm λj _=>by rw[he i j hh]
     ·rw[aF hh];exact cm λj _=>by rw[hne i j hh]
    ·rfl
   rw[kT] at i1
   have hst:St c _ zl _ a w':=h.move i1 (λt=>(i2 t).trans (C.jw _ _)) hE (λb k hs=>h.tr.dom r b k (hin b k (sj b k hs))) (λt b k hf=>by
    rcases i3 t b k hf with hd|⟨hh,_⟩;·exact .inl ⟨r,hin b k (uI b k hd)⟩
    ·rw[C.cO] at hh;exact .inl ⟨t,hh⟩)
   exact⟨.tuple #[],w',.inl hrun,_,zl,_,hK,by rw[hd];exact hst⟩
  |sl=>exact hK.elim
  |af=>exact hK.elim
 |_=>exact hK.elim
end
end M
namespace M
open Go Go.RowKit
variable [Bs]
section
variable {P:Program}{c:Ctx}{G:Nat->C}{zl:Nat->Nat->Prop}{s:ah}{a:Act}{w:World}{o:Oper}{K:ah->Prop}
def MK{x:C}(hc:x.cell)(hs:x.cU):x.plain:=by cases x<;>first|exact hc|exact hs.elim|trivial
def AB{x:C}{m:Md}{z:Nat}{xs:List (List X)}(h:x.er=.row m z xs):∃A len cap e,x=.row m z A len cap e/\xs=dL z len e:=by
 cases x with
 |row m' z' A len cap e=>
  simp only[C.er] at h;injection h with h1 h2 h3
  subst h1;subst h2;exact⟨A,len,cap,e,rfl,h3.symm⟩
 |_=>simp[C.er] at h
def UZ{z len:Nat}{e:Nat->Nat->C}(h:scalars (dL z len e)){i j:Nat}(hi:i<len)(hj:j<z):scalar (e i j).er=true:=
 h _ (bw.2 ⟨i,by simpa using hi,rfl⟩) _ (bw.2 ⟨j,by simpa using hj,rfl⟩)
def U0{x:C}(h:scalar x.er=true):x.plain/\∀b k,¬x.fp b k:=by cases x<;>first|exact⟨trivial,λ_ _ h=>h⟩|(simp[C.er,scalar] at h)
def aiX{w:World}{zl zb:Nat->Nat->Prop}{G:Nat->C}{s:ah}(h:Inv w zl zb G s){v:Value}{r:Nat}{p:Path}{lo hi:Nat}(hr:(C.cut v r p lo hi).rf G){z:Nat}{xs:List (List X)}(hl:look s r p=some (.row .own z xs)):
  ∃A' cap' e2 G',v=.slice (Option.map (λq:Ad=>⟨q.1,q.2.1,q.2.2⟩) A') (hi - lo) cap'/\((xs.take hi).drop lo)=dL z (hi - lo) e2/\(∀i j,i<hi - lo->j<z->∃g o,A'=some (g,o,none)/\w.cell? ⟨g,o+i*z+j,none⟩=some (e2 i j).val)/\
   (∀i j,i<hi - lo->j<z->(e2 i j).plain)/\bP w zl zb G (cR (hi - lo) z e2).flatten G' (iI r p (.row .own z (EP lo hi xs)) s):=by
 obtain⟨m,sz,A,len,cap,e,A',cap',hs,hv,hlo,hhi,hcap,kR,-,-⟩:=hr;unfold look at hl;rw[<-h.er,C.gP,hs] at hl;simp only[cv,C.er,dP,X.row.injEq] at hl;obtain⟨rfl,rfl,rfl⟩:=hl;have hok:=C.iu p hs (h.ok r);have hin:∀b k,(C.row .own sz A len cap e).fp b k->(G r).fp b k:=λb k hf=>C.gQ p hs (h.ok r) hf;obtain⟨h1,h2,h3,h4,h5⟩:=hok;let e':Nat->Nat->C:=λi j=>if lo<=i/\i<hi then .dead (e i j).val else e i j
 have he:∀i j,(lo<=i/\i<hi)->e' i j=.dead (e i j).val:=λi j hh=>ax hh;have hne:∀i j,¬(lo<=i/\i<hi)->e' i j=e i j:=λi j hh=>aF hh;have kV:∀i j,i<len->j<sz->∀b k,(e i j).fp b k->(C.row .own sz A len cap e).fp b k:=λi j hi hj b k hf=>⟨rfl,.inr ⟨i,j,hi,hj,hf⟩⟩
 have uI:∀b k,(C.row .own sz A len cap e').fp b k->(C.row .own sz A len cap e).fp b k:=λb k hf=>by
  obtain⟨_,hA|⟨i,j,hi',hj,hf⟩⟩:=hf;·exact⟨rfl,.inl hA⟩
  ·by_cases hh:lo<=i/\i<hi;·rw[he i j hh] at hf;exact hf.elim
   ·rw[hne i j hh] at hf;exact kV i j hi' hj b k hf
 have La:(C.row .own sz A len cap e').ok w (Zf zl zb):=by
  refine⟨h1,λi j hi' hj=>?_,λi j hi' hj=>?_,h4,λi j hi' hj b k hf=>?_⟩
  ·obtain⟨g,o,a1,a2,a3⟩:=h2 i j hi' hj;refine⟨g,o,a1,?_,a3⟩;rw[a2];by_cases hh:lo<=i/\i<hi;·rw[he i j hh];rfl
   ·rw[hne i j hh]
  ·obtain⟨a1,a2,a3,a4⟩:=h3 i j hi' hj;by_cases hh:lo<=i/\i<hi;·rw[he i j hh];exact⟨Inv.rO a1,trivial,trivial,trivial⟩
   ·rw[hne i j hh];exact⟨a1,a2,a3,a4⟩
  ·by_cases hh:lo<=i/\i<hi;·rw[he i j hh] at hf;exact hf.elim
   ·rw[hne i j hh] at hf;obtain⟨a1,a2⟩:=h5 i j hi' hj b k hf;refine⟨a1,λi' j' hi2 hj2 uN hf'=>?_⟩;by_cases qk:lo<=i'/\i'<hi;·rw[he i' j' qk] at hf';exact hf'
    ·rw[hne i' j' qk] at hf';exact a2 i' j' hi2 hj2 uN hf'
 have h0:=h.e9 r p;have hs0:((G r).aE (C.belows r p)).sub p=some (C.row .own sz A len cap e):=C.jv _ p _ _ (h.ok r) hs
 obtain⟨i1,i2,i3⟩:=h0.JP r p (λt=>C.gL _ _) hs0 (C.gB.row .own .own sz A len cap e e') ⟨rfl,λh=>h,λh=>h,λh=>h,λm h=>h⟩ ⟨trivial,trivial⟩ (Ext.refl (λ_ _=>False) w) (λb k hs=>hs.elim) La (λb k hz=>hz)
  (λb k hz=>⟨λhf=>(h.fz r b k (hin b k (uI b k hf))).1 hz,h.cJ b k (.inl hz),λt hf=>by rw[C.cO] at hf;exact((h.fz t b k hf).1 hz).elim⟩) (λb k hf=>.inl (uI b k hf))
 have kT:(C.row .own sz A len cap e').er=.row .own sz (EP lo hi ((List.range len).map λi=>(List.range sz).map λj=>(e i j).er)):=by
  simp only[C.er,EP];congr 1;apply gy;intro i;rw[zS,C.de,C.de];split
  ·simp only[cv,dP];by_cases hh:lo<=i/\i<hi;·rw[ax hh,cP];exact cm λj _=>by rw[he i j hh];rfl
   ·rw[aF hh];exact cm λj _=>by rw[hne i j hh]
  ·rfl
 rw[kT] at i1;have hmem:∀x∈(cR (hi - lo) sz λi j=>e (i+lo) j).flatten,∃i j,i<hi - lo/\j<sz/\x=e (i+lo) j:=λx hx=>by obtain⟨i,j,hi',hj,rfl⟩:=nN hx;exact⟨i,j,hi',hj,rfl⟩
 have hlt:hi - lo≠0->A'=A.map λq=>jH (lo*sz) q:=λhne=>kR (by omega)
 have hrow:(((List.range len).map λi=>(List.range sz).map λj=>(e i j).er).take hi).drop lo=dL sz (hi - lo) λi j=>e (i+lo) j:=by
  unfold dL;rw[<-pO,<-mj,wB,mq hhi];apply gy;intro i;rw[C.de,cZ,pS];by_cases hh:i<hi - lo;·rw[ax hh,tS (by omega),oh];rfl
  ·rw[aF hh,jG (by simp;omega)];rfl
 have Fh:∀i j,i<hi - lo->j<sz->(e (i+lo) j).plain:=λi j hi' hj=>MK (h3 (i+lo) j (by omega) hj).1 (h3 (i+lo) j (by omega) hj).2.1;refine⟨A',cap',λi j=>e (i+lo) j,_,hv,hrow,λi j hi' hj=>?_,Fh,⟨i1,λx hx=>?_,?_,λt=>(i2 t).trans (C.jw _ _),λt b k hf=>?_⟩⟩;·obtain⟨g,o,a1,a2,a3⟩:=h2 (i+lo) j (by omega) hj;refine⟨g,o+lo*sz,by rw[hlt (by omega),a1,cv,pW],?_⟩;rw[show o+lo*sz+i*sz+j=o+(i+lo)*sz+j by rw[fk];omega];exact a2
 ·obtain⟨i,j,hi',hj,rfl⟩:=hmem x hx;have hj2:i+lo<len:=by omega
  refine⟨(h3 (i+lo) j hj2 hj).2.2.2,λt b k hf hf'=>?_,λb k hf=>h.fz r b k (hin b k (kV _ _ hj2 hj b k hf)),λb k hf=>⟨r,hin b k (kV _ _ hj2 hj b k hf)⟩⟩;rcases i3 t b k hf' with hd|⟨_,hn⟩
  ·obtain⟨_,⟨o,hA⟩|⟨i',j',hi2,aeJ,jr⟩⟩:=hd;·exact(h5 _ j hj2 hj b k hf).1 rfl o hA
   ·by_cases hh:lo<=i'/\i'<hi;·rw[he i' j' hh] at jr;exact jr
    ·rw[hne i' j' hh] at jr;refine(h5 _ j hj2 hj b k hf).2 i' j' hi2 aeJ (λe=>hh ?_) jr;injection e with e1 e2
     omega
  ·exact hn (kV _ _ hj2 hj b k hf)
 ·have hsub:(C.row .own sz (A.map λq=>jH (lo*sz) q) (hi - lo) (cap - lo) λi j=>e (i+lo) j).ok w (Zf zl zb):=(Rf ⟨h1,h2,h3,h4,h5⟩ hlo hhi (by omega) (by omega) (.inr rfl)).1;exact Mc hsub
 ·by_cases ht:t=r
  ·subst ht;rcases i3 t b k hf with hd|⟨hh,_⟩;·exact hin b k (uI b k hd)
   ·rwa [C.cO] at hh
  ·rw[dx _ _ ht,C.cO] at hf;exact hf
def ag6(h:St c G zl s a w){d sz bytes:Nat}{tk:Tk}{ty ty' el EV:TypeId}{i:TypeInfo}{v:Value}{x y:AV}{x' y':Operand}
  (ho:o.op=.call {callee:=.builtin .append,args:= #[x',y'],argTypes:= #[ty,ty']})(hu:P.underlying ty=some (.slice el))(xE:P.underlying ty'=some (.slice EV))(hi:P.info? el=some i)(hz:i.zero=some v)(hsz:i.size=sz)(hb:i.bytes=bytes)(hb0:0<bytes)(h0:0<sz)(hvs:v.cells.size=sz)
  (hd:o.dst=some d)(hn:d<c.nt)(hx:aQ x' x=true)(hy:aQ y' y=true)(hK:aT P (.app d tk sz bytes x y) s K):Good P c o a w K:=by
 obtain⟨p,e1,e2,e3⟩:=cx h hx;obtain⟨y1,G1,f1,f2,f3,f4⟩:=qV .mv h.inv e3;simp only[aT] at hK;rw[e1] at f1 f4;rw[<-f1] at hK;have h1:=h.zu f4;have Lv:=(f2.trans e2).symm;cases hE:y1.er with
 |row m z xs=>
  rw[hE] at hK;cases m with
  |own=>
   obtain⟨A,len,cap,e,rfl,rfl⟩:=AB hE;obtain⟨rfl,hK⟩:=hK;obtain⟨q,q1,q2,q3⟩:=cx h1 hy;have hk1:∀i j,i<len->j<z->(e i j).plain:=λi j hi hj=>MK (f4.ok.2.2.1 i j hi hj).1 (f4.ok.2.2.1 i j hi hj).2.1;have hxl:(dL z len e).length=len:=by simp[dL]
   have other:(∃ys,rowAt (take .mv (aC s x) s).2 (aC (take .mv (aC s x) s).2 y)=some (z,ys)/\((dL z len e).length+ys.length)*bytes<=140737488355328/\scalars ys/\K (put d (.row .own z (dL z len e++ys)) (take .mv (aC s x) s).2))->Good P c o a w K:=by
    rintro ⟨ys,k1,k2,k3,k4⟩;rw[<-q1] at k1;obtain⟨A2,m,cap2,e2,rfl,hv⟩:=M0 h1.inv q3 k1;have qn:(dL z m e2).length=m:=by simp[dL]
    refine JM h (bP.one f4) ho hu xE hi hz hsz hb hb0 h0 hvs hd hn (fC.2 rfl) Lv (by rw[<-q2];exact hv.val) (λi j hi hj=>hv.cell i j hi hj) (λi j hi hj=>?_) (rF λx hx=>?_) (by rw[hxl,qn] at k2;exact k2) hk1 k4;·obtain⟨s1,s2⟩:=U0 (UZ k3 hi hj);exact⟨s1,(hv.kid i j hi hj).2.2,λb k hf=>(s2 b k hf).elim⟩
    ·obtain⟨i,j,hi,hj,rfl⟩:=nN hx;exact(U0 (UZ k3 hi hj)).2
   cases tk with
   |al=>exact other hK
   |aM=>exact other hK
   |mv=>
    simp only at hK;by_cases hcut:∃v r p lo hi,q=.cut v r p lo hi
    ·obtain⟨vv,r,pp,lo,hi',rfl⟩:=hcut;rw[<-q1] at hK;simp only[C.er,bJ] at hK;split at hK
     ·rename_i hh;split at hh
      ·rename_i z2 xs hl;simp only[X.row.injEq,true_and] at hh;obtain⟨rfl,rfl⟩:=hh;obtain⟨rfl,k2,k4⟩:=hK;obtain⟨A2,cap2,e3,G3,c1,c2,c3,c4,c5⟩:=aiX h1.inv q3.rf hl;rw[c2] at k2 k4;have qn:(dL z2 (hi' - lo) e3).length=hi' - lo:=by simp[dL]
       simp only[hl] at k4;refine JM h (bP.cons f4 c5) ho hu xE hi hz hsz hb hb0 h0 hvs hd hn (bD ..) Lv (A2:=A2) (m:=hi' - lo) (cap2:=cap2) (e2:=e3) (by rw[<-q2];exact c1) c3 (λi j hi hj=>?_) c5.apart (by rw[hxl,qn] at k2;exact k2) hk1 k4;have hm:e3 i j∈(cR (hi' - lo) z2 e3).flatten:=Jg.2 ⟨_,bw.2 ⟨i,by simpa using hi,rfl⟩,bw.2 ⟨j,by simpa using hj,rfl⟩⟩;refine⟨c4 i j hi hj,(c5.all _ hm).1,λb k hf=>⟨λhf'=>?_,_,bY _ hm,hf⟩⟩;obtain⟨t,ht⟩:=(c5.all _ hm).2.2.2 b k hf;exact f4.sep t b k hf' ht
      ·cases hh
     ·exact hK.elim
    have hte:bJ q.er (take .mv (aC s x) s).2=take .mv q.er (take .mv (aC s x) s).2:=by
     cases q with
     |cut v r p lo hi=>exact(hcut ⟨v,r,p,lo,hi,rfl⟩).elim
     |_=>rfl
    rw[<-q1,hte,q1] at hK;obtain⟨y2,G2,g1,g2,g3,g4⟩:=qV .mv h1.inv q3;rw[q1] at g1 g4;rw[<-g1] at hK;cases K0:y2.er with
    |row m2 z2 xs2=>
     rw[K0] at hK;cases m2 with
     |own=>
      obtain⟨A2,m,cap2,e2,rfl,rfl⟩:=AB K0;obtain⟨rfl,k2,k4⟩:=hK;have qn:(dL z2 m e2).length=m:=by simp[dL]
      obtain⟨r1,r2,r3,r4,r5⟩:=g4.ok;refine JM h (bP.cons f4 (bP.one g4)) ho hu xE hi hz hsz hb hb0 h0 hvs hd hn (bD ..) Lv (A2:=A2) (m:=m) (cap2:=cap2) (e2:=e2) (by rw[<-q2,<-g2];rfl) (λi j hi hj=>?_) (λi j hi hj=>?_) (Mc g4.ok) (by rw[hxl,qn] at k2;exact k2) hk1 k4;·obtain⟨g,o2,a1,a2,_⟩:=r2 i j hi hj;exact⟨g,o2,a1,a2⟩
      ·obtain⟨a1,a2,a3,a4⟩:=r3 i j hi hj;refine⟨MK a1 a2,a4,λb k hf=>?_⟩;have hin:(C.row .own z2 A2 m cap2 e2).fp b k:=C.kz a1 a3 hi hj hf;refine⟨λhf'=>?_,_,bY _ (fC.2 rfl),hin⟩;obtain⟨t,ht⟩:=g4.dom b k hin;exact f4.sep t b k hf' ht
     |_=>exact hK.elim
    |_=>rw[K0] at hK;exact hK.elim
  |_=>exact hK.elim
 |_=>rw[hE] at hK;exact hK.elim
end
end M
namespace M
open Go Go.RowKit
variable [Bs]
namespace X
def nR(m:Md){α:Type}(f:α->X):∀l:List α,dJ m (l.map f)=l.map λa=>(f a).md m
 |[]=>rfl
 |a::l=>by simp only[bn,dJ,nR m f l]
def GB(m:Md){α β:Type}(g:α->List β)(f:α->β->X):∀l:List α,bT m (l.map λa=>(g a).map (f a))=l.map λa=>(g a).map λb=>(f a b).md m
 |[]=>rfl
 |a::l=>by simp only[bn,bT,nR,GB m g f l]
end X
namespace C
def dO:C->C
 |.row _ sz A len cap e=>.row .af sz A len cap λi j=>(e i j).dO
 |.ptr _ g o n c=>.ptr .af g o n λj=>(c j).dO
 |.agg n c=>.agg n λj=>(c j).dO
 |.av n c=>.av n λj=>(c j).dO
 |.fn f n c=>.fn f n λj=>(c j).dO
 |.ref v _ _=>.dead v
 |.az v _ _ _ _=>.dead v
 |.cut v _ _ _ _=>.dead v
 |.dead v=>.dead v
 |.int k n=>.int k n
 |.bool b=>.bool b
 |.str s=>.str s
def sP:∀c:C,c.dO.er=c.er.md .af
 |.row m sz A len cap e=>by simp only[dO,er,X.md];rw[X.GB .af (λ_=>List.range sz) (λi j=>(e i j).er)];congr 1;exact cm λi _=>cm λj _=>sP (e i j)
 |.ptr m g o n c=>by simp only[dO,er,X.md,X.nR];congr 1;exact cm λj _=>sP (c j)
 |.agg n c=>by simp only[dO,er,X.md,X.nR];congr 1;exact cm λj _=>sP (c j)
 |.av n c=>by simp only[dO,er,X.md,X.nR];congr 1;exact cm λj _=>sP (c j)
 |.fn f n c=>by simp only[dO,er,X.md,X.nR];congr 1;exact cm λj _=>sP (c j)
 |.ref _ _ _=>by simp only[dO,er,X.md]
 |.az _ _ _ _ _=>by simp only[dO,er,X.md]
 |.cut _ _ _ _ _=>by simp only[dO,er,X.md]
 |.dead _=>by simp only[dO,er,X.md]
 |.int _ _=>by simp only[dO,er,X.md]
 |.bool _=>by simp only[dO,er,X.md]
 |.str _=>by simp only[dO,er,X.md]
def vh:∀c:C,c.dO.val=c.val
 |.row m sz A len cap e=>rfl
 |.ptr m g o n c=>rfl
 |.agg n c=>by simp only[dO,val];congr 2;exact cm λj _=>vh (c j)
 |.av n c=>by simp only[dO,val];congr 2;exact cm λj _=>vh (c j)
 |.fn f n c=>by simp only[dO,val];congr 2;exact cm λj _=>vh (c j)
 |.ref _ _ _=>rfl
 |.az _ _ _ _ _=>rfl
 |.cut _ _ _ _ _=>rfl
 |.dead _=>rfl
 |.int _ _=>rfl
 |.bool _=>rfl
 |.str _=>rfl
def B7:∀c:C,c.dO.bare
 |.row m sz A len cap e=>trivial
 |.ptr m g o n c=>λj _=>B7 (c j)
 |.agg n c=>λj _=>B7 (c j)
 |.av n c=>λj _=>B7 (c j)
 |.fn f n c=>λj _=>B7 (c j)
 |.ref _ _ _=>trivial
 |.az _ _ _ _ _=>trivial
 |.cut _ _ _ _ _=>trivial
 |.dead _=>trivial
 |.int _ _=>trivial
 |.bool _=>trivial
 |.str _=>trivial
def qA:∀(c:C) (b k:Nat),¬c.dO.fp b k
 |.row m sz A len cap e,b,k=>λh=>by cases h.1
 |.ptr m g o n c,b,k=>λh=>by cases h.1
 |.agg n c,b,k=>λ⟨j,_,hf⟩=>qA (c j) b k hf
 |.av n c,b,k=>λ⟨j,_,hf⟩=>qA (c j) b k hf
 |.fn f n c,b,k=>λh=>h
 |.ref _ _ _,b,k=>λh=>h
 |.az _ _ _ _ _,b,k=>λh=>h
 |.cut _ _ _ _ _,b,k=>λh=>h
 |.dead _,b,k=>λh=>h
 |.int _ _,b,k=>λh=>h
 |.bool _,b,k=>λh=>h
 |.str _,b,k=>λh=>h
def GC{c:C}(h:c.cell):c.dO.cell:=by cases c<;>first|exact h|exact h.elim|trivial
def TS{c:C}(h:c.gi):c.dO.gi:=by cases c<;>first|exact h|exact h.elim|trivial
def aga{c:C}(h:c.cU):c.dO.cU:=by cases c<;>first|exact h|exact h.elim|trivial
def Ms(c:C):c.dO.fits .af:=by cases c<;>first|trivial|exact .inr (.inl rfl)
variable {w:World}{zl zb bM:Nat->Nat->Prop}
def xY(hb:∀b k,zb b k->bM b k):∀c:C,(∀b k,c.fp b k->bM b k)->c.ok w (Zf zl zb)->c.dO.ok w (Zf zl bM)
 |.row m sz A len cap e,hf,h=>by
  obtain⟨h1,h2,h3,h4,h5⟩:=h;refine⟨h1,λi j hi hj=>?_,λi j hi hj=>?_,λhm=>by (cases hm),λi j hi hj b k hh=>(qA _ b k hh).elim⟩
  ·obtain⟨g,o,hA,hc,hz⟩:=h2 i j hi hj;refine⟨g,o,hA,by rw[vh];exact hc,λ_=>?_⟩;cases m with
   |own=>exact .inr (hf _ _ ⟨rfl,.inl ⟨o,hA⟩⟩)
   |sl=>exact .inl (hz (by simp))
   |af=>exact(hz (by simp)).imp id (hb _ _)
  ·obtain⟨a1,a2,a3,a4⟩:=h3 i j hi hj;exact⟨GC a1,aga a2,Ms _,xY hb (e i j) (λb k hk=>hf b k (kz a1 a3 hi hj hk)) a4⟩
 |.ptr m g o n c,hf,h=>by
  obtain⟨h1,h2,h3,h4⟩:=h;refine⟨λj hj=>?_,h2,λj hj=>?_,λj hj b k hh=>(qA _ b k hh).elim⟩
  ·obtain⟨a1,a2,a3⟩:=h1 j hj;refine⟨by rw[vh];exact a1,λ_=>?_,λhm=>by (cases hm)⟩;cases m with
   |own=>exact .inr (hf _ _ ⟨rfl,.inl ⟨rfl,by omega,by omega⟩⟩)
   |sl=>exact .inl (a2 (by simp))
   |af=>exact(a2 (by simp)).imp id (hb _ _)
  ·obtain⟨a1,a2,a3⟩:=h3 j hj;exact⟨GC a1,Ms _,xY hb (c j) (λb k hk=>hf b k (kY a1 a2 hj hk)) a3⟩
 |.agg n c,hf,h=>⟨λj hj=>⟨GC (h.1 j hj).1,xY hb (c j) (λb k hk=>hf b k ⟨j,hj,hk⟩) (h.1 j hj).2⟩,λj hj b k hh=>(qA _ b k hh).elim⟩
 |.av n c,hf,h=>⟨λj hj=>⟨TS (h.1 j hj).1,xY hb (c j) (λb k hk=>hf b k ⟨j,hj,hk⟩) (h.1 j hj).2⟩,λj hj b k hh=>(qA _ b k hh).elim⟩
 |.fn f n c,hf,h=>λj hj=>⟨xY hb (c j) (λb k hk=>((h j hj).2 b k hk).elim) (h j hj).1,λb k hh=>qA _ b k hh⟩
 |.ref _ _ _,_,_=>trivial
 |.az _ _ _ _ _,_,_=>trivial
 |.cut _ _ _ _ _,_,_=>trivial
 |.dead _,_,_=>trivial
 |.int _ _,_,_=>trivial
 |.bool _,_,_=>trivial
 |.str _,_,h=>h
end C
structure fW (w:World) (zl zb:Nat->Nat->Prop) (x:C):Prop where
 ok:x.ok w (Zf zl zb)
 bare:x.bare
 cS:∀b k,¬x.fp b k
section
variable {w:World}{zl zb bM:Nat->Nat->Prop}{G:Nat->C}{s:ah}
def Mi(hb:∀b k,zb b k->bM b k){y:C}(hy:y.ok w (Zf zl zb))(hf:∀b k,y.fp b k->bM b k):fW w zl bM y.dO:=⟨C.xY hb y hf hy,C.B7 y,C.qA y⟩
def BU(v:Value):fW w zl bM (.dead v):=⟨trivial,trivial,λ_ _ h=>h⟩
def GU(h:Inv w zl zb G s)(hb:∀b k,zb b k->bM b k)(hG:∀t b k,(G t).fp b k->bM b k){y:C}(hy:ew w zl zb G y):∃x:C,x.er=lZ s y.er/\x.val=y.val/\fW w zl bM x/\(y.cell->x.cell)/\(y.gi->x.gi)/\x.fits .af:=by
 have jx:lZ s y.er=y.er.md .af->∃x:C,x.er=lZ s y.er/\x.val=y.val/\fW w zl bM x/\(y.cell->x.cell)/\(y.gi->x.gi)/\x.fits .af:=λe=>
  ⟨y.dO,by rw[C.sP,e],C.vh y,Mi hb hy.ok λb k hf=>(hy.cS b k hf).elim,C.GC,C.TS,C.Ms _⟩
 cases y with
 |ref v r p=>
  obtain⟨y',z',hs,hF,hv,m,z1,A,len,cap,e,rfl⟩:=hy.rf;cases hF with
  |row m m' sz' A len cap e e'=>refine⟨(C.row m' z1 A len cap e').dO,?_,by rw[C.vh];exact hv,Mi hb (C.iu p hs (h.ok r)) λb k hf=>hG r b k (C.gQ p hs (h.ok r) hf),λ_=>trivial,λ_=>trivial,.inr (.inl rfl)⟩;rw[C.sP];simp only[C.er,lZ,look];rw[<-h.er,C.gP,hs];rfl
 |cut v r p lo hi=>
  obtain⟨m,sz,A,len,cap,e,A',cap',hs,hv,hlo,hhi,hcap,kR,-,-⟩:=hy.rf;have hok:=C.iu p hs (h.ok r);obtain⟨h1,h2,h3,h4,h5⟩:=(Mi hb hok λb k hf=>hG r b k (C.gQ p hs (h.ok r) hf)).ok;refine⟨.row .af sz A' (hi - lo) cap' λi j=>(e (i+lo) j).dO,?_,hv.symm,⟨⟨hcap,λi j hi' hj=>?_,λi j hi' hj=>h3 (i+lo) j (by omega) hj,λhm=>by (cases hm),λi j hi' hj b k hh=>(C.qA _ b k hh).elim⟩,trivial,λb k hh=>by cases hh.1⟩,λ_=>trivial,λ_=>trivial,.inr (.inl rfl)⟩;·simp only[C.er,lZ,look];rw[<-h.er,C.gP,hs];simp only[cv,C.er,X.md];rw[<-pO,<-mj,wB,mq hhi,oX,cP];show _=X.row .af sz (X.bT .af ((List.range (hi - lo)).map λi=>(List.range sz).map λj=>(e (i+lo) j).er));rw[X.GB .af (λ_=>List.range sz) (λi j=>(e (i+lo) j).er) (List.range (hi - lo))];congr 1;exact cm λi _=>cm λj _=>C.sP _
  ·obtain⟨g,o,q1,q2,q3⟩:=h2 (i+lo) j (by omega) hj;refine⟨g,o+lo*sz,by rw[kR (by omega),q1,cv,pW],?_,λhm=>?_⟩;·rw[show o+lo*sz+i*sz+j=o+(i+lo)*sz+j by rw[fk];omega];exact q2
   ·rw[show o+lo*sz+i*sz+j=o+(i+lo)*sz+j by rw[fk];omega];exact q3 hm
 |_=>exact jx rfl
def afL(h:Inv w zl zb G s){y:C}(hy:ew w zl zb G y){cs:List X}(hc:gD s y.er=some cs):∃g k,y.val=.pointer (some ⟨g,k,none⟩)/\∀j,j<cs.length->zl g (k+j)\/zb g (k+j)\/∃t,(G t).fp g (k+j):=by
 have zs:∀{m:Md} {b k:Nat},m≠.own->Zf zl zb m b k->zl b k\/zb b k\/∃t,(G t).fp b k:=λ{m b k} hm hz=>by
  cases m with
  |own=>exact(hm rfl).elim
  |sl=>exact .inl hz
  |af=>exact hz.imp id .inl
 cases y with
 |ptr m g o n f=>
  simp only[C.er,gD] at hc;injection hc with hc
  refine⟨g,o,rfl,λj hj=>?_⟩;have hj:j<n:=by rw[<-hc] at hj;simpa using hj
  obtain⟨h1,h2,h3,h4⟩:=hy.ok;by_cases hm:m=.own;·exact(hy.cS g (o+j) ⟨hm,.inl ⟨rfl,by omega,by omega⟩⟩).elim
  ·exact zs hm ((h1 j hj).2.1 hm)
 |az v r p i k0=>
  obtain⟨z,hz,hp⟩:=hy.rf;have sG:=C.iu p hz (h.ok r);simp only[C.er,gD,look] at hc;rw[<-h.er,C.gP,hz] at hc;simp only[cv] at hc;rcases hp with ⟨m,sz,g,o,len,cap,e,rfl,rfl⟩|⟨m,g,o,n,f,rfl,rfl,rfl⟩
  ·simp only[C.er,C.de] at hc;by_cases hi:i<len
   ·rw[ax hi] at hc;simp only[cv,dP] at hc;refine⟨g,o+i*sz+k0,rfl,λj hj=>?_⟩;have hj:k0+j<sz:=by rw[<-hc] at hj;rw[<-mj,oX,C.wN r p i ((List.range (sz - k0)).map (· +k0)) k0 (λj=>e i j) (by simp)] at hj;simp at hj;omega
    by_cases hm:m=.own;·subst hm;exact .inr (.inr ⟨r,C.gQ p hz (h.ok r) ⟨rfl,.inl ⟨o,rfl⟩⟩⟩)
    ·obtain⟨g',o',hA,hcell,uS⟩:=sG.2.1 i (k0+j) hi hj;injection hA with hA
     injection hA with e1 e2
     injection e2 with e2
     subst e1;subst e2;rw[q8];exact zs hm (uS hm)
   ·rw[aF hi] at hc;cases hc
  ·simp only[C.er,dP] at hc;refine⟨g,o+k0,rfl,λj hj=>?_⟩;have hj:k0+j<n:=by rw[<-hc] at hj;rw[<-mj,oX,C.wN r p 0 ((List.range (n - k0)).map (· +k0)) k0 f (by simp)] at hj;simp at hj;omega
   by_cases hm:m=.own;·subst hm;exact .inr (.inr ⟨r,C.gQ p hz (h.ok r) ⟨rfl,.inl ⟨rfl,by omega,by omega⟩⟩⟩)
   ·have:=(sG.1 (k0+j) hj).2.1 hm;rw[q8];exact zs hm this
 |_=>simp[C.er,gD] at hc
def MS(h:Inv w zl zb G s)(hb:∀b k,zb b k->bM b k)(hG:∀t b k,(G t).fp b k->bM b k):∀l:List C,(∀x∈l,ew w zl zb G x/\x.cell)->∃l':List C,l'.map C.er=oY s (l.map C.er)/\l'.map C.val=l.map C.val/\∀x∈l',fW w zl bM x/\x.cell/\x.fits .af
 |[],hl=>⟨[],rfl,rfl,λ_ hx=>(by cases hx)⟩
 |y::l,hl=>by
  obtain⟨x,x1,x2,x3,x4,_,x6⟩:=GU h hb hG (hl y (bD ..)).1;obtain⟨l',l1,l2,l3⟩:=MS h hb hG l λx hx=>hl x (bY _ hx);refine⟨x::l',by simp[oY,x1,l1],by simp[x2,l2],λz hz=>?_⟩;rcases b9.1 hz with rfl|hz;·exact⟨x3,x4 (hl y (bD ..)).2,x6⟩
  ·exact l3 z hz
def UJ(F:List X->List X)(hF:∀l:List C,(∀x∈l,ew w zl zb G x/\x.cell)->∃l':List C,l'.map C.er=F (l.map C.er)/\l'.map C.val=l.map C.val/\∀x∈l',fW w zl bM x/\x.cell/\x.fits .af)(h:Inv w zl zb G s)(hb:∀b k,zb b k->bM b k)(hG:∀t b k,(G t).fp b k->bM b k){y:C}(hy:ew w zl zb G y){cs:List X}(hc:gD s y.er=some cs)(hne:cs≠[])(n:Nat)(hn:0<n):
  ∃x:C,x.er=.ptr .af (F (cs.take n))/\x.val=y.val/\fW w zl bM x:=by
 obtain⟨l,l1,⟨g,k,hv,hcell⟩,l3⟩:=TC h hy hc;obtain⟨g',k',ey,hmem⟩:=afL h hy hc;rw[hv] at ey;injection ey with ey;injection ey with ey;injection ey with e1 e2 e3
 subst e1;subst e2;have nE:l.length=cs.length:=by rw[<-l1];simp
 obtain⟨l',m1,m2,m3⟩:=hF (l.take n) λx hx=>l3 x (OL hx);have hl':l'.length=min n l.length:=by have:=dz List.length m2;simpa using this
 have hpos:0<l.length:=by rw[nE];exact DY.2 hne
 refine⟨.ptr .af g k l'.length λj=>l'.getD j (.dead undef),?_,hv.symm,⟨⟨λj hj=>⟨?_,λ_=>?_,λhm=>by (cases hm)⟩,?_,λj hj=>⟨(m3 _ (cQ hj _)).2.1,(m3 _ (cQ hj _)).2.2,(m3 _ (cQ hj _)).1.ok⟩,λj hj b k hh=>((m3 _ (cQ hj _)).1.cS b k hh).elim⟩,λj hj=>(m3 _ (cQ hj _)).1.bare,λb k hh=>by cases hh.1⟩⟩;·simp only[C.er,mW];rw[m1,pO,l1]
 ·have hj':j<l.length:=by omega
  have uM:(l'.getD j (.dead undef)).val=(l[j]).val:=by have:=dz (λt:List Value=>t[j]?) m2;simp only[cZ,cz hj,cv] at this;rw[Ph (by omega),cz hj'] at this;rw[qc (cz hj)];simpa using this
  rw[uM];exact hcell j hj'
 ·rcases hmem j (by omega) with hz|hz|⟨t,ht⟩;·exact .inl hz
  ·exact .inr (hb _ _ hz)
  ·exact .inr (hG t _ _ ht)
 ·have:=hcell 0 hpos;rcases fV g w.heap.size with hg|hg;·exact hg
  ·simp[World.cell?,lB hg] at this
def UK(h:Inv w zl zb G s)(hb:∀b k,zb b k->bM b k)(hG:∀t b k,(G t).fp b k->bM b k){y:C}(hy:ew w zl zb G y){cs:List X}(hc:gD s y.er=some cs)(hne:cs≠[])(n:Nat)(hn:0<n):
  ∃x:C,x.er=.ptr .af (oY s (cs.take n))/\x.val=y.val/\fW w zl bM x:=UJ (oY s) (MS h hb hG) h hb hG hy hc hne n hn
def ah0(h:Inv w zl zb G s)(hb:∀b k,zb b k->bM b k)(hG:∀t b k,(G t).fp b k->bM b k){y:C}(hy:ew w zl zb G y)(mL:y.cell):∃x:C,x.er=gj s y.er/\x.val=y.val/\fW w zl bM x/\x.cell/\x.fits .af:=by
 have jx:gj s y.er=lZ s y.er->∃x:C,x.er=gj s y.er/\x.val=y.val/\fW w zl bM x/\x.cell/\x.fits .af:=λe=>by obtain⟨x,x1,x2,x3,x4,_,x6⟩:=GU h hb hG hy;exact⟨x,by rw[e,x1],x2,x3,x4 mL,x6⟩
 cases y with
 |az v r p i k=>
  have dead:gj s (C.az v r p i k).er=.dead->∃x:C,x.er=gj s (C.az v r p i k).er/\x.val=(C.az v r p i k).val/\fW w zl bM x/\x.cell/\x.fits .af:=λe=>⟨.dead v,e.symm,rfl,BU v,mL,trivial⟩;cases hc:gD s (.az r p i k) with
  |none=>exact dead (by simp only[C.er,gj,hc])
  |some cs=>
   cases cs with
   |nil=>exact dead (by simp only[C.er,gj,hc])
   |cons a cs=>
    obtain⟨x,x1,x2,x3⟩:=UK h hb hG hy hc (by simp) (a::cs).length (by simp);rw[wA] at x1;have he:gj s (C.az v r p i k).er=.ptr .af (oY s (a::cs)):=by simp only[C.er,gj,hc]
    rw[he];refine⟨x,x1,x2,x3,?_,?_⟩;·cases x<;>first|trivial|(simp[C.er] at x1)
    ·cases x with
     |ptr m g o n f=>simp only[C.er,X.ptr.injEq] at x1;exact .inr (.inl x1.1)
     |_=>simp[C.er] at x1
 |_=>exact jx rfl
def UI(h:Inv w zl zb G s)(hb:∀b k,zb b k->bM b k)(hG:∀t b k,(G t).fp b k->bM b k):∀l:List C,(∀x∈l,ew w zl zb G x/\x.cell)->∃l':List C,l'.map C.er=jz s (l.map C.er)/\l'.map C.val=l.map C.val/\∀x∈l',fW w zl bM x/\x.cell/\x.fits .af
 |[],hl=>⟨[],rfl,rfl,λ_ hx=>(by cases hx)⟩
 |y::l,hl=>by
  obtain⟨x,x1,x2,x3⟩:=ah0 h hb hG (hl y (bD ..)).1 (hl y (bD ..)).2;obtain⟨l',l1,l2,l3⟩:=UI h hb hG l λx hx=>hl x (bY _ hx);refine⟨x::l',by simp[jz,x1,l1],by simp[x2,l2],λz hz=>?_⟩;rcases b9.1 hz with rfl|hz;·exact x3
  ·exact l3 z hz
end
end M
namespace M
open Go Go.RowKit
variable [Bs]
section
variable {w:World}{zl zb bM:Nat->Nat->Prop}{G:Nat->C}{s:ah}
def MR(h:Inv w zl zb G s)(hb:∀b k,zb b k->bM b k)(hG:∀t b k,(G t).fp b k->bM b k):∀l:List C,(∀x∈l,ew w zl zb G x)->∃l':List C,l'.map C.er=fT s (l.map C.er)/\l'.map C.val=l.map C.val/\∀x∈l',fW w zl bM x
 |[],hl=>⟨[],rfl,rfl,λ_ hx=>(by cases hx)⟩
 |y::l,hl=>by
  obtain⟨l',l1,l2,l3⟩:=MR h hb hG l λx hx=>hl x (bY _ hx);have hy:=hl y (bD ..)
  have done:∀x:C,x.val=y.val->fW w zl bM x->(fT s ((y::l).map C.er))=x.er::fT s (l.map C.er)->∃l':List C,l'.map C.er=fT s ((y::l).map C.er)/\l'.map C.val=(y::l).map C.val/\∀x∈l',fW w zl bM x:=λx x1 x2 x3=>
   ⟨x::l',by rw[x3,bn,l1],by simp[x1,l2],λz hz=>(b9.1 hz).elim (λe=>e▸x2) (l3 z)⟩
  have jx:(fT s ((y::l).map C.er))=lZ s y.er::fT s (l.map C.er)->∃l':List C,l'.map C.er=fT s ((y::l).map C.er)/\l'.map C.val=(y::l).map C.val/\∀x∈l',fW w zl bM x:=λe=>by obtain⟨x,x1,x2,x3,_⟩:=GU h hb hG hy;exact done x x2 x3 (by rw[e,x1])
  cases y with
  |az v r p i k=>
   cases hc:gD s (.az r p i k) with
   |none=>exact done (.dead v) rfl (BU v) (by simp only[bn,C.er,fT,hc])
   |some cs=>
    cases cs with
    |nil=>exact done (.dead v) rfl (BU v) (by simp only[bn,C.er,fT,hc])
    |cons a cs=>obtain⟨x,x1,x2,x3⟩:=UJ (jz s) (UI h hb hG) h hb hG hy hc (by simp) (a::cs).length (by simp);refine done x x2 x3 ?_;rw[x1,wA];simp only[bn,C.er,fT,hc]
  |_=>exact jx rfl
def ah2(h:Inv w zl zb G s)(hb:∀b k,zb b k->bM b k)(hG:∀t b k,(G t).fp b k->bM b k){y:C}(hy:ew w zl zb G y):∃x:C,x.er=res s y.er/\x.val=y.val/\fW w zl bM x:=by
 have jx:res s y.er=lZ s y.er->∃x:C,x.er=res s y.er/\x.val=y.val/\fW w zl bM x:=λe=>by obtain⟨x,x1,x2,x3,_⟩:=GU h hb hG hy;exact⟨x,by rw[x1,e],x2,x3⟩
 cases y with
 |agg n f=>
  obtain⟨l',l1,l2,l3⟩:=MS h hb hG ((List.range n).map f) λx hx=>by
   obtain⟨j,hj,rfl⟩:=bw.1 hx;have hj':j<n:=by simpa using hj
   exact⟨PE hy hj',(hy.ok.1 j hj').1⟩
  refine⟨gR l',?_,?_,⟨⟨λj hj=>⟨(l3 _ (cQ hj _)).2.1,(l3 _ (cQ hj _)).1.ok⟩,λj hj b k hf=>((l3 _ (cQ hj _)).1.cS b k hf).elim⟩,λj hj=>(l3 _ (cQ hj _)).1.bare,λb k hf=>?_⟩⟩;·rw[wM,l1,cP];rfl
  ·rw[z6,l2,cP];rfl
  ·obtain⟨x,hx,hf⟩:=(rD _ _ _).1 hf;exact(l3 x hx).1.cS b k hf
 |fn g n f=>
  obtain⟨l',l1,l2,l3⟩:=MR h hb hG ((List.range n).map f) λx hx=>by
   obtain⟨j,hj,rfl⟩:=bw.1 hx;have hj':j<n:=by simpa using hj
   exact⟨(hy.ok j hj').1,hy.rf j hj',(hy.ok j hj').2⟩
  refine⟨.fn g l'.length λj=>l'.getD j (.dead undef),?_,?_,⟨λj hj=>⟨(l3 _ (cQ hj _)).ok,(l3 _ (cQ hj _)).cS⟩,λj hj=>(l3 _ (cQ hj _)).bare,λb k hf=>hf⟩⟩;·show X.fn _ _=_;rw[mW l' _ C.er,l1,cP];rfl
  ·show Value.func _ _ _=_;rw[mW l' _ C.val,l2,cP];rfl
 |_=>exact jx rfl
def ah1(h:Inv w zl zb G s)(hb:∀b k,zb b k->bM b k)(hG:∀t b k,(G t).fp b k->bM b k){y:C}(hy:ew w zl zb G y)(n:Nat)(hn:0<n):∃x:C,x.er=yp n s y.er/\x.val=y.val/\fW w zl bM x:=by
 cases hc:gD s y.er with
 |none=>exact⟨.dead y.val,by simp only[yp,hc,C.er],rfl,BU _⟩
 |some cs=>
  cases cs with
  |nil=>exact⟨.dead y.val,by simp only[yp,hc,C.er],rfl,BU _⟩
  |cons a cs=>obtain⟨x,x1,x2,x3⟩:=UK h hb hG hy hc (by simp) n hn;exact⟨x,by rw[x1];simp only[yp,hc],x2,x3⟩
end
section
variable {P:Program}{c:Ctx}{G:Nat->C}{zl:Nat->Nat->Prop}{s:ah}{a:Act}{w:World}{o:Oper}{K:ah->Prop}
def gV:List Operand->List (AV×PM)->Bool
 |[],[]=>true
 |x'::l',(x,m)::l=>aQ x' x && (match m with|.jI n=>decide (0<n)|.mut _=>(dS l).isNone|_=>true) && gV l' l
 |_,_=>false
def MV(a:Act):List Operand->List (AV×PM)->List C->Prop
 |[],[],[]=>True
 |x'::l',(_,.mv)::l,m::ms=>m.val=a.eval x'/\MV a l' l ms
 |_::l',(_,.af)::l,_::ms=>MV a l' l ms
 |_::l',(_,.jI _)::l,_::ms=>MV a l' l ms
 |_::l',(_,.mut _)::l,_::ms=>MV a l' l ms
 |_,_,_=>False
def GF:∀{l':List Operand} {l:List (AV×PM)},gV l' l=true->∀{G:Nat->C} {s:ah},St c G zl s a w->
  ∃ms G',ms.map C.er=(bZ l s).1/\MV a l' l ms/\bP w zl c.zb G ms G' (bZ l s).2
 |[],[],_,G,s,h=>⟨[],G,rfl,trivial,bP.nil h.inv⟩
 |x'::l',(x,pm)::l,hc,G,s,h=>by
  simp only[gV,aB] at hc;have other:(bZ ((x,pm)::l) s=(.dead::(bZ l s).1,(bZ l s).2))->(∀m ms,MV a l' l ms->MV a (x'::l') ((x,pm)::l) (m::ms))->∃ms G',ms.map C.er=(bZ ((x,pm)::l) s).1/\MV a (x'::l') ((x,pm)::l) ms/\bP w zl c.zb G ms G' (bZ ((x,pm)::l) s).2:=λe hm=>by obtain⟨ms,G',g1,g2,g3⟩:=GF hc.2 h;rw[e];exact⟨.dead undef::ms,G',by simp[C.er,g1],hm _ _ g2,bP.cons (fE.self h.inv trivial trivial λ_ _ h=>h) g3⟩
  cases pm with
  |mv=>obtain⟨p,p1,p2,p3⟩:=cx h hc.1.1;obtain⟨y,G1,f1,f2,f3,f4⟩:=qV .mv h.inv p3;obtain⟨ms,G',g1,g2,g3⟩:=GF hc.2 (h.zu f4);rw[p1] at f1 g1 g3 f4;exact⟨y::ms,G',by simp[bZ,f1,g1],⟨by rw[f2,p2],g2⟩,bP.cons f4 g3⟩
  |af=>exact other rfl λ_ _ h=>h
  |jI n=>exact other rfl λ_ _ h=>h
  | «mut» n=>exact other rfl λ_ _ h=>h
 |[],_::_,hc,_,_,_=>by cases hc
 |_::_,[],hc,_,_,_=>by cases hc
def Ef{G2:Nat->C}{s2:ah}{bM:Nat->Nat->Prop}(h:St c G2 zl s2 a w)(hb:∀b k,c.zb b k->bM b k)(hG:∀t b k,(G2 t).fp b k->bM b k){y:C}(hy:y.ok w (Zf zl bM))(FE:y.bare):∀{l':List Operand} {l:List (AV×PM)},gV l' l=true->∀{ms:List C},MV a l' l ms->
  (∀x∈ms,x.ok w (Zf zl bM)/\x.bare/\∀b k,x.fp b k->¬y.fp b k)->(ms.Pairwise λa b=>∀x k,a.fp x k->¬b.fp x k)->(∀(i:Nat) (x:AV) (n:Nat) (x':Operand),l[i]?=some (x,PM.mut n)->l'[i]?=some x'->y.val=a.eval x')->
  ∃cs:List C,cs.map C.er=gC s2 y.er l (ms.map C.er)/\cs.map C.val=l'.map a.eval/\(∀x∈cs,x.ok w (Zf zl bM)/\x.bare/\∀b k,x.fp b k->(∃m∈ms,m.fp b k)\/((dS l).isSome=true/\y.fp b k))/\cs.Pairwise λa b=>∀x k,a.fp x k->¬b.fp x k
 |[],[],_,[],_,_,_,_=>⟨[],rfl,rfl,λ_ hx=>(by cases hx),List.Pairwise.nil⟩
 |x'::l',(x,pm)::l,hc,[],hm,_,_,_=>by cases pm<;>exact hm.elim
 |x'::l',(x,pm)::l,hc,m::ms,hm,uL,ia,oF=>by
  simp only[gV,aB] at hc;have xC:=fh.1 ia;have ih:=λ(hm:MV a l' l ms)=>Ef h hb hG hy FE hc.2 hm (λx hx=>uL x (bY _ hx)) xC.2 (λi x n x' h1 h2=>oF (i+1) x n x' (by simpa using h1) (by simpa using h2))
  have TB:∀z:C,z.val=a.eval x'->fW w zl bM z->MV a l' l ms->gC s2 y.er ((x,pm)::l) ((m::ms).map C.er)=z.er::gC s2 y.er l (ms.map C.er)->((dS l).isSome=true->(dS ((x,pm)::l)).isSome=true)->∃cs:List C,cs.map C.er=gC s2 y.er ((x,pm)::l) ((m::ms).map C.er)/\cs.map C.val=(x'::l').map a.eval/\
    (∀z∈cs,z.ok w (Zf zl bM)/\z.bare/\∀b k,z.fp b k->(∃m'∈m::ms,m'.fp b k)\/((dS ((x,pm)::l)).isSome=true/\y.fp b k))/\cs.Pairwise λa b=>∀x k,a.fp x k->¬b.fp x k:=λz z1 z2 hm' he hmo=>by
   obtain⟨cs,c1,c2,c3,c4⟩:=ih hm';refine⟨z::cs,by rw[he,bn,c1],by simp[z1,c2],λu hu=>?_,fh.2 ⟨λu _ b k hf=>(z2.cS b k hf).elim,c4⟩⟩;rcases b9.1 hu with rfl|hu;·exact⟨z2.ok,z2.bare,λb k hf=>(z2.cS b k hf).elim⟩
   ·obtain⟨u1,u2,u3⟩:=c3 u hu;exact⟨u1,u2,λb k hf=>(u3 b k hf).imp (λ⟨m',hm',hf⟩=>⟨m',bY _ hm',hf⟩) λhh=>⟨hmo hh.1,hh.2⟩⟩
  obtain⟨p,p1,p2,p3⟩:=cx h hc.1.1;cases pm with
  |af=>obtain⟨z,z1,z2,z3⟩:=ah2 h.inv hb hG p3;rw[p1] at z1;exact TB z (by rw[z2,p2]) z3 hm (by simp only[bn,gC,z1]) λhh=>hh
  |jI n=>obtain⟨z,z1,z2,z3⟩:=ah1 h.inv hb hG p3 n (by simpa using hc.1.2);rw[p1] at z1;exact TB z (by rw[z2,p2]) z3 hm (by simp only[bn,gC,z1]) λhh=>hh
  |mv=>
   obtain⟨hv,hm⟩:=hm;obtain⟨cs,c1,c2,c3,c4⟩:=ih hm;obtain⟨m1,m2,m3⟩:=uL m (bD ..);refine⟨m::cs,by simp only[bn,gC,c1],by simp[hv,c2],λu hu=>?_,fh.2 ⟨λu hu b k hf hf'=>?_,c4⟩⟩
   ·rcases b9.1 hu with rfl|hu;·exact⟨m1,m2,λb k hf=>.inl ⟨u,bD ..,hf⟩⟩
    ·obtain⟨u1,u2,u3⟩:=c3 u hu;exact⟨u1,u2,λb k hf=>(u3 b k hf).imp (λ⟨m',hm',hf⟩=>⟨m',bY _ hm',hf⟩) id⟩
   ·rcases(c3 u hu).2.2 b k hf' with ⟨m',hm',jr⟩|⟨_,jr⟩;·exact xC.1 m' hm' b k hf jr
    ·exact m3 b k hf jr
  | «mut» n=>
   obtain⟨cs,c1,c2,c3,c4⟩:=ih hm;have hno:dS l=none:=by simpa using hc.1.2
   have hv:=oF 0 x n x' rfl rfl;refine⟨y::cs,by simp only[bn,gC,c1],by simp[hv,c2],λu hu=>?_,fh.2 ⟨λu hu b k hf hf'=>?_,c4⟩⟩
   ·rcases b9.1 hu with rfl|hu;·exact⟨hy,FE,λb k hf=>.inr ⟨rfl,hf⟩⟩
    ·obtain⟨u1,u2,u3⟩:=c3 u hu;refine⟨u1,u2,λb k hf=>(u3 b k hf).imp (λ⟨m',hm',hf⟩=>⟨m',bY _ hm',hf⟩) λhh=>⟨rfl,hh.2⟩⟩
   ·rcases(c3 u hu).2.2 b k hf' with ⟨m',hm',jr⟩|⟨hh,_⟩;·exact(uL m' (bY _ hm')).2.2 b k jr hf
    ·rw[hno] at hh;cases hh
 |[],_::_,hc,_,_,_,_,_=>by cases hc
 |_::_,[],hc,_,_,_,_,_=>by cases hc
 |[],[],_,_::_,hm,_,_,_=>hm.elim
def aah{G2:Nat->C}{s2:ah}{bM:Nat->Nat->Prop}(h:St c G2 zl s2 a w)(hb:∀b k,c.zb b k->bM b k)(hG:∀t b k,(G2 t).fp b k->bM b k){x:AV}{x':Operand}(hx:aQ x' x=true){f:FuncId}{cs:List X}(he:aC s2 x=.fn f cs):
  ∃l:List C,l.map C.er=oz s2 (some x)/\a.eval x'=.func (.func f) #[] (l.map C.val).toArray/\∀x∈l,fW w zl bM x:=by
 obtain⟨p,p1,p2,p3⟩:=cx h hx;rw[he] at p1;cases p with
 |fn g n fc=>
  simp only[C.er,X.fn.injEq] at p1;obtain⟨rfl,p1⟩:=p1
  obtain⟨l',l1,l2,l3⟩:=MR h.inv hb hG ((List.range n).map fc) λx hx=>by
   obtain⟨j,hj,rfl⟩:=bw.1 hx;have hj':j<n:=by simpa using hj
   exact⟨(p3.ok j hj').1,p3.rf j hj',(p3.ok j hj').2⟩
  refine⟨l',?_,?_,l3⟩;·rw[l1,oz,he,<-p1,cP];rfl
  ·rw[<-p2,l2,cP];rfl
 |_=>simp[C.er] at p1
end
end M
namespace M
open Go Go.RowKit
variable [Bs]
def j6{l:List X}:X.clean.cH l=true↔∀x∈l,x.clean=true:=by
 induction l with
 |nil=>simp[X.clean.cH]
 |cons a l ih=>simp[X.clean.cH,ih]
def Q1{l:List (List X)}:X.clean.bE l=true↔∀x∈l,∀y∈x,y.clean=true:=by
 induction l with
 |nil=>simp[X.clean.bE]
 |cons a l ih=>simp[X.clean.bE,ih,j6]
namespace C
def dZ:C->C
 |.row _ sz A len cap e=>.row .sl sz A len cap λi j=>(e i j).dZ
 |.ptr _ g o n c=>.ptr .sl g o n λj=>(c j).dZ
 |.agg n c=>.agg n λj=>(c j).dZ
 |.av n c=>.av n λj=>(c j).dZ
 |.fn f n c=>.fn f n λj=>(c j).dZ
 |.ref v _ _=>.dead v
 |.az v _ _ _ _=>.dead v
 |.cut v _ _ _ _=>.dead v
 |.dead v=>.dead v
 |.int k n=>.int k n
 |.bool b=>.bool b
 |.str s=>.str s
def xZ:∀c:C,c.dZ.er=c.er.md .sl
 |.row m sz A len cap e=>by simp only[dZ,er,X.md];rw[X.GB .sl (λ_=>List.range sz) (λi j=>(e i j).er)];congr 1;exact cm λi _=>cm λj _=>xZ (e i j)
 |.ptr m g o n c=>by simp only[dZ,er,X.md,X.nR];congr 1;exact cm λj _=>xZ (c j)
 |.agg n c=>by simp only[dZ,er,X.md,X.nR];congr 1;exact cm λj _=>xZ (c j)
 |.av n c=>by simp only[dZ,er,X.md,X.nR];congr 1;exact cm λj _=>xZ (c j)
 |.fn f n c=>by simp only[dZ,er,X.md,X.nR];congr 1;exact cm λj _=>xZ (c j)
 |.ref _ _ _=>by simp only[dZ,er,X.md]
 |.az _ _ _ _ _=>by simp only[dZ,er,X.md]
 |.cut _ _ _ _ _=>by simp only[dZ,er,X.md]
 |.dead _=>by simp only[dZ,er,X.md]
 |.int _ _=>by simp only[dZ,er,X.md]
 |.bool _=>by simp only[dZ,er,X.md]
 |.str _=>by simp only[dZ,er,X.md]
def x8:∀c:C,c.dZ.val=c.val
 |.row m sz A len cap e=>rfl
 |.ptr m g o n c=>rfl
 |.agg n c=>by simp only[dZ,val];congr 2;exact cm λj _=>x8 (c j)
 |.av n c=>by simp only[dZ,val];congr 2;exact cm λj _=>x8 (c j)
 |.fn f n c=>by simp only[dZ,val];congr 2;exact cm λj _=>x8 (c j)
 |.ref _ _ _=>rfl
 |.az _ _ _ _ _=>rfl
 |.cut _ _ _ _ _=>rfl
 |.dead _=>rfl
 |.int _ _=>rfl
 |.bool _=>rfl
 |.str _=>rfl
def sQ:∀(c:C) (b k:Nat),¬c.dZ.fp b k
 |.row m sz A len cap e,b,k=>λh=>by cases h.1
 |.ptr m g o n c,b,k=>λh=>by cases h.1
 |.agg n c,b,k=>λ⟨j,_,hf⟩=>sQ (c j) b k hf
 |.av n c,b,k=>λ⟨j,_,hf⟩=>sQ (c j) b k hf
 |.fn f n c,b,k=>λh=>h
 |.ref _ _ _,b,k=>λh=>h
 |.az _ _ _ _ _,b,k=>λh=>h
 |.cut _ _ _ _ _,b,k=>λh=>h
 |.dead _,b,k=>λh=>h
 |.int _ _,b,k=>λh=>h
 |.bool _,b,k=>λh=>h
 |.str _,b,k=>λh=>h
def Mt{c:C}(h:c.cell):c.dZ.cell:=by cases c<;>first|exact h|exact h.elim|trivial
def agb{c:C}(h:c.gi):c.dZ.gi:=by cases c<;>first|exact h|exact h.elim|trivial
def agd{c:C}(h:c.cU):c.dZ.cU:=by cases c<;>first|exact h|exact h.elim|trivial
def TU(c:C):c.dZ.fits .sl:=by cases c<;>first|trivial|exact .inr (.inl rfl)
def agc{c:C}(h:c.plain):c.dZ.plain:=by cases c<;>first|exact h|exact h.elim|trivial
variable {w:World}{zl aH zb:Nat->Nat->Prop}
def x7(hz:∀b k,zl b k->aH b k):∀c:C,c.er.clean=true->(∀b k,c.fp b k->aH b k)->c.ok w (Zf zl zb)->c.dZ.ok w (Zf aH zb)
 |.row m sz A len cap e,hcl,hf,h=>by
  obtain⟨h1,h2,h3,h4,h5⟩:=h;simp only[er,X.clean,aB] at hcl;refine⟨h1,λi j hi hj=>?_,λi j hi hj=>?_,λhm=>by (cases hm),λi j hi hj b k hh=>(sQ _ b k hh).elim⟩
  ·obtain⟨g,o,hA,hc,uS⟩:=h2 i j hi hj;refine⟨g,o,hA,by rw[x8];exact hc,λ_=>?_⟩;cases m with
   |own=>exact hf _ _ ⟨rfl,.inl ⟨o,hA⟩⟩
   |sl=>exact hz _ _ (uS (by simp))
   |af=>simp at hcl
  ·obtain⟨a1,a2,a3,a4⟩:=h3 i j hi hj;exact⟨Mt a1,agd a2,TU _,x7 hz (e i j) (Q1.1 hcl.2 _ (bw.2 ⟨i,by simpa using hi,rfl⟩) _ (bw.2 ⟨j,by simpa using hj,rfl⟩)) (λb k hk=>hf b k (kz a1 a3 hi hj hk)) a4⟩
 |.ptr m g o n c,hcl,hf,h=>by
  obtain⟨h1,h2,h3,h4⟩:=h;simp only[er,X.clean,aB] at hcl;refine⟨λj hj=>?_,h2,λj hj=>?_,λj hj b k hh=>(sQ _ b k hh).elim⟩
  ·obtain⟨a1,a2,a3⟩:=h1 j hj;refine⟨by rw[x8];exact a1,λ_=>?_,λhm=>by (cases hm)⟩;cases m with
   |own=>exact hf _ _ ⟨rfl,.inl ⟨rfl,by omega,by omega⟩⟩
   |sl=>exact hz _ _ (a2 (by simp))
   |af=>simp at hcl
  ·obtain⟨a1,a2,a3⟩:=h3 j hj;exact⟨Mt a1,TU _,x7 hz (c j) (j6.1 hcl.2 _ (bw.2 ⟨j,by simpa using hj,rfl⟩)) (λb k hk=>hf b k (kY a1 a2 hj hk)) a3⟩
 |.agg n c,hcl,hf,h=>by simp only[er,X.clean] at hcl;exact⟨λj hj=>⟨Mt (h.1 j hj).1,x7 hz (c j) (j6.1 hcl _ (bw.2 ⟨j,by simpa using hj,rfl⟩)) (λb k hk=>hf b k ⟨j,hj,hk⟩) (h.1 j hj).2⟩,λj hj b k hh=>(sQ _ b k hh).elim⟩
 |.av n c,hcl,hf,h=>by simp only[er,X.clean] at hcl;exact⟨λj hj=>⟨agb (h.1 j hj).1,x7 hz (c j) (j6.1 hcl _ (bw.2 ⟨j,by simpa using hj,rfl⟩)) (λb k hk=>hf b k ⟨j,hj,hk⟩) (h.1 j hj).2⟩,λj hj b k hh=>(sQ _ b k hh).elim⟩
 |.fn f n c,hcl,hf,h=>by simp only[er,X.clean] at hcl;exact λj hj=>⟨x7 hz (c j) (j6.1 hcl _ (bw.2 ⟨j,by simpa using hj,rfl⟩)) (λb k hk=>((h j hj).2 b k hk).elim) (h j hj).1,λb k hh=>sQ _ b k hh⟩
 |.ref _ _ _,_,_,_=>trivial
 |.az _ _ _ _ _,_,_,_=>trivial
 |.cut _ _ _ _ _,_,_,_=>trivial
 |.dead _,_,_,_=>trivial
 |.int _ _,_,_,_=>trivial
 |.bool _,_,_,_=>trivial
 |.str _,_,_,h=>h
end C
variable {w:World}{zl zb:Nat->Nat->Prop}{G:Nat->C}{s:ah}
def Inv.more{aH:Nat->Nat->Prop}(h:Inv w zl zb G s)(h1:∀b k,zl b k->aH b k)(h2:∀b k,aH b k->(zl b k\/∀t,¬(G t).fp b k)/\b<w.heap.size):Inv w aH zb G s where
 er:=h.er
 ok:=λt=>C.gM (λm b k hz=>by
  cases m with
  |own=>exact hz
  |sl=>exact h1 b k hz
  |af=>exact hz.imp (h1 b k) id) _ (h.ok t)
 sep:=h.sep
 fz:=λt b k hf=>⟨λhz=>by
  rcases(h2 b k hz).1 with hh|hh;·exact(h.fz t b k hf).1 hh
  ·exact hh t hf,(h.fz t b k hf).2⟩
 rf:=h.rf
 cJ:=λb k hz=>hz.elim (λhz=>(h2 b k hz).2) λhz=>h.cJ b k (.inr hz)
section
variable {P:Program}{c:Ctx}{a:Act}{o:Oper}{K:ah->Prop}
def St.more{aH:Nat->Nat->Prop}(h:St c G zl s a w)(h1:∀b k,zl b k->aH b k)(h2:∀b k,aH b k->(zl b k\/∀t,¬(G t).fp b k)/\b<w.heap.size)(h3:∀b k,aH b k->zl b k\/c.F0 b k\/c.w0.heap.size<=b):St c G aH s a w where
 inv:=h.inv.more h1 h2
 val:=h.val
 size:=h.size
 small:=h.small
 defers:=h.defers
 tr:=⟨h.tr.ext,h.tr.dom,λb k hz=>h1 b k (h.tr.pT b k hz),λb k hz=>(h3 b k hz).elim (h.tr.zl b k) .inr,h.tr.gl,h.tr.AH⟩
 args:=h.args
def UB{d:Nat}{v:Value}(hd:a.tmps.getD d undef=v)(hn:d<a.tmps.size):a.put (some d) v=a:=by
 unfold Act.put;simp only;congr 1;apply Jn;intro i;by_cases e:d=i;·subst e;rw[Wv hn,<-hd,wD,Js hn];rfl
 ·rw[Pp e]
def R6{d:Nat}{s':ah}(h:St c G zl s a w)(hn:d<c.nt)(cs:List C)(hcs:∀x∈cs,zZ w zl c.zb G x)(k:List C->C)(kx:List X->X)(hk:∀l:List C,l.length=cs.length->(k l).er=kx (l.map C.er))
  (hkv:∀l:List C,l.map C.val=cs.map C.val->(k l).val=a.tmps.getD d undef)(hko:∀{aH:Nat->Nat->Prop},∀l:List C,l.length=cs.length->(∀x∈l,x.plain/\x.ok w (Zf aH c.zb)/\∀b k,¬x.fp b k)->(k l).ok w (Zf aH c.zb)/\(∀b q,¬(k l).fp b q)/\∀G,(k l).rf G)
  (hg:r9 d (cs.map C.er) kx s=some s'):∃G' aH,St c G' aH s' a w:=by
 obtain⟨l,G1,e1,e2,e3,e4,e5⟩:=Du cs G s h.inv hcs;unfold r9 at hg;rw[<-e1] at hg;cases hcl:X.clean.cH (l.map C.er) with
 |false=>rw[hcl] at hg;cases hg
 |true=>
  rw[hcl,mw] at hg;have hlen:l.length=cs.length:=by have:=dz List.length e2;simpa using this
  let aH:Nat->Nat->Prop:=λb k=>zl b k\/∃y∈l,y.fp b k;have h1:St c G1 zl (b7 (cs.map C.er) s).2 a w:=h.move e4.inv e4.val (Ext.refl (λ_ _=>False) w) (λ_ _ hs=>hs.elim) (λt b k hf=>.inl ⟨t,e4.mono t b k hf⟩)
  have h2:St c G1 aH (b7 (cs.map C.er) s).2 a w:=h1.more (λb k hz=>.inl hz) (λb k hz=>by
   rcases hz with hz|⟨y,hy,hf⟩;·exact⟨.inl hz,h1.inv.cJ b k (.inl hz)⟩
   ·exact⟨.inr λt=>(e4.all y hy).2.1 t b k hf,C.fF _ (e4.all y hy).1 b k hf⟩) (λb k hz=>by
   rcases hz with hz|⟨y,hy,hf⟩;·exact .inl hz
   ·obtain⟨t,ht⟩:=(e4.all y hy).2.2.2 b k hf;exact .inr (h.tr.dom t b k ht))
  let m:=l.map C.dZ;have hml:m.length=cs.length:=by simp[m,hlen]
  have aeO:m.map C.er=X.dJ .sl (l.map C.er):=by rw[X.nR];simp only[m,cP];exact cm λx _=>C.xZ x
  have SX:m.map C.val=cs.map C.val:=by rw[<-e2];simp only[m,cP];exact cm λx _=>C.x8 x
  have hmem:∀x∈m,x.plain/\x.ok w (Zf aH c.zb)/\∀b k,¬x.fp b k:=λx hx=>by obtain⟨y,hy,rfl⟩:=bw.1 hx;exact⟨C.agc (e3 y hy),C.x7 (λb k hz=>.inl hz) y (j6.1 hcl _ (kH hy)) (λb k hf=>.inr ⟨y,hy,hf⟩) (e4.all y hy).1,C.sQ y⟩
  rw[<-aeO] at hg;cases hb:kN (cs.map C.er) (m.map C.er) (b7 (cs.map C.er) s).2 with
  |none=>rw[hb] at hg;cases hg
  |some s3=>
   rw[hb] at hg;simp only[cv,dP] at hg;subst hg;obtain⟨G2,g1,g2,g3⟩:=Ei cs m h2.inv hml (λv r p hm=>e5 v r p ((hcs _ hm).weak v r p rfl)) (λi x y hx hy=>by have hy':=hmem y (mo hy);refine⟨hy'.1,?_,hy'.2.1⟩;have:=dz (λt:List Value=>t[i]?) SX;simpa [cZ,hx,hy] using this) (λy hy=>⟨λt b k hf=>((hmem y hy).2.2 b k hf).elim,λb k hf=>((hmem y hy).2.2 b k hf).elim⟩) (rF λx hx=>(hmem x hx).2.2) hb
   have h3:St c G2 aH s3 a w:=h2.move g1 g2 (Ext.refl (λ_ _=>False) w) (λ_ _ hs=>hs.elim) (λt b k hf=>by
    rcases g3 t b k hf with hh|⟨y,hy,hh⟩;·exact .inl ⟨t,hh⟩
    ·exact((hmem y hy).2.2 b k hh).elim)
   obtain⟨o1,o2,o3⟩:=hko m hml hmem;obtain⟨G3,h4⟩:=h3.put hn o1 (λt _ b k hf=>(o2 b k hf).elim) (λb k hf=>(o2 b k hf).elim) (o3 G2) (λb k hf=>(o2 b k hf).elim);rw[hk m hml,UB (hkv m SX).symm (by rw[h.size];exact hn)] at h4;exact⟨G3,aH,h4⟩
def ad2{fz:Bool}{d:Nat}{s':ah}(h:St c G zl s a w)(hn:d<c.nt)(hg:ghost fz d s=some s'):∃G' aH,St c G' aH s' a w:=by
 obtain⟨e1,e2,e3⟩:=Uj h d;have hd:d<base:=lg hn h.small;have hval:a.tmps.getD d undef=(G d).val:=(h.val d hd).symm;unfold ghost at hg;cases fz with
 |false=>
  obtain⟨y,G1,f1,f2,f3,f4⟩:=qV .mv h.inv e3;rw[e1] at f1 f4;have oH:y.val=a.tmps.getD d undef:=by rw[f2,e2,hval]
  simp only[ri,dP] at hg;subst hg;obtain⟨G2,h2⟩:=h.Oe f4 hn;rw[f1,UB oH.symm (by rw[h.size];exact hn)] at h2;exact⟨G2,zl,h2⟩
 |true=>
  simp only[mw] at hg;rw[<-e1] at hg;cases hx:(G d).alias d [] with
  |agg n f=>
   rw[hx] at hg e2 e3;have er:(C.agg n f).er=.agg (((List.range n).map f).map C.er):=by simp only[C.er,cP];rfl
   rw[er] at hg;have hlen:((List.range n).map f).length=n:=by simp
   refine R6 h hn ((List.range n).map f) (λx hx=>?_) gR .agg (λl _=>wM l) (λl hl=>?_) (λl hl hm=>⟨⟨λj hj=>⟨C.lY (hm _ (cQ hj _)).1,(hm _ (cQ hj _)).2.1⟩,λj hj b q hf=>((hm _ (cQ hj _)).2.2 b q hf).elim⟩,λb q hf=>?_,λG j hj=>C.oW (hm _ (cQ hj _)).1 G⟩) hg
   ·obtain⟨j,hj,rfl⟩:=bw.1 hx;have hj':j<n:=by simpa using hj
    exact⟨(e3.ok.1 j hj').1,(e3.ok.1 j hj').2,λb k hf=>e3.cS b k ⟨j,hj',hf⟩,λv r p e=>Dz (by rw[<-e];exact e3.rf j hj')⟩
   ·rw[z6,hl,hval,<-e2];simp only[C.val,cP];rfl
   ·obtain⟨x,hx,hf⟩:=(rD _ _ _).1 hf;exact(hm x hx).2.2 b q hf
  |ref v r p=>
   rw[hx] at hg e2 e3;refine R6 h hn [.ref v r p] (λx hx=>?_) (λl=>l.headD (.dead undef)) (λl=>l.headD .dead) (λl hl=>?_) (λl hl=>?_) (λl hl hm=>?_) hg;·obtain rfl:=fC.1 hx;exact⟨MY e3.rf,trivial,λb k hf=>hf,λv' r' p' e=>by cases e;exact Dz e3.rf⟩
   ·cases l with
    |nil=>simp at hl
    |cons x l=>rfl
   ·cases l with
    |nil=>simp at hl
    |cons x l=>
     have:x.val=v:=by have:=dz List.head? hl;simpa [C.val] using this
     show x.val=_;rw[this,hval,<-e2];rfl
   ·cases l with
    |nil=>simp at hl
    |cons x l=>obtain⟨a1,a2,a3⟩:=hm x (bD ..);exact⟨a2,a3,λG=>C.oW a1 G⟩
  |_=>rw[hx] at hg;simp only[C.er,dP] at hg;subst hg;exact⟨G,zl,h⟩
def ahp(h:St c G zl s a w){d sz:Nat}{fz agg:Bool}{ty:TypeId}{x:AV}{x':Operand}(ho:o.op=.load ty x')(hsz:∃i,P.info? ty=some i/\i.size=sz)(nD:∃dd,P.underlying ty=some dd/\(match dd with|.struct _=>true|.array _ _=>true|_=>false)=agg)
  (h1:agg=true\/sz=1)(hd:o.dst=some d)(hn:d<c.nt)(hx:aQ x' x=true)
  (hK:aT P (.lT d fz sz agg x) s K):dM P c o a w K:=by obtain⟨cs,k1,k2,s',k3,k4⟩:=hK;obtain⟨v,hr,G1,tV,s1,q1,q2⟩:=Uh (K:=λt=>t=put d (bif agg then .agg (cs.take sz) else cs.headD .dead) s) h ho hsz nD h1 hd hn hx ⟨cs,k1,k2,rfl⟩;subst q1;obtain⟨G2,tW,h2⟩:=ad2 q2 hn k3;exact⟨v,hr,G2,tW,s',k4,h2⟩
end
end M
namespace M
open Go Go.RowKit
variable [Bs]
section
variable {P:Program}{c:Ctx}{G:Nat->C}{zl:Nat->Nat->Prop}{s:ah}{a:Act}{w:World}{o:Oper}{K:ah->Prop}
def rB(P:Program)(c:Ctx)(o:Oper)(a:Act)(w:World)(K:ah->Prop)(q:Bool):Prop:=
 ∃f args,(execOp a.eval o).run P w=.ok (.enter f args) w/\Calls P f args w λe w'=>∃v,e=.returned v/\Rel q w w'/\∃G' aH s',K s'/\St c G' aH s' (a.put o.dst v) w'
def M6{f:FuncId}{fn:Func}(hf:P.funcs[f]?=some fn)(hname:(fn.name== "runtime.NumGoroutine")=false) (hb:fn.body.isNone=false) (args:Array Value) (w:World):(callFunc f args).run P w=.ok (.enter f args) w:=by simp only[callFunc,Sem.run_bind,run_program,Result.andThen_ok,hf,hname,hb,fD,dQ,Sem.run_pure]
def St.result{aH:Nat->Nat->Prop}(h:St c G aH s a w){x:C}(d:Option Nat)(hn:∀n,d=some n->n<c.nt)(hok:x.ok w (Zf aH λ_ _=>False))(hb:x.bare)(hsep:∀t b k,x.fp b k->¬(G t).fp b k)(hfz:∀b k,x.fp b k->¬aH b k/\¬c.zb b k)
  (hdom:∀b k,x.fp b k->c.F0 b k\/c.w0.heap.size<=b):∃G',St c G' aH (fS d x.er s) (a.put d x.val) w:=by
 cases d with
 |none=>exact⟨G,h⟩
 |some n=>
  refine h.put (hn n rfl) (C.gM (λm b k hz=>?_) _ hok) (λt _=>hsep t) hfz (C.rI G _ hb) hdom;cases m with
  |own=>exact hz
  |sl=>exact hz
  |af=>exact hz.imp id λh=>h.elim
def St.after{aH:Nat->Nat->Prop}{w':World}{G1:Nat->C}{s1:ah}{S:Nat->Nat->Prop}(h:St c G zl s a w)(hi:Inv w' aH c.zb G1 s1)(hv:∀t,(G1 t).val=(G t).val)(hE:Ext S w w')(hS:∀b k,S b k->∃t,(G t).fp b k)
  (hd:∀t b k,(G1 t).fp b k->(∃u,(G u).fp b k)\/w.heap.size<=b)(hz1:∀b k,zl b k->aH b k)(hz2:∀b k,aH b k->zl b k\/(∃t,(G t).fp b k)\/w.heap.size<=b):St c G1 aH s1 a w' where
 inv:=hi
 val:=λt ht=>(hv t).trans (h.val t ht)
 size:=h.size
 small:=h.small
 defers:=h.defers
 tr:=⟨h.tr.ext.trans hE (λb k hs hb=>by
   obtain⟨t,ht⟩:=hS b k hs;rcases h.tr.dom t b k ht with hh|hh;·exact hh
   ·omega),λt b k hf=>by
   rcases hd t b k hf with ⟨u,hu⟩|hb;·exact h.tr.dom u b k hu
   ·exact .inr (jF h.tr.ext.size hb),λb k hz=>hz1 b k (h.tr.pT b k hz),λb k hz=>by
   rcases hz2 b k hz with hz|⟨t,ht⟩|hb;·exact h.tr.zl b k hz
   ·exact .inr (h.tr.dom t b k ht)
   ·exact .inr (.inr (jF h.tr.ext.size hb)),h.tr.gl,h.tr.AH⟩
 args:=λi v hi=>(hv _).trans (h.args i v hi)
def St.KW(h:St c G zl s a w)(bM:Nat->Nat->Prop)(hz:∀b k,c.zb b k->bM b k):D8 w zl bM:=λb hb=>by
 obtain⟨h1,h2⟩:=h.tr.gl b hb;refine⟨?_,λk=>(h2 k).imp (h.tr.pT b k) (hz b k)⟩;rw[<-h1]
 have hlt:b<c.w0.heap.size:=by
  rcases fV b c.w0.heap.size with h|h;·exact h
  ·rw[lB h] at h1;have:=Array.getElem?_eq_none_iff.1 h1.symm;omega
 rcases h.tr.ext.block b hlt with e|⟨arr,fX,t,fz,e1,e2,e3,e4⟩;·exact e
 ·have:fX=arr:=by apply Jn;intro i;exact e4 i (h.tr.AH b i hb)
  rw[e1,e2,this]
def IP{G1:Nat->C}{s1:ah}{l:List C}(h:St c G zl s a w)(hT:bP w zl c.zb G l G1 s1):St c G1 zl s1 a w:=
 h.move hT.inv hT.val (Ext.refl (λ_ _=>False) w) (λ_ _ hs=>hs.elim) (λt b k hf=>.inl ⟨t,hT.mono t b k hf⟩)
structure tX (P:Program) (c:Ctx) (zl:Nat->Nat->Prop) (o:Oper) (a:Act) (w:World) (l':List Operand) (f:FuncId) (fv:Option AV):Prop where
 run:∃pZ:List Value,(execOp a.eval o).run P w=.ok (.enter f ((l'.map a.eval)++pZ).toArray) w/\
  ∀{G2:Nat->C} {s2:ah} {bM:Nat->Nat->Prop},St c G2 zl s2 a w->(∀b k,c.zb b k->bM b k)->(∀t b k,(G2 t).fp b k->bM b k)->rN s2 fv f->∃l:List C,l.map C.er=oz s2 fv/\l.map C.val=pZ/\∀x∈l,fW w zl bM x
def jy:List (AV×PM)->Bool
 |[]=>true
 |(_,.af)::l=>jy l
 |(_,.jI _)::l=>jy l
 |_::_=>false
def Mv:∀{l:List (AV×PM)} (s:ah),jy l=true->∀x∈(bZ l s).1,x=.dead
 |[],s,_,x,hx=>by cases hx
 |(_,.af)::l,s,h,x,hx=>(b9.1 hx).elim id (Mv (l:=l) s h x)
 |(_,.jI _)::l,s,h,x,hx=>(b9.1 hx).elim id (Mv (l:=l) s h x)
 |(_,.mv)::l,s,h,x,hx=>by cases h
 |(_,.mut _)::l,s,h,x,hx=>by cases h
def ya:∀{l:List (AV×PM)},jy l=true->dS l=none
 |[],_=>rfl
 |(_,.af)::l,h=>ya (l:=l) h
 |(_,.jI _)::l,h=>ya (l:=l) h
 |(_,.mv)::l,h=>by cases h
 |(_,.mut _)::l,h=>by cases h
def QT(q:Bool)(h:St c G zl s a w){l':List Operand}{as:List (AV×PM)}(hc:gV l' as=true)(hno:dS as=none){f:FuncId}{fv:Option AV}(hop:tX P c zl o a w l' f fv)(hq:q=true->jy as=true)(hn:∀n,o.dst=some n->n<c.nt)(hK:um P f o.dst as fv s K):rB P c o a w K q:=by
 obtain⟨k1,k2⟩:=hK;rw[hno] at k2;obtain⟨k2,k3⟩:=k2;obtain⟨ms,G1,g1,g2,hT⟩:=GF hc h;obtain⟨pZ,hrun,AQ⟩:=hop.run;have h1:=IP h hT;rw[<-g1] at k1 k3;have jP:∀b k,c.zb b k->(c.zb b k\/∃t,(G1 t).fp b k):=λb k hz=>.inl hz;have sF:∀t b k,(G1 t).fp b k->(c.zb b k\/∃t,(G1 t).fp b k):=λt b k hf=>.inr ⟨t,hf⟩;obtain⟨l,l1,l2,l3⟩:=AQ (bM:=λb k=>c.zb b k\/∃t,(G1 t).fp b k) h1 jP sF k2
 have aeP:∀x∈ms,x.ok w (Zf zl λb k=>c.zb b k\/∃t,(G1 t).fp b k)/\x.bare/\∀b k,x.fp b k->¬(C.dead undef).fp b k:=λx hx=>by
  refine⟨C.gM (λm b k hz=>?_) _ (hT.all x hx).1,(C.mB x).1 (C.wO.1 k1 _ (kH hx)),λ_ _ _ h=>h⟩;cases m with
  |own=>exact hz
  |sl=>exact hz
  |af=>exact hz.imp id .inl
 obtain⟨cs,c1,c2,c3,c4⟩:=Ef (bM:=λb k=>c.zb b k\/∃t,(G1 t).fp b k) h1 jP sF (y:=.dead undef) trivial trivial hc g2 aeP hT.apart (λi x n x' hi _=>by
  exfalso
  have:∀{l:List (AV×PM)} {i:Nat},l[i]?=some (x,PM.mut n)->dS l≠none:=by
   intro l;induction l with
   |nil=>intro i hi;simp at hi
   |cons p l ih=>
    intro i hi;obtain⟨y,pm⟩:=p;cases i with
    |zero=>simp only[zR,dP,jU] at hi;obtain⟨_,rfl⟩:=hi;simp[dS]
    |succ i=>have:=ih (by simpa using hi);cases pm<;>simp[dS]<;>first|exact this|skip
  exact this hi hno)
 have cC:∀x∈cs++l,∀b k,x.fp b k->∃m∈ms,m.fp b k:=λx hx b k hf=>by
  rcases dy.1 hx with hx|hx
  ·rcases(c3 x hx).2.2 b k hf with hh|hh;·exact hh
   ·exact hh.2.elim
  ·exact((l3 x hx).cS b k hf).elim
 have hA:ry w zl (λb k=>c.zb b k\/∃t,(G1 t).fp b k) (cs++l):={
  ok:=λx hx=>(dy.1 hx).elim (λhx=>(c3 x hx).1) λhx=>(l3 x hx).ok
  bare:=λx hx=>(dy.1 hx).elim (λhx=>(c3 x hx).2.1) λhx=>(l3 x hx).bare
  fz:=λx hx b k hf=>by obtain⟨m,hm,hf⟩:=cC x hx b k hf;exact⟨((hT.all m hm).2.2.1 b k hf).1,λhz=>hz.elim ((hT.all m hm).2.2.1 b k hf).2 λ⟨t,ht⟩=>(hT.all m hm).2.1 t b k hf ht⟩
  cJ:=λb k hz=>by
   rcases hz with hz|hz|⟨t,ht⟩;·exact hT.inv.cJ b k (.inl hz)
   ·exact hT.inv.cJ b k (.inr hz)
   ·exact C.fF _ (hT.inv.ok t) b k ht
  apart:=tL.2 ⟨c4,rF λx hx=>(l3 x hx).cS,λx _ y hy b k _ hf=>(l3 y hy).cS b k hf⟩}
 have sx:=k3 w zl _ (cs++l) (by rw[jg,c1,l1];rfl) hA (h.KW _ λb k hz=>.inl hz);have uR:(cs++l).map C.val=l'.map a.eval++pZ:=by rw[jg,c2,l2]
 rw[uR] at sx;refine⟨f,_,hrun,sx.mono ?_⟩;rintro e w' ⟨r,ps,aH,hD,hk⟩;have hin:∀b k,aH b k->b<w'.heap.size:=λb k hz=>hD.all.cJ b k (.inl hz);have kW:∀b k,(∃m∈ms,m.fp b k)->(∀t,¬(G1 t).fp b k)/\¬zl b k/\¬c.zb b k:=λb k ⟨m,hm,hf⟩=>⟨λt=>(hT.all m hm).2.1 t b k hf,(hT.all m hm).2.2.1 b k hf⟩;have kg:∀b k,(∃x∈cs++l,x.fp b k)->∃m∈ms,m.fp b k:=λb k ⟨x,hx,hf⟩=>cC x hx b k hf;have Bg:∀b k,aH b k->zl b k\/(∃m∈ms,m.fp b k)\/w.heap.size<=b:=λb k hz=>(hD.tW b k hz).imp id λhh=>hh.imp (kg b k) id
 have hi:=hT.inv.PV hD.ext (λb k hs=>kW b k (kg b k hs)) hD.tV (λb k hz=>⟨hin b k hz,λt hf=>by
  rcases Bg b k hz with hz|hm|hb;·exact(hT.inv.fz t b k hf).1 hz
  ·exact(kW b k hm).1 t hf
  ·have:=C.fF _ (hT.inv.ok t) b k hf;omega⟩)
 have gG:∀b k,(∃m∈ms,m.fp b k)->∃t,(G t).fp b k:=λb k ⟨m,hm,hf⟩=>(hT.all m hm).2.2.2 b k hf;have h2:St c G1 aH (bZ as s).2 a w':=h.after hi hT.val hD.ext (λb k hs=>gG b k (kg b k hs)) (λt b k hf=>.inl ⟨t,hT.mono t b k hf⟩) hD.tV (λb k hz=>(Bg b k hz).imp id λhh=>hh.imp (gG b k) id);have hrd:∀b k,r.fp b k->(∃m∈ms,m.fp b k)\/w.heap.size<=b:=λb k hf=>(hD.dom r (bD ..) b k hf).imp (kg b k) id
 obtain⟨G3,h3⟩:=h2.result (x:=r) o.dst hn (hD.all.ok r (bD ..)) (hD.all.bare r (bD ..)) (λt b k hf hf'=>by
   rcases hrd b k hf with hm|hb;·exact(kW b k hm).1 t hf'
   ·have:=C.fF _ (hT.inv.ok t) b k hf';omega) (λb k hf=>⟨(hD.all.fz r (bD ..) b k hf).1,λhz=>by
   rcases hrd b k hf with hm|hb;·exact(kW b k hm).2.2 hz
   ·have:=hT.inv.cJ b k (.inr hz);omega⟩) (λb k hf=>by
   rcases hrd b k hf with hm|hb;·obtain⟨t,ht⟩:=gG b k hm;exact h.tr.dom t b k ht
   ·exact .inr (jF h.tr.ext.size hb))
 refine⟨r.val,hD.ends,λLs=>hD.ext.mono λb k hs _=>?_,G3,aH,_,hk,h3⟩;obtain⟨m,hm,hf⟩:=kg b k hs;have hd:=Mv s (hq Ls) m.er (by rw[<-g1];exact kH hm);cases m<;>first|exact hf|(simp[C.er] at hd)
end
end M
namespace M
open Go Go.RowKit
variable [Bs]
structure eY (w w':World) (zl aH zb:Nat->Nat->Prop) (G:Nat->C) (r:Nat) (p:Path) (D y q:C) (S M:Nat->Nat->Prop):Prop where
 sub:(G r).sub p=some D
 yD:∀b k,y.fp b k->D.fp b k
 ext:Ext S w w'
 sL:∀b k,S b k->M b k\/y.fp b k
 yh:∀b k,M b k->(∀t,¬(G t).fp b k)/\¬zl b k/\¬zb b k
 GO:q.ok w' (Zf aH zb)
 bare:q.bare
 val:q.val=y.val
 fp:∀b k,q.fp b k->S b k\/w.heap.size<=b
 qz:∀b k,q.fp b k->¬aH b k
 z1:∀b k,zl b k->aH b k
 z2:∀b k,aH b k->zl b k\/S b k\/w.heap.size<=b
 cJ:∀b k,aH b k->b<w'.heap.size
section
variable {w w':World}{zl aH zb:Nat->Nat->Prop}{G:Nat->C}{s:ah}{r:Nat}{p:Path}{D y q:C}{S M:Nat->Nat->Prop}
def eY.DG(h:eY w w' zl aH zb G r p D y q S M)(hi:Inv w zl zb G s){b k:Nat}(hf:D.fp b k):(G r).fp b k:=C.gQ p h.sub (hi.ok r) hf
def eY.notM(h:eY w w' zl aH zb G r p D y q S M)(hi:Inv w zl zb G s){b k:Nat}(hf:D.fp b k):¬M b k:=λhm=>(h.yh b k hm).1 r (h.DG hi hf)
def eY.T3(h:eY w w' zl aH zb G r p D y q S M)(hi:Inv w zl zb G s){b k:Nat}(hf:D.fp b k):¬w.heap.size<=b:=λhb=>by have:=C.fF _ (hi.ok r) b k (h.DG hi hf);omega
def eY.qD(h:eY w w' zl aH zb G r p D y q S M)(hi:Inv w zl zb G s){b k:Nat}(hq:q.fp b k)(hf:D.fp b k):y.fp b k:=by
 rcases h.fp b k hq with hs|hb;·exact(h.sL b k hs).resolve_left (h.notM hi hf)
 ·exact(h.T3 hi hf hb).elim
def eY.zD(h:eY w w' zl aH zb G r p D y q S M)(hi:Inv w zl zb G s){b k:Nat}(hz:aH b k)(hf:D.fp b k):y.fp b k:=by
 rcases h.z2 b k hz with hz|hs|hb;·exact((hi.fz r b k (h.DG hi hf)).1 hz).elim
 ·exact(h.sL b k hs).resolve_left (h.notM hi hf)
 ·exact(h.T3 hi hf hb).elim
def eY.SD(h:eY w w' zl aH zb G r p D y q S M)(hi:Inv w zl zb G s){b k:Nat}(hs:S b k)(hf:D.fp b k):y.fp b k:=(h.sL b k hs).resolve_left (h.notM hi hf)
def eY.Z(h:eY w w' zl aH zb G r p D y q S M)(hi:Inv w zl zb G s):∀m b k,Zf zl zb m b k->¬S b k:=λm b k hz hs=>by
 rcases h.sL b k hs with hm|hy
 ·obtain⟨_,a1,a2⟩:=h.yh b k hm;cases m with
  |own=>exact hz
  |sl=>exact a1 hz
  |af=>exact hz.elim a1 a2
 ·exact hi.zU r m b k hz (h.DG hi (h.yD b k hy))
def eY.mono(h:eY w w' zl aH zb G r p D y q S M):∀m b k,Zf zl zb m b k->Zf aH zb m b k:=λm b k hz=>by
 cases m with
 |own=>exact hz
 |sl=>exact h.z1 b k hz
 |af=>exact hz.imp (h.z1 b k) id
def eY.back(h:eY w w' zl aH zb G r p D y q S M)(hi:Inv w zl zb G s){d0:C}(hok:d0.ok w' (Zf aH zb))(hF:C.gB D d0)(hl:C.iy D d0)(hrf:(d0.aE (C.belows r p)).rf λt=>(G t).aE (C.belows r p))(cC:∀b k,d0.fp b k->q.fp b k\/(D.fp b k/\¬y.fp b k))(hz:∀b k,d0.fp b k->¬aH b k):
  ∃G',Inv w' aH zb G' (iI r p d0.er s)/\(∀t,(G' t).val=(G t).val)/\∀t b k,(G' t).fp b k->q.fp b k\/((∃u,(G u).fp b k)/\¬y.fp b k):=by
 have h1:=hi.e9 r p;have hs1:((G r).aE (C.belows r p)).sub p=some (D.aE (C.belows r p)):=C.jv _ p _ _ (hi.ok r) h.sub;have AY:∀t b k,((G t).aE (C.belows r p)).fp b k↔(G t).fp b k:=λt b k=>C.cO _ _ b k
 have hFB:C.gB (D.aE (C.belows r p)) (d0.aE (C.belows r p)):=by
  cases hF with
  |row=>exact .row ..
  |ptr=>exact .ptr ..
 have sA:C.iy (D.aE (C.belows r p)) (d0.aE (C.belows r p)):=by
  cases hF with
  |row m m' sz A len cap e e'=>exact⟨rfl,λh=>h,λh=>h,λh=>h,hl.fits⟩
  |ptr m m' g o n c c'=>exact⟨rfl,λh=>h,λh=>h,λh=>h,hl.fits⟩
 obtain⟨i1,i2,i3⟩:=h1.JP r p (λt=>C.gL _ _) hs1 hFB sA ⟨hrf,C.gL _ _⟩ h.ext (λb k hs=>by
   rcases h.sL b k hs with hm|hy;·obtain⟨a1,a2,a3⟩:=h.yh b k hm;exact .inr ⟨λt hf=>a1 t ((AY t b k).1 hf),a2,a3⟩
   ·exact .inl ((C.cO _ D b k).2 (h.yD b k hy))) (C.mU _ _ hok) h.z1 (λb k uS=>⟨λhf=>hz b k ((C.cO _ d0 b k).1 hf) uS,h.cJ b k uS,λt hf=>by
   refine(C.cO _ D b k).2 ?_;have hf:=(AY t b k).1 hf;rcases h.z2 b k uS with fG|hs|hb;·exact((hi.fz t b k hf).1 fG).elim
   ·rcases h.sL b k hs with hm|hy;·exact((h.yh b k hm).1 t hf).elim
    ·exact h.yD b k hy
   ·have:=C.fF _ (hi.ok t) b k hf;omega⟩) (λb k hf=>by
   rcases(cC b k ((C.cO _ d0 b k).1 hf)).symm with hf|hf;·exact .inl ((C.cO _ D b k).2 hf.1)
   ·rcases h.fp b k hf with hs|hb
    ·rcases h.sL b k hs with hm|hy;·obtain⟨a1,a2,a3⟩:=h.yh b k hm;exact .inr ⟨λt hf=>a1 t ((AY t b k).1 hf),a3⟩
     ·exact .inl ((C.cO _ D b k).2 (h.yD b k hy))
    ·exact .inr ⟨λt hf=>by have:=C.fF _ (hi.ok t) b k ((AY t b k).1 hf);omega,λhz=>by have:=hi.cJ b k (.inr hz);omega⟩)
 rw[C.xR] at i1;refine⟨_,i1,λt=>(i2 t).trans (C.jw _ _),λt b k hf=>?_⟩;rcases i3 t b k hf with hf|hf
 ·rcases cC b k ((C.cO _ d0 b k).1 hf) with hf|hf;·exact .inl hf
  ·exact .inr ⟨⟨r,h.DG hi hf.1⟩,hf.2⟩
 ·exact .inr ⟨⟨t,(AY t b k).1 hf.1⟩,λhy=>hf.2 ((C.cO _ D b k).2 (h.yD b k hy))⟩
end
end M
namespace M
open Go Go.RowKit
variable [Bs]
def Vd{α:Type}(f g:Nat->α){nn c n:Nat}(h:c+n<=nn):((List.range nn).map λj=>if c<=j/\j<c+n then g (j - c) else f j)=((List.range nn).map f).take c++(List.range n).map g++((List.range nn).map f).drop (c+n):=by
 apply gy;intro i;rw[C.de];have SW:(((List.range nn).map f).take c).length=c:=by simp;omega
 have kr:(((List.range nn).map f).take c++(List.range n).map g).length=c+n:=by rw[eu,SW];simp
 by_cases h0:i<nn
 ·rw[ax h0];by_cases h1:i<c;·rw[aF (by omega),kK (by omega),kK (by omega),Ph h1,C.de,ax h0]
  ·by_cases h2:i<c+n;·rw[ax ⟨by omega,h2⟩,kK (by omega),iM (by omega),SW,C.de,ax (by omega)]
   ·rw[aF (by omega),iM (by omega),kr,pS,C.de,show c+n+(i - (c+n))=i by omega,ax h0]
 ·rw[aF h0,iM (by omega),kr,pS,C.de,aF (by omega)]
section
variable {w w':World}{zl aH zb:Nat->Nat->Prop}{G:Nat->C}{s:ah}{r:Nat}{p:Path}{S M:Nat->Nat->Prop}
def eY.ptr{g o nn n c:Nat}{f qf:Nat->C}(h:eY w w' zl aH zb G r p (.ptr .own g o nn f) (.ptr .own g (o+c) n λj=>f (j+c)) (.ptr .own g (o+c) n qf) S M)(hi:Inv w zl zb G s)(hn:c+n<=nn):
  ∃G',Inv w' aH zb G' (iI r p (.ptr .own (((List.range nn).map λj=>(f j).er).take c++((List.range n).map λj=>(qf j).er)++((List.range nn).map λj=>(f j).er).drop (c+n))) s)/\(∀t,(G' t).val=(G t).val)/\∀t b k,(G' t).fp b k->(C.ptr .own g (o+c) n qf).fp b k\/((∃u,(G u).fp b k)/\¬(C.ptr .own g (o+c) n λj=>f (j+c)).fp b k):=by
 obtain⟨D1,D2,D3,D4⟩:=C.iu p h.sub (hi.ok r);obtain⟨q1,q2,q3,q4⟩:=h.GO;have nF:∀j,j<n->∀b k,(qf j).fp b k->(C.ptr .own g (o+c) n qf).fp b k:=λj hj b k hf=>C.kY (q3 j hj).1 (q3 j hj).2.1 hj hf;have nC:∀j,j<nn->∀b k,(f j).fp b k->(C.ptr .own g o nn f).fp b k:=λj hj b k hf=>C.kY (D3 j hj).1 (D3 j hj).2.1 hj hf;have qh:∀k,o<=k->k<o+nn->(C.ptr .own g o nn f).fp g k:=λk h1 h2=>⟨rfl,.inl ⟨rfl,h1,h2⟩⟩
 have mL:∀k,o<=k->k<o+nn->(C.ptr .own g (o+c) n λj=>f (j+c)).fp g k->o+c<=k/\k<o+c+n:=λk h1 h2 ⟨_,hf⟩=>by
  rcases hf with hf|⟨j,hj,hf⟩;·exact hf.2
  ·exact((D4 (j+c) (by omega) g k hf).1 rfl ⟨rfl,h1,h2⟩).elim
 have nH:∀j,j<nn->¬(c<=j/\j<c+n)->∀b k,(f j).fp b k->¬(C.ptr .own g (o+c) n λj=>f (j+c)).fp b k:=λj hj hne b k hf ⟨_,hf'⟩=>by
  rcases hf' with hf'|⟨j',hj',hf'⟩;·exact(D4 j hj b k hf).1 rfl ⟨hf'.1,by omega,by omega⟩
  ·exact(D4 j hj b k hf).2 (j'+c) (by omega) (by omega) hf'
 let d:Nat->C:=λj=>if c<=j/\j<c+n then qf (j - c) else f j
 have iO:∀j,c<=j/\j<c+n->d j=qf (j - c):=λj hj=>ax hj;have iP:∀j,¬(c<=j/\j<c+n)->d j=f j:=λj hj=>aF hj
 have hok:(C.ptr .own g o nn d).ok w' (Zf aH zb):=by
  refine⟨λj hj=>⟨?_,λhm=>(hm rfl).elim,λ_=>(h.ext.frozen D2).trans ((D1 j hj).2.2 rfl)⟩,lg D2 h.ext.size,λj hj=>?_,λj hj b k hf=>⟨λ_ hb=>?_,λj' hj' hne=>?_⟩⟩
  ·by_cases hr:c<=j/\j<c+n;·rw[iO j hr];have:=(q1 (j - c) (by omega)).1;rwa [show o+c+(j - c)=o+j by omega] at this
   ·rw[iP j hr];exact h.ext.cell (λhs=>hr (by have:=mL (o+j) (by omega) (by omega) (h.SD hi hs (qh _ (by omega) (by omega)));omega)) (D1 j hj).1
  ·by_cases hr:c<=j/\j<c+n;·rw[iO j hr];obtain⟨a1,a2,a3⟩:=q3 (j - c) (by omega);exact⟨a1,a2,a3⟩
   ·rw[iP j hr];obtain⟨a1,a2,a3⟩:=D3 j hj;exact⟨a1,a2,C.gM h.mono _ (C.fI h.ext (h.Z hi) _ (λb k hf hs=>nH j hj hr b k hf (h.SD hi hs (nC j hj b k hf))) a3)⟩
  ·obtain⟨rfl,jO,iR⟩:=hb;by_cases hr:c<=j/\j<c+n;·rw[iO j hr] at hf;have:=mL k jO iR (h.qD hi (nF _ (by omega) _ _ hf) (qh k jO iR));exact(q4 (j - c) (by omega) _ k hf).1 rfl ⟨rfl,this.1,this.2⟩
   ·rw[iP j hr] at hf;exact(D4 j hj _ k hf).1 rfl ⟨rfl,jO,iR⟩
  ·by_cases hr:c<=j/\j<c+n
   ·rw[iO j hr] at hf;by_cases hr':c<=j'/\j'<c+n;·rw[iO j' hr'];exact(q4 (j - c) (by omega) b k hf).2 (j' - c) (by omega) (by omega)
    ·rw[iP j' hr'];exact λhf'=>nH j' hj' hr' b k hf' (h.qD hi (nF _ (by omega) _ _ hf) (nC j' hj' b k hf'))
   ·rw[iP j hr] at hf;by_cases hr':c<=j'/\j'<c+n;·rw[iO j' hr'];exact λhf'=>nH j hj hr b k hf (h.qD hi (nF _ (by omega) _ _ hf') (nC j hj b k hf))
    ·rw[iP j' hr'];exact(D4 j hj b k hf).2 j' hj' hne
 have aef:=Inv.wh.Dr p ((hi.e9 r p).ok r) (C.jv (C.belows r p) p _ _ (hi.ok r) h.sub) ((hi.e9 r p).rf r)
 obtain⟨G',i1,i2,i3⟩:=h.back hi (d0:=.ptr .own g o nn d) hok (.ptr ..) ⟨rfl,λh=>h,λh=>h,λh=>h,λ_ h=>h⟩ (λj hj=>by
   by_cases hr:c<=j/\j<c+n;·show ((d j).aE _).rf _;rw[iO j hr];exact C.nT _ _ (C.rI _ _ (h.bare (j - c) (by omega)))
   ·show ((d j).aE _).rf _;rw[iP j hr];exact aef j hj) (λb k hf=>by
   obtain⟨_,hf|⟨j,hj,hf⟩⟩:=hf
   ·obtain⟨rfl,h1,h2⟩:=hf;by_cases hr:o+c<=k/\k<o+c+n;·exact .inl ⟨rfl,.inl ⟨rfl,hr.1,hr.2⟩⟩
    ·exact .inr ⟨qh k h1 h2,λhy=>hr (mL k h1 h2 hy)⟩
   ·by_cases hr:c<=j/\j<c+n;·rw[iO j hr] at hf;exact .inl (nF _ (by omega) _ _ hf)
    ·rw[iP j hr] at hf;exact .inr ⟨nC j hj b k hf,nH j hj hr b k hf⟩) (λb k hf hz=>by
   obtain⟨_,hf|⟨j,hj,hf⟩⟩:=hf;·obtain⟨rfl,h1,h2⟩:=hf;have:=mL k h1 h2 (h.zD hi hz (qh k h1 h2));exact h.qz _ k ⟨rfl,.inl ⟨rfl,this.1,this.2⟩⟩ hz
   ·by_cases hr:c<=j/\j<c+n;·rw[iO j hr] at hf;exact h.qz b k (nF _ (by omega) _ _ hf) hz
    ·rw[iP j hr] at hf;exact nH j hj hr b k hf (h.zD hi hz (nC j hj b k hf)))
 have kT:(C.ptr .own g o nn d).er=.ptr .own (((List.range nn).map λj=>(f j).er).take c++((List.range n).map λj=>(qf j).er)++((List.range nn).map λj=>(f j).er).drop (c+n)):=by rw[<-Vd (λj=>(f j).er) (λj=>(qf j).er) hn];simp only[C.er];congr 1;refine cm λj _=>?_;show (if _ then _ else _:C).er=_;split<;>rfl
 rw[kT] at i1;exact⟨G',i1,i2,i3⟩
def eY.row{z len cap:Nat}{A:Option Ad}{e qe:Nat->Nat->C}(h:eY w w' zl aH zb G r p (.row .own z A len cap e) (.row .own z A len cap e) (.row .own z A len cap qe) S M)(hi:Inv w zl zb G s):
  ∃G',Inv w' aH zb G' (iI r p (.row .own z (dL z len qe)) s)/\(∀t,(G' t).val=(G t).val)/\∀t b k,(G' t).fp b k->(C.row .own z A len cap qe).fp b k\/((∃u,(G u).fp b k)/\¬(C.row .own z A len cap e).fp b k):=
 h.back hi (d0:=.row .own z A len cap qe) h.GO (.row ..) ⟨rfl,λh=>h,λh=>h,λh=>h,λ_ h=>h⟩ trivial (λb k hf=>.inl hf) (λb k hf=>h.qz b k hf)
def eY.elem{z g o len cap n c i:Nat}{e:Nat->Nat->C}{qf:Nat->C}(h:eY w w' zl aH zb G r p (.row .own z (some (g,o,none)) len cap e) (.ptr .own g (o+i*z+c) n λj=>e i (j+c)) (.ptr .own g (o+i*z+c) n qf) S M)(hi:Inv w zl zb G s)(AZ:i<len)(hn:c+n<=z)(hqs:∀j,j<n->(qf j).cU):
  ∃G',Inv w' aH zb G' (iI r p (.row .own z ((dL z len e).set i (((List.range z).map λj=>(e i j).er).take c++((List.range n).map λj=>(qf j).er)++((List.range z).map λj=>(e i j).er).drop (c+n)))) s)/\(∀t,(G' t).val=(G t).val)/\∀t b k,(G' t).fp b k->(C.ptr .own g (o+i*z+c) n qf).fp b k\/((∃u,(G u).fp b k)/\¬(C.ptr .own g (o+i*z+c) n λj=>e i (j+c)).fp b k):=by
 obtain⟨D1,D2,D3,D4,D5⟩:=C.iu p h.sub (hi.ok r);obtain⟨q1,q2,q3,q4⟩:=h.GO;have nF:∀j,j<n->∀b k,(qf j).fp b k->(C.ptr .own g (o+i*z+c) n qf).fp b k:=λj hj b k hf=>C.kY (q3 j hj).1 (q3 j hj).2.1 hj hf;have nC:∀i' j,i'<len->j<z->∀b k,(e i' j).fp b k->(C.row .own z (some (g,o,none)) len cap e).fp b k:=λi' j hi' hj b k hf=>C.kz (D3 i' j hi' hj).1 (D3 i' j hi' hj).2.2.1 hi' hj hf;have qh:∀k,(C.row .own z (some (g,o,none)) len cap e).fp g k:=λk=>⟨rfl,.inl ⟨o,rfl⟩⟩
 have mL:∀k,(C.ptr .own g (o+i*z+c) n λj=>e i (j+c)).fp g k->o+i*z+c<=k/\k<o+i*z+c+n:=λk ⟨_,hf⟩=>by
  rcases hf with hf|⟨j,hj,hf⟩;·exact hf.2
  ·exact((D5 i (j+c) AZ (by omega) g k hf).1 rfl o rfl).elim
 have nH:∀i' j,i'<len->j<z->¬(i'=i/\c<=j/\j<c+n)->∀b k,(e i' j).fp b k->¬(C.ptr .own g (o+i*z+c) n λj=>e i (j+c)).fp b k:=λi' j hi' hj hne b k hf ⟨_,hf'⟩=>by
  rcases hf' with hf'|⟨j',hj',hf'⟩;·exact(D5 i' j hi' hj b k hf).1 rfl o (by rw[hf'.1])
  ·exact(D5 i' j hi' hj b k hf).2 i (j'+c) AZ (by omega) (λe=>by simp only[jU] at e;exact hne ⟨e.1,by omega,by omega⟩) hf'
 let d:Nat->Nat->C:=λi' j=>if i'=i/\c<=j/\j<c+n then qf (j - c) else e i' j
 have iO:∀i' j,i'=i/\c<=j/\j<c+n->d i' j=qf (j - c):=λi' j hj=>ax hj;have iP:∀i' j,¬(i'=i/\c<=j/\j<c+n)->d i' j=e i' j:=λi' j hj=>aF hj
 have hok:(C.row .own z (some (g,o,none)) len cap d).ok w' (Zf aH zb):=by
  refine⟨D1,λi' j hi' hj=>⟨g,o,rfl,?_,λhm=>(hm rfl).elim⟩,λi' j hi' hj=>?_,λ_=>?_,λi' j hi' hj b k hf=>⟨λ_ o' hA=>?_,λi2 j2 hi2 hj2 hne=>?_⟩⟩
  ·by_cases hr:i'=i/\c<=j/\j<c+n;·rw[iO i' j hr];obtain⟨rfl,h1,h2⟩:=hr;have:=(q1 (j - c) (by omega)).1;rwa [show o+i'*z+c+(j - c)=o+i'*z+j by omega] at this
   ·rw[iP i' j hr];obtain⟨g',o',hA,hcl,_⟩:=D2 i' j hi' hj;injection hA with hA
    injection hA with e1 e2
    injection e2 with e2
    subst e1;subst e2;refine h.ext.cell (λhs=>hr ?_) hcl;have:=mL _ (h.SD hi hs (qh _));have hj0:o+i'*z+j - (o+i*z)<z:=by omega
    have:=MJ hj hj0 (show i'*z+j=i*z+(o+i'*z+j - (o+i*z)) by omega);exact⟨this.1,by omega,by omega⟩
  ·by_cases hr:i'=i/\c<=j/\j<c+n;·rw[iO i' j hr];obtain⟨a1,a2,a3⟩:=q3 (j - c) (by omega);exact⟨a1,hqs _ (by omega),a2,a3⟩
   ·rw[iP i' j hr];obtain⟨a1,a2,a3,a4⟩:=D3 i' j hi' hj;exact⟨a1,a2,a3,C.gM h.mono _ (C.fI h.ext (h.Z hi) _ (λb k hf hs=>nH i' j hi' hj hr b k hf (h.SD hi hs (nC i' j hi' hj b k hf))) a4)⟩
  ·rcases D4 rfl with ⟨hA,_⟩|⟨g',o',arr,t,fz,hA,hh,hsz,hfr⟩;·cases hA
   ·injection hA with hA
    injection hA with e1 e2
    injection e2 with e2
    subst e1;subst e2;have hg:g<w.heap.size:=(kL.1 hh).1;rcases h.ext.block g hg with e'|⟨a1,a2,t',mH,r1,r2,r3,r4⟩;·exact .inr ⟨g,o,arr,t,fz,rfl,e'.trans hh,hsz,λk hk hk'=>(h.ext.frozen hg).trans (hfr k hk hk')⟩
    ·rw[hh] at r1;injection r1 with r1
     injection r1 with s1 s2 s3
     subst s1;exact .inr ⟨g,o,a2,t',mH,rfl,r2,by omega,λk hk hk'=>(h.ext.frozen hg).trans (hfr k hk hk')⟩
  ·injection hA with hA
   injection hA with e1 e2
   subst e1;by_cases hr:i'=i/\c<=j/\j<c+n;·rw[iO i' j hr] at hf;have:=mL k (h.qD hi (nF _ (by omega) _ _ hf) (qh k));exact(q4 (j - c) (by omega) _ k hf).1 rfl ⟨rfl,this.1,this.2⟩
   ·rw[iP i' j hr] at hf;exact(D5 i' j hi' hj _ k hf).1 rfl o rfl
  ·by_cases hr:i'=i/\c<=j/\j<c+n
   ·rw[iO i' j hr] at hf;by_cases hr':i2=i/\c<=j2/\j2<c+n;·rw[iO i2 j2 hr'];exact(q4 (j - c) (by omega) b k hf).2 (j2 - c) (by omega) (λe=>hne (by simp only[jU];exact⟨by rw[hr.1,hr'.1],by omega⟩))
    ·rw[iP i2 j2 hr'];exact λhf'=>nH i2 j2 hi2 hj2 hr' b k hf' (h.qD hi (nF _ (by omega) _ _ hf) (nC i2 j2 hi2 hj2 b k hf'))
   ·rw[iP i' j hr] at hf;by_cases hr':i2=i/\c<=j2/\j2<c+n;·rw[iO i2 j2 hr'];exact λhf'=>nH i' j hi' hj hr b k hf (h.qD hi (nF _ (by omega) _ _ hf') (nC i' j hi' hj b k hf))
    ·rw[iP i2 j2 hr'];exact(D5 i' j hi' hj b k hf).2 i2 j2 hi2 hj2 hne
 obtain⟨G',i1,i2,i3⟩:=h.back hi (d0:=.row .own z (some (g,o,none)) len cap d) hok (.row ..) ⟨rfl,λh=>h,λh=>h,λh=>h,λ_ h=>h⟩ trivial (λb k hf=>by
   obtain⟨_,hf|⟨i',j,hi',hj,hf⟩⟩:=hf
   ·obtain⟨o',hA⟩:=hf;injection hA with hA
    injection hA with e1 e2
    subst e1;by_cases hr:o+i*z+c<=k/\k<o+i*z+c+n;·exact .inl ⟨rfl,.inl ⟨rfl,hr.1,hr.2⟩⟩
    ·exact .inr ⟨qh k,λhy=>hr (mL k hy)⟩
   ·by_cases hr:i'=i/\c<=j/\j<c+n;·rw[iO i' j hr] at hf;exact .inl (nF _ (by omega) _ _ hf)
    ·rw[iP i' j hr] at hf;exact .inr ⟨nC i' j hi' hj b k hf,nH i' j hi' hj hr b k hf⟩) (λb k hf hz=>by
   obtain⟨_,⟨o',hA⟩|⟨i',j,hi',hj,hf⟩⟩:=hf
   ·injection hA with hA
    injection hA with e1 e2
    subst e1;have:=mL k (h.zD hi hz (qh k));exact h.qz _ k ⟨rfl,.inl ⟨rfl,this.1,this.2⟩⟩ hz
   ·by_cases hr:i'=i/\c<=j/\j<c+n;·rw[iO i' j hr] at hf;exact h.qz b k (nF _ (by omega) _ _ hf) hz
    ·rw[iP i' j hr] at hf;exact nH i' j hi' hj hr b k hf (h.zD hi hz (nC i' j hi' hj b k hf)))
 have kT:(C.row .own z (some (g,o,none)) len cap d).er=.row .own z ((dL z len e).set i (((List.range z).map λj=>(e i j).er).take c++((List.range n).map λj=>(qf j).er)++((List.range z).map λj=>(e i j).er).drop (c+n))):=by
  rw[<-Vd (λj=>(e i j).er) (λj=>(qf j).er) hn];simp only[C.er];congr 1;symm;refine C.B3 _ _ len i _ λi' hi'=>?_;split;·rename_i hii;subst hii;refine cm λj _=>?_;show (if _ then _ else _:C).er=_;simp only[true_and];split<;>rfl
  ·rename_i hii;refine cm λj _=>?_;show (if _ then _ else _:C).er=_;rw[aF (λhh=>hii hh.1)]
 rw[kT] at i1;exact⟨G',i1,i2,i3⟩
end
end M
namespace M
open Go Go.RowKit
variable [Bs]
section
variable {P:Program}{c:Ctx}{G:Nat->C}{zl:Nat->Nat->Prop}{s:ah}{a:Act}{w:World}{o:Oper}{K:ah->Prop}
def Mw:∀{l':List Operand} {l:List (AV×PM)} {x:AV} {n:Nat},gV l' l=true->dS l=some (x,n)->∃i x',l[i]?=some (x,PM.mut n)/\l'[i]?=some x'/\aQ x' x=true/\(∀(j:Nat) (x2:AV) (n2:Nat),l[j]?=some (x2,PM.mut n2)->j=i)/\∀ps:List X,k7 l ps=ps.getD i .dead
 |[],[],x,n,_,h=>by cases h
 |V0::l',(x0,pm)::l,x,n,hc,h=>by
  simp only[gV,aB] at hc
  have other:dS l=some (x,n)->(∀n2,pm≠PM.mut n2)->(∀(y:X) ps,k7 ((x0,pm)::l) (y::ps)=k7 l ps)->(k7 ((x0,pm)::l) []=.dead)->∃i x',((x0,pm)::l)[i]?=some (x,PM.mut n)/\(V0::l')[i]?=some x'/\aQ x' x=true/\(∀(j:Nat) (x2:AV) (n2:Nat),((x0,pm)::l)[j]?=some (x2,PM.mut n2)->j=i)/\∀ps:List X,k7 ((x0,pm)::l) ps=ps.getD i .dead:=λhm hpm h1 h2=>by
   obtain⟨i,x',i1,i2,i3,i4,i5⟩:=Mw hc.2 hm;refine⟨i+1,x',by simpa using i1,by simpa using i2,i3,λj x2 n2 hj=>?_,λps=>?_⟩
   ·cases j with
    |zero=>simp only[zR,dP,jU] at hj;exact(hpm n2 hj.2).elim
    |succ j=>rw[i4 j x2 n2 (by simpa using hj)]
   ·cases ps with
    |nil=>rw[h2];rfl
    |cons y ps=>rw[h1,i5];rfl
  cases pm with
  |mv=>exact other h (λ_ e=>by cases e) (λ_ _=>rfl) rfl
  |af=>exact other h (λ_ e=>by cases e) (λ_ _=>rfl) rfl
  |jI m=>exact other h (λ_ e=>by cases e) (λ_ _=>rfl) rfl
  | «mut» m=>
   simp only[dS,dP,jU] at h;obtain⟨rfl,rfl⟩:=h;refine⟨0,V0,rfl,rfl,hc.1.1,λj x2 n2 hj=>?_,λps=>?_⟩
   ·cases j with
    |zero=>rfl
    |succ j=>
     exfalso;have hno:dS l=none:=by simpa using hc.1.2
     have:∀{l:List (AV×PM)} {i:Nat},l[i]?=some (x2,PM.mut n2)->dS l≠none:=by
      intro l;induction l with
      |nil=>intro i hi;simp at hi
      |cons p l ih=>
       intro i hi;obtain⟨y,pm⟩:=p;cases i with
       |zero=>simp only[zR,dP,jU] at hi;obtain⟨_,rfl⟩:=hi;simp[dS]
       |succ i=>have:=ih (by simpa using hi);cases pm<;>simp[dS]<;>first|exact this|skip
     exact this (by simpa using hj) hno
   ·cases ps<;>rfl
 |[],_::_,_,_,hc,_=>by cases hc
 |_::_,[],_,_,hc,_=>by cases hc
def Mx(h:St c G zl s a w){l':List Operand}{as:List (AV×PM)}(hc:gV l' as=true){x:AV}{n:Nat}(oF:dS as=some (x,n)){f:FuncId}{fv:Option AV}(hop:tX P c zl o a w l' f fv)(hn:∀n,o.dst=some n->n<c.nt)
  {ms:List C}{G1:Nat->C}{sm:ah}(hT:bP w zl c.zb G ms G1 sm)(g2:MV a l' as ms)(hmb:∀m∈ms,m.bare){r:Nat}{p:Path}{D y:C}(hsub:(G1 r).sub p=some D)(qo:y.ok w (Zf zl c.zb))(FE:y.bare)(oH:∀(i:Nat) (x':Operand),as[i]?=some (x,PM.mut n)->l'[i]?=some x'->y.val=a.eval x')(Lz:∀b k,y.fp b k->D.fp b k)
  (AQ:rN (jb r p .dead sm) fv f){back:X->(ah->Prop)->Prop}(hk:AC P f (gC (jb r p .dead sm) y.er as (ms.map C.er)++oz (jb r p .dead sm) fv) λq ps=>back (k7 as ps) λs'=>K (fS o.dst q s'))
  (aen:∀{w':World} {aH:Nat->Nat->Prop} {S M:Nat->Nat->Prop} {q:C},eY w w' zl aH c.zb G1 r p D y q S M->∀Kx,back q.er Kx->∃s',Kx s'/\∃G',Inv w' aH c.zb G' s'/\(∀t,(G' t).val=(G1 t).val)/\∀t b k,(G' t).fp b k->q.fp b k\/((∃u,(G1 u).fp b k)/\¬y.fp b k)):rB P c o a w K false:=by
 obtain⟨pZ,hrun,aeu⟩:=hop.run;have h1:=IP h hT;obtain⟨D',G2,t1,t2,t3,t4,t5,t6,t7,t8,t9,t10,t11,t12⟩:=h1.inv.wh r p D hsub;have h2:St c G2 zl (jb r p .dead sm) a w:=h1.move t3 t10 (Ext.refl (λ_ _=>False) w) (λ_ _ hs=>hs.elim) (λt b k hf=>.inl ⟨t,t11 t b k hf⟩);have aff:∀b k,y.fp b k->∀t,¬(G2 t).fp b k:=λb k hf t=>t8 t b k ((t12 b k).2 (Lz b k hf));have FD:∀b k,y.fp b k->(G1 r).fp b k:=λb k hf=>C.gQ p hsub (hT.inv.ok r) (Lz b k hf);have jP:∀b k,c.zb b k->(c.zb b k\/∃t,(G2 t).fp b k):=λb k hz=>.inl hz;have sF:∀t b k,(G2 t).fp b k->(c.zb b k\/∃t,(G2 t).fp b k):=λt b k hf=>.inr ⟨t,hf⟩;obtain⟨l,l1,l2,l3⟩:=aeu (bM:=λb k=>c.zb b k\/∃t,(G2 t).fp b k) h2 jP sF AQ
 have S4:∀m b k,Zf zl c.zb m b k->Zf zl (λb k=>c.zb b k\/∃t,(G2 t).fp b k) m b k:=λm b k hz=>by
  cases m with
  |own=>exact hz
  |sl=>exact hz
  |af=>exact hz.imp id .inl
 obtain⟨i,x',i1,i2,i3,i4,i5⟩:=Mw hc oF;have Tc:=oH i x' i1 i2
 obtain⟨cs,c1,c2,c3,c4⟩:=Ef (bM:=λb k=>c.zb b k\/∃t,(G2 t).fp b k) h2 jP sF (y:=y) (C.gM S4 _ qo) FE hc g2 (λx hx=>⟨C.gM S4 _ (hT.all x hx).1,hmb x hx,λb k hf hf'=>(hT.all x hx).2.1 r b k hf (FD b k hf')⟩) hT.apart (λj x2 n2 x2' hj hj'=>by
  have:=i4 j x2 n2 hj;subst this;rw[i2] at hj';injection hj' with hj'
  rw[<-hj'];exact Tc)
 have cC:∀x∈cs++l,∀b k,x.fp b k->(∃m∈ms,m.fp b k)\/y.fp b k:=λx hx b k hf=>by
  rcases dy.1 hx with hx|hx;·exact((c3 x hx).2.2 b k hf).imp id λhh=>hh.2
  ·exact((l3 x hx).cS b k hf).elim
 have kW:∀b k,(∃m∈ms,m.fp b k)->(∀t,¬(G1 t).fp b k)/\¬zl b k/\¬c.zb b k:=λb k ⟨m,hm,hf⟩=>⟨λt=>(hT.all m hm).2.1 t b k hf,(hT.all m hm).2.2.1 b k hf⟩
 have hA:ry w zl (λb k=>c.zb b k\/∃t,(G2 t).fp b k) (cs++l):={
  ok:=λx hx=>(dy.1 hx).elim (λhx=>(c3 x hx).1) λhx=>(l3 x hx).ok
  bare:=λx hx=>(dy.1 hx).elim (λhx=>(c3 x hx).2.1) λhx=>(l3 x hx).bare
  fz:=λx hx b k hf=>by
   rcases cC x hx b k hf with hm|hy;·obtain⟨a1,a2,a3⟩:=kW b k hm;exact⟨a2,λhz=>hz.elim a3 λ⟨t,ht⟩=>a1 t (t11 t b k ht)⟩
   ·have:=hT.inv.fz r b k (FD b k hy);exact⟨this.1,λhz=>hz.elim this.2 λ⟨t,ht⟩=>aff b k hy t ht⟩
  cJ:=λb k hz=>by
   rcases hz with hz|hz|⟨t,ht⟩;·exact hT.inv.cJ b k (.inl hz)
   ·exact hT.inv.cJ b k (.inr hz)
   ·exact C.fF _ (t3.ok t) b k ht
  apart:=tL.2 ⟨c4,rF λx hx=>(l3 x hx).cS,λx _ y hy b k _ hf=>(l3 y hy).cS b k hf⟩}
 have sx:=hk w zl _ (cs++l) (by rw[jg,c1,l1]) hA (h.KW _ λb k hz=>.inl hz);have uR:(cs++l).map C.val=l'.map a.eval++pZ:=by rw[jg,c2,l2]
 rw[uR] at sx;refine⟨f,_,hrun,sx.mono ?_⟩;rintro e w' ⟨r0,ps,aH,hD,hkk⟩;have AZ:i<ps.length:=by have h1:=dz List.length hD.vals;have h2:=dz List.length uR;simp only[cV,eu] at h1 h2;have h3:=(aJ.1 i2).1;omega
 have hq:ps[i]?=some ps[i]:=cz AZ;have S1:ps[i]∈ps:=cq AZ
 have hqv:(ps[i]).val=y.val:=by
  have:(ps.map C.val)[i]?=(l'.map a.eval++pZ)[i]?:=by rw[hD.vals,uR]
  rw[cZ,hq,kK (by simpa using (aJ.1 i2).1),cZ,i2] at this;simp only[cv,dP] at this;rw[this,Tc]
 have hmp:k7 as (ps.map C.er)=(ps[i]).er:=by rw[i5];exact qc (by rw[cZ,hq];rfl) _
 rw[hmp] at hkk;have FA:=bY r0 S1
 have Sz:eY w w' zl aH c.zb G1 r p D y ps[i] (λb k=>∃x∈cs++l,x.fp b k) (λb k=>∃m∈ms,m.fp b k):={
  sub:=hsub
  yD:=Lz
  ext:=hD.ext
  sL:=λb k ⟨x,hx,hf⟩=>cC x hx b k hf
  yh:=kW
  GO:=C.gM (λm b k hz=>by
   cases m with
   |own=>exact hz
   |sl=>exact hz
   |af=>exact hz.imp id λh=>h.elim) _ (hD.all.ok _ FA)
  bare:=hD.all.bare _ FA
  val:=hqv
  fp:=λb k hf=>hD.dom _ FA b k hf
  qz:=λb k hf=>(hD.all.fz _ FA b k hf).1
  z1:=hD.tV
  z2:=hD.tW
  cJ:=λb k hz=>hD.all.cJ b k (.inl hz)}
 obtain⟨s',hKs,G',j1,j2,j3⟩:=aen Sz _ hkk;have gG:∀b k,(∃m∈ms,m.fp b k)->∃t,(G t).fp b k:=λb k ⟨m,hm,hf⟩=>(hT.all m hm).2.2.2 b k hf
 have sj:∀b k,(∃x∈cs++l,x.fp b k)->∃t,(G t).fp b k:=λb k ⟨x,hx,hf⟩=>by
  rcases cC x hx b k hf with hm|hy;·exact gG b k hm
  ·exact⟨r,hT.mono r b k (FD b k hy)⟩
 have h3:St c G' aH s' a w':=h.after j1 (λt=>(j2 t).trans (hT.val t)) hD.ext sj (λt b k hf=>by
   rcases j3 t b k hf with hq|⟨⟨u,hu⟩,_⟩;·exact(Sz.fp b k hq).imp (sj b k) id
   ·exact .inl ⟨u,hT.mono u b k hu⟩) hD.tV (λb k hz=>(hD.tW b k hz).imp id λhh=>hh.imp (sj b k) id)
 have hrm:=bD (a:=r0) (l:=ps)
 obtain⟨G3,h4⟩:=h3.result (x:=r0) o.dst hn (hD.all.ok r0 hrm) (hD.all.bare r0 hrm) (λt b k hf hf'=>by
   rcases j3 t b k hf' with hq|⟨⟨u,hu⟩,hny⟩;·exact(fh.1 hD.all.apart).1 _ S1 b k hf hq
   ·rcases hD.dom r0 hrm b k hf with ⟨x,hx,hf⟩|hb
    ·rcases cC x hx b k hf with hm|hy;·exact(kW b k hm).1 u hu
     ·exact hny hy
    ·have:=C.fF _ (hT.inv.ok u) b k hu;omega) (λb k hf=>⟨(hD.all.fz r0 hrm b k hf).1,λhz=>by
   rcases hD.dom r0 hrm b k hf with ⟨x,hx,hf⟩|hb
   ·rcases cC x hx b k hf with hm|hy;·exact(kW b k hm).2.2 hz
    ·exact(hT.inv.fz r b k (FD b k hy)).2 hz
   ·have:=hT.inv.cJ b k (.inr hz);omega⟩) (λb k hf=>by
   rcases hD.dom r0 hrm b k hf with hs|hb;·obtain⟨t,ht⟩:=sj b k hs;exact h.tr.dom t b k ht
   ·exact .inr (jF h.tr.ext.size hb))
 exact⟨r0.val,hD.ends,(λh=>by cases h),G3,aH,_,hKs,h4⟩
end
end M
namespace M
open Go Go.RowKit
variable [Bs]
section
variable {P:Program}{c:Ctx}{G:Nat->C}{zl:Nat->Nat->Prop}{s:ah}{a:Act}{w:World}{o:Oper}{K:ah->Prop}
def KF{x:C}{m:Md}{xs:List X}(h:x.er=.ptr m xs):∃g o n f,x=.ptr m g o n f/\xs=(List.range n).map λj=>(f j).er:=by
 cases x with
 |ptr m' g o n f=>
  simp only[C.er] at h;injection h with h1 h2
  subst h1;exact⟨g,o,n,f,rfl,h2.symm⟩
 |_=>simp[C.er] at h
def aia{m m':Md}{z z' len len' cap cap':Nat}{A A':Option Ad}{e e':Nat->Nat->C}(h:(C.row m z A len cap e).val=(C.row m' z' A' len' cap' e').val):A=A'/\len=len'/\cap=cap':=by
 simp only[C.val] at h;injection h with h1 h2 h3
 refine⟨?_,h2,h3⟩;cases A with
 |none=>cases A' with
  |none=>rfl
  |some q=>simp at h1
 |some q=>cases A' with
  |none=>simp at h1
  |some q'=>
   simp only[cv,dP,Addr.mk.injEq,and_true] at h1
   rw[show q=q' from Prod.ext h1.1 (Prod.ext h1.2.1 h1.2.2)]
def Ut(n:Nat)(f:Nat->C){k sz:Nat}(h:k+sz<=n):((List.range sz).map λj=>(f (j+k)).er)=(((List.range n).map λj=>(f j).er).drop k).take sz:=by rw[<-mj,oX,<-pO,<-pO,wB,mq (by omega),cP];rfl
def QS(h:St c G zl s a w){l':List Operand}{as:List (AV×PM)}(hc:gV l' as=true){x:AV}{n:Nat}(oF:dS as=some (x,n)){f:FuncId}{fv:Option AV}(hop:tX P c zl o a w l' f fv)(hn:∀n,o.dst=some n->n<c.nt)(hK:um P f o.dst as fv s K):rB P c o a w K false:=by
 obtain⟨k1,k2⟩:=hK;rw[oF] at k2;simp only at k2;obtain⟨ms,G1,g1,g2,hT⟩:=GF hc h;have h1:=IP h hT;rw[<-g1] at k1 k2;have hmb:∀m∈ms,m.bare:=λm hm=>(C.mB m).1 (C.wO.1 k1 _ (kH hm));obtain⟨i,x',i1,i2,i3,i4,i5⟩:=Mw hc oF;obtain⟨u,u1,u2,u3⟩:=cx h1 i3;rw[<-u1] at k2
 have hval:∀y:C,y.val=u.val->∀(j:Nat) (x2:Operand),as[j]?=some (x,PM.mut n)->l'[j]?=some x2->y.val=a.eval x2:=λy hy j x2 hj hj'=>by
  have:=i4 j x n hj;subst this;rw[i2] at hj';injection hj' with hj'
  rw[hy,u2,hj']
 cases u with
 |ref v r p=>
  obtain⟨y',z',hs,hF,hv,m,z1,A,len,cap,e,rfl⟩:=u3.rf;cases hF with
  |row m m' sz' A len cap e e'=>
   simp only[C.er,placeOf,x9] at k2;split at k2
   ·rename_i z xs hlk;obtain⟨k2,k3,k4⟩:=k2;simp only[look] at hlk;rw[<-h1.inv.er,C.gP,hs] at hlk;simp only[cv,dP] at hlk;obtain⟨A2,ape,cap2,e2,he,rfl⟩:=AB hlk;injection he with b1 b2 b3 b4 b5 b6
    subst b1;subst b2;subst b3;subst b4;subst b5;subst b6;have hok:=C.iu p hs (h1.inv.ok r)
    refine Mx h hc oF hop hn hT g2 hmb hs (y:=.row .own z1 A len cap e') (back:=λy Kx=>match y with
     |.row .own z' ys=>z'=z1/\Kx (iI r p (.row .own z1 ys) (bZ as s).2)
     |_=>False) hok trivial (hval _ hv) (λb k hf=>hf) k3 (by rw[hlk];exact k4) λ{w' aH S M q} hM Kx hb=>?_
    split at hb;·rename_i z' ys hq;obtain⟨rfl,hb⟩:=hb;obtain⟨A3,apf,ano,e3,rfl,rfl⟩:=AB hq;obtain⟨c1,c2,c3⟩:=aia hM.val;subst c1;subst c2;subst c3;obtain⟨G',j1,j2,j3⟩:=hM.row h1.inv;exact⟨_,hb,G',j1,j2,j3⟩
    ·exact hb.elim
   ·exact k2.elim
 |az v r p i k=>
  obtain⟨D,hs,hp⟩:=u3.rf;have hok:=C.iu p hs (h1.inv.ok r);simp only[C.er,placeOf,x9] at k2;have hlk:look (bZ as s).2 r p=some D.er:=by simp only[look];rw[<-h1.inv.er,C.gP,hs];rfl
  rw[hlk] at k2;rcases hp with ⟨m,z,g,o',len,cap,e,rfl,rfl⟩|⟨m,g,o',nn,f',rfl,rfl,rfl⟩
  ·simp only[C.er] at k2;cases m with
   |own=>
    simp only[C.de] at k2;split at k2
    ·rename_i e0 kj;split at kj
     ·rename_i hi;injection kj with kj
      obtain⟨k0,k2,k3,k4⟩:=k2;have hkn:k+n<=z:=by rw[<-kj] at k0;simpa using k0
      obtain⟨D1,D2,D3,D4,D5⟩:=hok;have Be:(C.ptr .own g (o'+i*z+k) n λj=>e i (j+k)).er=.ptr .own ((e0.drop k).take n):=by rw[<-kj,<-Ut z (λj=>e i j) hkn];rfl
      have hfr:∀j,j<z->w.frozen? ⟨g,o'+i*z+j,none⟩=false/\g<w.heap.size:=λj hj=>by
       rcases D4 rfl with ⟨hA,_⟩|⟨g',o2,arr,t,fz,hA,hh,hsz,hfr⟩;·cases hA
       ·injection hA with hA
        injection hA with e1 e2
        injection e2 with e2
        subst e1;subst e2;refine⟨hfr _ (by omega) ?_,(kL.1 hh).1⟩;have:(i+1)*z<=cap*z:=oo _ (by omega);rw[fk] at this;omega
      have mJ:g<w.heap.size:=by
       rcases D4 rfl with ⟨hA,_⟩|⟨g',o2,arr,t,fz,hA,hh,hsz,hfr⟩;·cases hA
       ·injection hA with hA
        injection hA with e1 e2
        subst e1;exact(kL.1 hh).1
      have qo:(C.ptr .own g (o'+i*z+k) n λj=>e i (j+k)).ok w (Zf zl c.zb):=by
       refine⟨λj hj=>⟨?_,λhm=>(hm rfl).elim,λ_=>?_⟩,mJ,λj hj=>?_,λj hj b k' hf=>⟨λ_ hb=>?_,λj' hj' hne=>?_⟩⟩
       ·obtain⟨g',o2,hA,hcl,_⟩:=D2 i (j+k) hi (by omega);injection hA with hA
        injection hA with e1 e2
        injection e2 with e2
        subst e1;subst e2;rw[show o'+i*z+k+j=o'+i*z+(j+k) by omega];exact hcl
       ·rw[show o'+i*z+k+j=o'+i*z+(j+k) by omega];exact(hfr (j+k) (by omega)).1
       ·obtain⟨a1,a2,a3,a4⟩:=D3 i (j+k) hi (by omega);exact⟨a1,a3,a4⟩
       ·exact(D5 i (j+k) hi (by omega) b k' hf).1 rfl o' (by rw[hb.1])
       ·exact(D5 i (j+k) hi (by omega) b k' hf).2 i (j'+k) hi (by omega) (λe=>by simp only[jU] at e;omega)
      refine Mx h hc oF hop hn hT g2 hmb hs (back:=λy Kx=>match y with
       |.ptr .own ys=>ys.length=n/\iq ys=true/\Kx (iI r p (.row .own z ((dL z len e).set i (e0.take k++ys++e0.drop (k+n)))) (bZ as s).2)
       |_=>False) qo ((C.mB _).1 (by rw[Be];exact k2)) (hval _ rfl) (λb k' hf=>?_) k3 (by rw[Be];exact k4) λ{w' aH S M q} hM Kx hb=>?_
      ·obtain⟨_,hf|⟨j,hj,hf⟩⟩:=hf;·exact⟨rfl,.inl ⟨o',by rw[hf.1]⟩⟩
       ·exact⟨rfl,.inr ⟨i,j+k,hi,by omega,hf⟩⟩
      ·split at hb
       ·rename_i ys hq;obtain⟨jO,iR,K6⟩:=hb;obtain⟨g3,o3,n3,f3,rfl,rfl⟩:=KF hq;have lQ:=hM.val;simp only[C.val] at lQ;injection lQ with lQ
        injection lQ with lQ
        injection lQ with c1 c2 c3
        subst c1;subst c2;have xA:n3=n:=by simpa using jO
        subst xA;obtain⟨G',j1,j2,j3⟩:=hM.elem h1.inv hi hkn (λj hj=>Vb (Iz iR _ (bw.2 ⟨j,by simpa using hj,rfl⟩)));rw[kj] at j1;exact⟨_,K6,G',j1,j2,j3⟩
       ·exact hb.elim
     ·cases kj
    ·exact k2.elim
   |sl=>exact k2.elim
   |af=>exact k2.elim
  ·simp only[C.er] at k2;cases m with
   |own=>
    obtain⟨k0,k2,k3,k4⟩:=k2;have hkn:k+n<=nn:=by simpa using k0
    obtain⟨D1,D2,D3,D4⟩:=hok;have Be:(C.ptr .own g (o'+k) n λj=>f' (j+k)).er=.ptr .own ((((List.range nn).map λj=>(f' j).er).drop k).take n):=by rw[<-Ut nn f' hkn];rfl
    have qo:(C.ptr .own g (o'+k) n λj=>f' (j+k)).ok w (Zf zl c.zb):=by
     refine⟨λj hj=>⟨?_,λhm=>(hm rfl).elim,λ_=>?_⟩,D2,λj hj=>D3 (j+k) (by omega),λj hj b k' hf=>⟨λ_ hb=>?_,λj' hj' hne=>?_⟩⟩;·rw[show o'+k+j=o'+(j+k) by omega];exact(D1 (j+k) (by omega)).1
     ·rw[show o'+k+j=o'+(j+k) by omega];exact(D1 (j+k) (by omega)).2.2 rfl
     ·exact(D4 (j+k) (by omega) b k' hf).1 rfl ⟨hb.1,by omega,by omega⟩
     ·exact(D4 (j+k) (by omega) b k' hf).2 (j'+k) (by omega) (by omega)
    refine Mx h hc oF hop hn hT g2 hmb hs (back:=λy Kx=>match y with
     |.ptr .own ys=>ys.length=n/\Kx (iI r p (.ptr .own (((List.range nn).map λj=>(f' j).er).take k++ys++((List.range nn).map λj=>(f' j).er).drop (k+n))) (bZ as s).2)
     |_=>False) qo ((C.mB _).1 (by rw[Be];exact k2)) (hval _ rfl) (λb k' hf=>?_) k3 (by rw[Be];exact k4) λ{w' aH S M q} hM Kx hb=>?_
    ·obtain⟨_,hf|⟨j,hj,hf⟩⟩:=hf;·exact⟨rfl,.inl ⟨hf.1,by omega,by omega⟩⟩
     ·exact⟨rfl,.inr ⟨j+k,by omega,hf⟩⟩
    ·split at hb
     ·rename_i ys hq;obtain⟨jO,K6⟩:=hb;obtain⟨g3,o3,n3,f3,rfl,rfl⟩:=KF hq;have lQ:=hM.val;simp only[C.val] at lQ;injection lQ with lQ
      injection lQ with lQ
      injection lQ with c1 c2 c3
      subst c1;subst c2;have xA:n3=n:=by simpa using jO
      subst xA;obtain⟨G',j1,j2,j3⟩:=hM.ptr h1.inv hkn;exact⟨_,K6,G',j1,j2,j3⟩
     ·exact hb.elim
   |sl=>exact k2.elim
   |af=>exact k2.elim
 |_=>exact k2.elim
def KN{f:FuncId}(h:aA P f=true):∃fn,P.funcs[f]?=some fn/\(fn.name== "runtime.NumGoroutine")=false/\fn.body.isNone=false:=by
 unfold aA at h;split at h;·rename_i fn hf;simp only[aB,rq] at h;exact⟨fn,hf,h.1,h.2⟩
 ·cases h
def ahd(h:St c G zl s a w){f:FuncId}{fn:Func}{as':Array Operand}{as:List (AV×PM)}{ts:Array TypeId}(ho:o.op=.call {callee:=.value (.func f),args:=as',argTypes:=ts})(hf:P.funcs[f]?=some fn)(hname:(fn.name== "runtime.NumGoroutine")=false) (hb:fn.body.isNone=false)
  (hn:∀n,o.dst=some n->n<c.nt) (hc:gV as'.toList as=true) (hK:aT P (.call o.dst f as) s K):rB P c o a w K (jy as):=by
 have hop:tX P c zl o a w as'.toList f none:=⟨[],by simp only[execOp,ho,resolve,Act.eval,Deferred.ofValue,Sem.run_bind,Sem.run_pure,Result.andThen_ok,invoke,M6 hf hname hb];congr 2;apply pN;simp,λ_ _ _ _=>⟨[],rfl,rfl,λ_ hx=>(by cases hx)⟩⟩
 cases hm:dS as with
 |none=>exact QT _ h hc hm hop (λh=>h) hn hK
 |some q=>
  have hq:jy as=false:=by
   cases hq:jy as with
   |false=>rfl
   |true=>rw[ya hq] at hm;cases hm
  rw[hq];exact QS h hc hm hop hn hK
def ahf(h:St c G zl s a w){x:AV}{x':Operand}{as':Array Operand}{as:List (AV×PM)}{ts:Array TypeId}(ho:o.op=.call {callee:=.value x',args:=as',argTypes:=ts})(hx:aQ x' x=true)
  (hn:∀n,o.dst=some n->n<c.nt)(hc:gV as'.toList as=true)(hK:aT P (.jZ o.dst x as) s K):rB P c o a w K (jy as):=by
 simp only[aT] at hK;split at hK
 ·rename_i f cs he;obtain⟨hf,hK⟩:=hK;obtain⟨fn,hf1,jr,hf3⟩:=KN hf;obtain⟨p,p1,p2,p3⟩:=cx h hx;rw[he] at p1;cases p with
  |fn g n fc=>
   simp only[C.er,X.fn.injEq] at p1;obtain⟨rfl,p1⟩:=p1
   have hop:tX P c zl o a w as'.toList g (some x):=⟨(List.range n).map λj=>(fc j).val,by
    simp only[execOp,ho,resolve,<-p2,C.val,Deferred.ofValue,Sem.run_bind,Sem.run_pure,Result.andThen_ok,invoke,M6 hf1 jr hf3];congr 2;apply pN;simp,λ{G2 s2 bM} h2 hb hG hi=>by
    simp only[rN] at hi;split at hi;·rename_i g' cs' he';subst hi;obtain⟨l,l1,l2,l3⟩:=aah h2 hb hG hx he';refine⟨l,l1,?_,l3⟩;rw[<-p2] at l2;simp only[C.val,Value.func.injEq,true_and] at l2;exact(Array.mk.injEq _ _▸l2:_).symm
    ·exact hi.elim⟩
   cases hm:dS as with
   |none=>exact QT _ h hc hm hop (λh=>h) hn hK
   |some q=>
    have hq:jy as=false:=by
     cases hq:jy as with
     |false=>rfl
     |true=>rw[ya hq] at hm;cases hm
    rw[hq];exact QS h hc hm hop hn hK
  |_=>simp[C.er] at p1
 ·exact hK.elim
end
end M
namespace M
open Go Go.RowKit
variable [Bs]
section
variable {P:Program}{c:Ctx}{G:Nat->C}{zl:Nat->Nat->Prop}{s:ah}{a:Act}{w:World}{o:Oper}{K:ah->Prop}
def aiA{x:C}(hc:x.cell)(hs:M.cU x.er=true):x.plain:=by cases x<;>first|trivial|exact hc|(simp[C.er,M.cU] at hs)
def ahJ{x:C}(h:x.plain):x.bare:=by cases x<;>first|trivial|exact h.elim
def aiz{l:List X}(h:iq l=true):∀x∈l,M.cU x=true:=by
 induction l with
 |nil=>intro x hx;cases hx
 |cons a l ih=>
  simp only[iq,aB] at h;intro x hx;rcases b9.1 hx with rfl|hx;·exact h.1
  ·exact ih h.2 x hx
def JC:∀{l':List Operand} {l:List (AV×PM)},gV l' l=true->jy l=true->MV a l' l (l.map λ_=>.dead undef)
 |[],[],_,_=>trivial
 |x'::l',(x,.af)::l,hc,hq=>JC (l':=l') (l:=l) (by simp only[gV,aB] at hc;exact hc.2) hq
 |x'::l',(x,.jI n)::l,hc,hq=>JC (l':=l') (l:=l) (by simp only[gV,aB] at hc;exact hc.2) hq
 |x'::l',(x,.mv)::l,hc,hq=>by cases hq
 |x'::l',(x,.mut _)::l,hc,hq=>by cases hq
 |[],_::_,hc,_=>by cases hc
 |_::_,[],hc,_=>by cases hc
def aag(h:St c G zl s a w){x':Operand}{l':List Operand}{x:AV}{as:List (AV×PM)}(hx:aQ x' x=true)(hc:gV l' as=true)(hq:jy as=true){f:FuncId}(hop:tX P c zl o a w (x'::l') f none)(hn:∀n,o.dst=some n->n<c.nt)(hK:aT P (.rL o.dst f x as) s K):rB P c o a w K false:=by
 obtain⟨p,p1,p2,p3⟩:=cx h hx;simp only[aT] at hK;rw[<-p1] at hK;cases p with
 |agg n f0=>
  have per:(C.agg n f0).er=.agg (((List.range n).map f0).map C.er):=by simp only[C.er,cP];rfl
  rw[per] at hK;simp only at hK;obtain⟨k1,k3⟩:=hK
  have hcells:∀c'∈(List.range n).map f0,zZ w zl c.zb G c':=λc' iS=>by
   obtain⟨j,hj,rfl⟩:=bw.1 iS;have hj':j<n:=by simpa using hj
   exact⟨(p3.ok.1 j hj').1,(p3.ok.1 j hj').2,λb k hf=>p3.cS b k ⟨j,hj',hf⟩,λv r p e=>Dz (by rw[<-e];exact p3.rf j hj')⟩
  obtain⟨l0,G1,e1,e2,e3,e4,e5⟩:=Du _ G s h.inv hcells;obtain⟨pZ,hrun,AQ⟩:=hop.run;have h1:=IP h e4;rw[<-e1] at k1 k3;have jP:∀b k,c.zb b k->(c.zb b k\/∃t,(G1 t).fp b k):=λb k hz=>.inl hz;have sF:∀t b k,(G1 t).fp b k->(c.zb b k\/∃t,(G1 t).fp b k):=λt b k hf=>.inr ⟨t,hf⟩;obtain⟨l,q1,q2,q3⟩:=AQ h1 jP sF trivial;have hl0:l=[]:=by simpa [oz] using q1
  subst hl0;have hcap:pZ=[]:=by simpa using q2.symm
  subst hcap
  obtain⟨Ap,r1,r2,r3,r4⟩:=Ef h1 jP sF (y:=.dead undef) trivial trivial hc (JC hc hq) (λx hx=>by
   obtain⟨_,_,rfl⟩:=bw.1 hx;exact⟨trivial,trivial,λb k hf=>hf.elim⟩) (rF λx hx=>by
   obtain⟨_,_,rfl⟩:=bw.1 hx
   exact λb k hf=>hf) (λi x n x' hi _=>by
    exfalso;have hno:=ya hq
    have:∀{l:List (AV×PM)} {i:Nat},l[i]?=some (x,PM.mut n)->dS l≠none:=by
     intro l;induction l with
     |nil=>intro i hi;simp at hi
     |cons y l ih=>
      intro i hi;obtain⟨y,pm⟩:=y;cases i with
      |zero=>simp only[zR,dP,jU] at hi;obtain⟨_,rfl⟩:=hi;simp[dS]
      |succ i=>have:=ih (by simpa using hi);cases pm<;>simp[dS]<;>first|exact this|skip
    exact this hi hno)
  have Fy:∀x∈Ap,∀b k,¬x.fp b k:=λx hx b k hf=>by
   rcases(r3 x hx).2.2 b k hf with ⟨m,hm,hh⟩|⟨hh,_⟩;·obtain⟨_,_,rfl⟩:=bw.1 hm;exact hh
   ·rw[ya hq] at hh;cases hh
  have qn:l0.length=n:=by have:=dz List.length e2;simpa using this
  have Tb:∀b k,(gR l0).fp b k->∃m∈l0,m.fp b k:=λb k hf=>(rD _ _ _).1 hf
  have hpl:∀x∈l0,x.ok w (Zf zl λb k=>c.zb b k\/∃t,(G1 t).fp b k):=λx hx=>C.gM (λm b k hz=>by
   cases m with
   |own=>exact hz
   |sl=>exact hz
   |af=>exact hz.imp id .inl) _ (e4.all x hx).1
  have hA:ry w zl (λb k=>c.zb b k\/∃t,(G1 t).fp b k) (gR l0::Ap):={
   ok:=λx hx=>by
    rcases b9.1 hx with rfl|hx;·exact⟨λj hj=>⟨C.lY (e3 _ (cQ hj _)),hpl _ (cQ hj _)⟩,λj hj b k hf j' hj' hne=>yl e4.apart _ hj hj' hne hf⟩
    ·exact(r3 x hx).1
   bare:=λx hx=>by
    rcases b9.1 hx with rfl|hx;·exact λj hj=>ahJ (e3 _ (cQ hj (C.dead undef)))
    ·exact(r3 x hx).2.1
   fz:=λx hx b k hf=>by
    rcases b9.1 hx with rfl|hx;·obtain⟨m,hm,hf⟩:=Tb b k hf;exact⟨((e4.all m hm).2.2.1 b k hf).1,λhz=>hz.elim ((e4.all m hm).2.2.1 b k hf).2 λ⟨t,ht⟩=>(e4.all m hm).2.1 t b k hf ht⟩
    ·exact(Fy x hx b k hf).elim
   cJ:=λb k hz=>by
    rcases hz with hz|hz|⟨t,ht⟩;·exact e4.inv.cJ b k (.inl hz)
    ·exact e4.inv.cJ b k (.inr hz)
    ·exact C.fF _ (e4.inv.ok t) b k ht
   apart:=fh.2 ⟨λx hx b k _ hf=>Fy x hx b k hf,rF Fy⟩}
  have sx:=k3 w zl _ (gR l0::Ap) (by rw[bn,r1,wM];simp only[cP];rfl) hA (h1.KW _ λb k hz=>.inl hz)
  have Td:(gR l0).val=a.eval x':=by rw[z6,e2,<-p2];simp only[C.val,cP];rfl
  have uR:(gR l0::Ap).map C.val=(x'::l').map a.eval++[]:=by rw[bn,Td,r2];simp
  rw[uR] at sx;refine⟨f,_,hrun,sx.mono ?_⟩;rintro e w' ⟨r,ps,aH,hD,hk⟩;have hin:∀b k,aH b k->b<w'.heap.size:=λb k hz=>hD.all.cJ b k (.inl hz);have kW:∀b k,(∃m∈l0,m.fp b k)->(∀t,¬(G1 t).fp b k)/\¬zl b k/\¬c.zb b k:=λb k ⟨m,hm,hf⟩=>⟨λt=>(e4.all m hm).2.1 t b k hf,(e4.all m hm).2.2.1 b k hf⟩
  have kg:∀b k,(∃x∈gR l0::Ap,x.fp b k)->∃m∈l0,m.fp b k:=λb k ⟨x,hx,hf⟩=>by
   rcases b9.1 hx with rfl|hx;·exact Tb b k hf
   ·exact(Fy x hx b k hf).elim
  have Bg:∀b k,aH b k->zl b k\/(∃m∈l0,m.fp b k)\/w.heap.size<=b:=λb k hz=>(hD.tW b k hz).imp id λhh=>hh.imp (kg b k) id
  have hi:=e4.inv.PV hD.ext (λb k hs=>kW b k (kg b k hs)) hD.tV (λb k hz=>⟨hin b k hz,λt hf=>by
   rcases Bg b k hz with hz|hm|hb;·exact(e4.inv.fz t b k hf).1 hz
   ·exact(kW b k hm).1 t hf
   ·have:=C.fF _ (e4.inv.ok t) b k hf;omega⟩)
  have gG:∀b k,(∃m∈l0,m.fp b k)->∃t,(G t).fp b k:=λb k ⟨m,hm,hf⟩=>(e4.all m hm).2.2.2 b k hf;have Fz:∀x∈r::ps,∀b k,x.fp b k->(∃m∈l0,m.fp b k)\/w.heap.size<=b:=λx hx b k hf=>(hD.dom x hx b k hf).imp (kg b k) id
  have SY:∀x∈r::ps,∀t b k,x.fp b k->¬(G1 t).fp b k:=λx hx t b k hf hf'=>by
   rcases Fz x hx b k hf with hm|hb;·exact(kW b k hm).1 t hf'
   ·have:=C.fF _ (e4.inv.ok t) b k hf';omega
  have S0:∀x∈r::ps,∀b k,x.fp b k->¬aH b k/\¬c.zb b k:=λx hx b k hf=>⟨(hD.all.fz x hx b k hf).1,λhz=>by
   rcases Fz x hx b k hf with hm|hb;·exact(kW b k hm).2.2 hz
   ·have:=e4.inv.cJ b k (.inr hz);omega⟩
  cases ps with
  |nil=>exact hk.elim
  |cons p0 ps=>
   cases p0 with
   |agg n0 g0=>
    simp only[bn,C.er] at hk;obtain⟨j1,s',j2,j3⟩:=hk;have A4:(C.agg n0 g0)∈r::C.agg n0 g0::ps:=bY _ (bD ..);have hv0:(C.agg n0 g0).val=(C.agg n f0).val:=by have:=dz List.head? hD.vals;simp only[bn,List.head?_cons,dP] at this;rw[this,Td,p2]
    simp only[C.val,Value.agg.injEq,Array.mk.injEq,List.toArray_inj] at hv0;have jt:n0=n:=by have:=dz List.length hv0;simpa using this
    subst jt;have Lr:=hD.all.ok _ A4;have Fv:∀y∈(List.range n0).map g0,∀b k,y.fp b k->(C.agg n0 g0).fp b k:=λy hy b k hf=>by obtain⟨j,hj,rfl⟩:=bw.1 hy;exact⟨j,by simpa using hj,hf⟩
    rw[show ((List.range n0).map λj=>(g0 j).er)=((List.range n0).map g0).map C.er by simp only[cP];rfl] at j1 j2
    obtain⟨G2,g1,g2,g3⟩:=Ei ((List.range n0).map f0) ((List.range n0).map g0) hi (by simp) (λv r p hm=>e5 v r p ((hcells _ hm).weak v r p rfl)) (λi cc y hi1 hi2=>by
     have hy:y∈(List.range n0).map g0:=mo hi2;obtain⟨j,hj,rfl⟩:=bw.1 hy;have hj':j<n0:=by simpa using hj
     refine⟨aiA (Lr.1 j hj').1 (aiz j1 _ (kH hy)),?_,C.gM (λm b k hz=>by
      cases m with
      |own=>exact hz
      |sl=>exact hz
      |af=>exact hz.imp id λh=>h.elim) _ (Lr.1 j hj').2⟩
     have:=dz (λt:List Value=>t[i]?) hv0;rw[show ((List.range n0).map λj=>(g0 j).val)=((List.range n0).map g0).map C.val by simp only[cP];rfl,show ((List.range n0).map λj=>(f0 j).val)=((List.range n0).map f0).map C.val by simp only[cP];rfl,cZ (l:=(List.range n0).map g0),cZ (l:=(List.range n0).map f0),hi1,hi2] at this;simpa using this) (λy hy=>⟨λt b k hf=>SY _ A4 t b k (Fv y hy b k hf),λb k hf=>S0 _ A4 b k (Fv y hy b k hf)⟩) (by
     rw[DL];refine Jp ?_ List.nodup_range;intro i j hi hj hne b k hf;exact Lr.2 i (by simpa using hi) b k hf j (by simpa using hj) hne) j2
    have Bd:∀b k,(∃y∈(List.range n0).map g0,y.fp b k)->(∃m∈l0,m.fp b k)\/w.heap.size<=b:=λb k ⟨y,hy,hf⟩=>Fz _ A4 b k (Fv y hy b k hf)
    have h2:St c G2 aH s' a w':=h.after g1 (λt=>(g2 t).trans (e4.val t)) hD.ext (λb k hs=>gG b k (kg b k hs)) (λt b k hf=>by
     rcases g3 t b k hf with hh|hh;·exact .inl ⟨t,e4.mono t b k hh⟩
     ·exact(Bd b k hh).imp (gG b k) id) hD.tV (λb k hz=>(Bg b k hz).imp id λhh=>hh.imp (gG b k) id)
    have hr:r∈r::C.agg n0 g0::ps:=bD ..
    obtain⟨G3,h3⟩:=h2.result (x:=r) o.dst hn (hD.all.ok r hr) (hD.all.bare r hr) (λt b k hf hf'=>by
      rcases g3 t b k hf' with hh|⟨y,hy,hh⟩;·exact SY r hr t b k hf hh
      ·exact(fh.1 hD.all.apart).1 _ (bD ..) b k hf (Fv y hy b k hh)) (S0 r hr) (λb k hf=>by
      rcases Fz r hr b k hf with hm|hb;·obtain⟨t,ht⟩:=gG b k hm;exact h.tr.dom t b k ht
      ·exact .inr (jF h.tr.ext.size hb))
    exact⟨r.val,hD.ends,λLs=>by (cases Ls),G3,aH,_,j3,h3⟩
   |_=>exact hk.elim
 |_=>exact hK.elim
def ahe(h:St c G zl s a w){f:FuncId}{fn:Func}{as':Array Operand}{x:AV}{x':Operand}{l':List Operand}{as:List (AV×PM)}{ts:Array TypeId}(ho:o.op=.call {callee:=.value (.func f),args:=as',argTypes:=ts})(hl:as'.toList=x'::l')(hf:P.funcs[f]?=some fn)(hname:(fn.name== "runtime.NumGoroutine")=false) (hb:fn.body.isNone=false)
  (hn:∀n,o.dst=some n->n<c.nt) (hx:aQ x' x=true) (hc:gV l' as=true) (hq:jy as=true) (hK:aT P (.rL o.dst f x as) s K):rB P c o a w K false:=by
 have hop:tX P c zl o a w (x'::l') f none:=⟨[],by simp only[execOp,ho,resolve,Act.eval,Deferred.ofValue,Sem.run_bind,Sem.run_pure,Result.andThen_ok,invoke,M6 hf hname hb];rw[<-hl];congr 2;apply pN;simp,λ_ _ _ _=>⟨[],rfl,rfl,λ_ hx=>(by cases hx)⟩⟩
 exact aag h hx hc hq hop hn hK
end
end M
namespace M
open Go Go.RowKit
variable [Bs]
section
variable {P:Program}{ops:Array Oper}{Q:Exit->Act->World->Prop}
def wpAnyQ(P:Program)(ops:Array Oper)(quiet:Nat->Bool)(Q:Exit->Act->World->Prop):Nat->Array Bool->Act->World->Prop
 |0,listed,a,w=>Region.ready .any ops listed=[]/\Q .normal a w
 |fuel+1,listed,a,w=>(Region.ready .any ops listed=[]->Q .normal a w)/\
  ∀i∈Region.ready .any ops listed,wpOp P ops Q i (λa' w'=>Rel (quiet i) w w'/\wpAnyQ P ops quiet Q fuel (listed.setIfInBounds i true) a' w') a w
def wpAnyQ.any{quiet:Nat->Bool}:∀{fuel:Nat} {listed:Array Bool} {a:Act} {w:World},wpAnyQ P ops quiet Q fuel listed a w->wpAny P .any ops Q fuel listed a w
 |0,_,_,_,h=>h
 |fuel+1,_,_,_,h=>⟨h.1,λi hi=>wpOp_mono (λ_ _ h=>h.2.any) (h.2 i hi)⟩
def ow(P:Program)(ops:Array Oper)(o:Oper)(v:Value)(a:Act)(w:World):Prop:=
 (Region.wanted o (yielded ops a.tmps)=true/\∀w',Ext (λ_ _=>False) w w'->(execOp a.eval o).run P w'=.ok (.value v) w')\/
 (Region.wanted o (yielded ops a.tmps)=false/\v=undef)
def ow.wpOp{i:Nat}{o:Oper}{v:Value}{a:Act}{w:World}(hi:ops[i]?=some o)(hy:ow P ops o v a w){K:Act->World->Prop}(h:K (a.put o.dst v) w):wpOp P ops Q i K a w:=by
 unfold Go.wpOp;simp only[hi];rcases hy with ⟨hw,hv⟩|⟨hw,rfl⟩;·simp only[hw,dh,Oper.wp,hv w (Ext.refl _ _),Oper.upon];exact .inl h
 ·simp only[hw,fD,dQ];exact h
def rz(P:Program)(ops:Array Oper)(o:Oper)(v:Value)(a:Act):Prop:=
 (Region.wanted o (yielded ops a.tmps)=true/\∀w',(execOp a.eval o).run P w'=.ok (.value v) w')\/
 (Region.wanted o (yielded ops a.tmps)=false/\v=undef)
def rz.later{o:Oper}{v:Value}{a:Act}(h:rz P ops o v a)(w:World):ow P ops o v a w:=h.imp (λh=>⟨h.1,λw' _=>h.2 w'⟩) id
def D9(ops:Array Oper)(o:Oper)(a a':Act):Prop:=execOp a'.eval o=execOp a.eval o/\Region.wanted o (yielded ops a'.tmps)=Region.wanted o (yielded ops a.tmps)
def ow.same{o:Oper}{v:Value}{a a':Act}{w w':World}(hy:ow P ops o v a w)(h:D9 ops o a a')(hE:Ext (λ_ _=>False) w w'):ow P ops o v a' w':=by unfold ow;rw[h.1,h.2];exact hy.imp (λhh=>⟨hh.1,λw2 h2=>hh.2 w2 (hE.trans h2 λ_ _ h _=>h)⟩) id
def rz.same{o:Oper}{v:Value}{a a':Act}(hy:rz P ops o v a)(h:D9 ops o a a'):rz P ops o v a':=by unfold rz;rw[h.1,h.2];exact hy
def VY{j:Nat}{oi oj:Oper}{v:Value}(hj:ops[j]?=some oj)(hap:oi.apart ops oj=true)(hsi:∀cs b,oi.op≠.select cs b)(hsj:∀cs b,oj.op≠.select cs b)
  (hQ:∀c a w,Q (.panic c) (a.put oi.dst v) w->Q (.panic c) a w){K:Act->World->Prop}{a:Act}{w:World}(h:wpOp P ops Q j K (a.put oi.dst v) w):
  wpOp P ops Q j (λa' w'=>D9 ops oi a a'/\K (a'.put oi.dst v) w') a w:=by
 obtain⟨h1,h2,h3⟩:=Oper.apart_spec hap;have keep:∀u,D9 ops oi a (a.put oj.dst u):=λu=>⟨execOp_put oi hsi a oj.dst u h3,wanted_put oi a oj.dst u h3⟩;have put:∀u,(a.put oj.dst u).put oi.dst v=(a.put oi.dst v).put oj.dst u:=λu=>(Act.put_comm a v u h2).symm;unfold Go.wpOp at*;simp only[hj] at*;rw[wanted_put oj a oi.dst v h1] at h;by_cases hw:Region.wanted oj (yielded ops a.tmps)=true
 ·rw[ax hw] at h⊢;have mI:execOp (a.put oi.dst v).eval oj=execOp a.eval oj:=execOp_put oj hsj a oi.dst v h1;refine h.imp (λh=>?_) λh=>⟨?_,h.2⟩
  ·unfold Oper.wp at*;rw[mI] at h;generalize (execOp a.eval oj).run P w=r at h⊢;match r,h with
   |.ok (.value u) w',h=>exact⟨keep u,by rw[put];exact h⟩
   |.ok .skip w',h=>exact⟨keep _,by rw[put];exact h⟩
   |.ok (.defer d) w',h=>
    refine⟨by have k:=keep undef;unfold Act.put at*;cases hd:oj.dst<;>rw[hd] at k<;>exact⟨k.1,k.2⟩,?_⟩
    have h':K (({a.put oi.dst v with defers:=d::(a.put oi.dst v).defers}:Act).put oj.dst undef) w':=h;rw[Act.put_defers,Act.put_comm _ v undef h2] at h';exact h'
   |.ok (.enter f args) w',h=>
    refine Calls.mono h λe w'' he=>?_;match e,he with
    |.returned u,he=>exact⟨keep u,by rw[put];exact he⟩
    |.panicked c,he=>exact hQ _ _ _ he
    |.outgrown,he=>exact he
   |.ok (.row row args) w',h=>exact Rows.mono h λu w'' he=>⟨keep u,by rw[put];exact he⟩
   |.halt (.panic u) w',h=>exact hQ _ _ _ h
  ·have:=h.1;unfold Oper.asks at this⊢;rwa [mI] at this
 ·rw[aF hw] at h⊢;exact⟨keep _,by rw[put];exact h⟩
def Down(ops:Array Oper)(listed:Array Bool):Prop:=∀k ok,ops[k]?=some ok->listed.getD k false=true->∀e∈ok.after,Region.binds .any e=true->listed.getD e.on false=true
def wX(ops : Array Oper)(t : Nat -> Nat -> Bool) : Bool := (List.range ops.size).all λj => (List.range ops.size).all λi => !t j i || (match ops[j]? with
 |some oj=>oj.after.any λe=>Region.binds .any e && (e.on==i||(decide (e.on<j) && t e.on i))
 |none=>false)
def MQ{t:Nat->Nat->Bool}(iS:wX ops t=true){listed:Array Bool}(hd:Down ops listed){i:Nat}(hi:listed.getD i false=false):∀(n j:Nat),j<n->j<ops.size->i<ops.size->(∀oj,ops[j]?=some oj->∀e∈oj.after,Region.binds .any e=true->listed.getD e.on false=true)->t j i=false
 |0,j,hj,_,_,_=>by omega
 |n+1,j,hj,Fw,SR,hall=>by
  cases ht:t j i with
  |false=>rfl
  |true=>
   exfalso;have hc:=iS;simp only[wX,pR,q6] at hc;have h1:=hc j Fw i SR;rw[ht] at h1;simp only[Bool.not_true,Bool.false_or] at h1;split at h1
   ·rename_i oj gH;obtain⟨e,he,hb⟩:=Array.any_eq_true'.1 h1;simp only[aB,tQ,en,bp] at hb;have hl:=hall oj gH e he hb.1;rcases hb.2 with h2|⟨h2,h3⟩;·rw[h2,hi] at hl;cases hl
    ·have:=MQ iS hd hi n e.on (by omega) (by omega) SR (λoe hoe e' he' hb'=>hd e.on oe hoe hl e' he' hb');rw[this] at h3;cases h3
   ·cases h1
def Down.set{listed:Array Bool}(h:Down ops listed){j:Nat}{oj:Oper}(hj:ops[j]?=some oj)(hall:∀e∈oj.after,Region.binds .any e=true->listed.getD e.on false=true):Down ops (listed.setIfInBounds j true):=by
 intro k ok hk hl e he hb;by_cases hjk:j=k
 ·subst hjk;rw[hj] at hk;injection hk with hk
  subst hk;exact getD_set_true (hall e he hb)
 ·rw[getD_set_ne false hjk] at hl;exact getD_set_true (h k ok hk hl e he hb)
def wpAnyQ_first{quiet:Nat->Bool}{i:Nat}{oi:Oper}{v:Value}(hi:ops[i]?=some oi)(hsel:∀(j:Nat) (o:Oper) cs b,ops[j]?=some o->o.op≠.select cs b)(hQ:∀c a w,Q (.panic c) (a.put oi.dst v) w->Q (.panic c) a w){t:Nat->Nat->Bool}(kX:wX ops t=true):
  ∀(fuel:Nat) (listed:Array Bool) (a:Act) (w:World),
   Down ops listed->(∀j oj,ops[j]?=some oj->j≠i->listed.getD j true=false->t j i=false->oi.apart ops oj=true/\quiet j=true)->
   i∈Region.ready .any ops listed->ow P ops oi v a w->
   wpAnyQ P ops quiet Q fuel (listed.setIfInBounds i true) (a.put oi.dst v) w->wpAnyQ P ops quiet Q (fuel+1) listed a w:=by
 intro fuel;induction fuel with
 |zero=>
  intro listed a w _ _ hr hy H;refine⟨λh=>(by rw[h] at hr;cases hr),λj hj=>?_⟩;by_cases hji:j=i;·subst hji;exact hy.wpOp hi ⟨Rel.refl _ _,H⟩
  ·have:=ready_mono hj hji;rw[H.1] at this;cases this
 |succ fuel ih=>
  intro listed a w AU hfree hr hy H;refine⟨λh=>(by rw[h] at hr;cases hr),λj hj=>?_⟩;by_cases hji:j=i;·subst hji;exact hy.wpOp hi ⟨Rel.refl _ _,H⟩
  ·have h1:=H.2 j (ready_mono hj hji);obtain⟨A0,oj,gH,hall⟩:=mem_ready.1 hj
   have hi0:listed.getD i false=false:=by
    have h0:=(mem_ready.1 hr).1;rcases fV i listed.size with h'|h';·simpa [h'] using h0
    ·simp[lB h']
   have hnot:t j i=false:=MQ kX AU hi0 (j+1) j (by omega) (kL.1 gH).1 (kL.1 hi).1 (λoj' qm e he hb=>by
    rw[gH] at qm;injection qm with qm
    rw[<-qm] at he;exact hall e he hb)
   obtain⟨hap,hqu⟩:=hfree j oj gH hji A0 hnot;have h2:=VY gH hap (λcs b=>hsel i oi cs b hi) (λcs b=>hsel j oj cs b gH) hQ h1
   have Lh:∀k ok,ops[k]?=some ok->k≠i->(listed.setIfInBounds j true).getD k true=false->
     t k i=false->oi.apart ops ok=true/\quiet k=true:=λk ok hk hki hun hno=>by
    refine hfree k ok hk hki ?_ hno;by_cases hjk:j=k;·subst hjk;exact A0
    ·rw[getD_set_ne true hjk] at hun;exact hun
   refine wpOp_mono (λa' w' ⟨hsame,hrel,h3⟩=>⟨hrel,ih (listed.setIfInBounds j true) a' w' (AU.set gH hall) Lh (ready_mono hr (wC hji)) (hy.same hsame (hrel hqu)) ?_⟩) h2;rw[Wy _ _ hji];exact h3
def amc{quiet:Nat->Bool}{i:Nat}{oi:Oper}{v:Value}(hi:ops[i]?=some oi)(hsel:∀(j:Nat) (o:Oper) cs b,ops[j]?=some o->o.op≠.select cs b)(hQ:∀c a w,Q (.panic c) (a.put oi.dst v) w->Q (.panic c) a w){t:Nat->Nat->Bool}(kX:wX ops t=true):
  ∀(fuel:Nat) (listed:Array Bool) (a:Act) (w:World),
   Down ops listed->(∀j oj,ops[j]?=some oj->j≠i->listed.getD j true=false->t j i=false->oi.apart ops oj=true)->
   i∈Region.ready .any ops listed->rz P ops oi v a->
   wpAnyQ P ops quiet Q fuel (listed.setIfInBounds i true) (a.put oi.dst v) w->wpAnyQ P ops quiet Q (fuel+1) listed a w:=by
 intro fuel;induction fuel with
 |zero=>
  intro listed a w _ _ hr hy H;refine⟨λh=>(by rw[h] at hr;cases hr),λj hj=>?_⟩;by_cases hji:j=i;·subst hji;exact(hy.later w).wpOp hi ⟨Rel.refl _ _,H⟩
  ·have:=ready_mono hj hji;rw[H.1] at this;cases this
 |succ fuel ih=>
  intro listed a w AU hfree hr hy H;refine⟨λh=>(by rw[h] at hr;cases hr),λj hj=>?_⟩;by_cases hji:j=i;·subst hji;exact(hy.later w).wpOp hi ⟨Rel.refl _ _,H⟩
  ·have h1:=H.2 j (ready_mono hj hji);obtain⟨A0,oj,gH,hall⟩:=mem_ready.1 hj
   have hi0:listed.getD i false=false:=by
    have h0:=(mem_ready.1 hr).1;rcases fV i listed.size with h'|h';·simpa [h'] using h0
    ·simp[lB h']
   have hnot:t j i=false:=MQ kX AU hi0 (j+1) j (by omega) (kL.1 gH).1 (kL.1 hi).1 (λoj' qm e he hb=>by
    rw[gH] at qm;injection qm with qm
    rw[<-qm] at he;exact hall e he hb)
   have hap:=hfree j oj gH hji A0 hnot;have h2:=VY gH hap (λcs b=>hsel i oi cs b hi) (λcs b=>hsel j oj cs b gH) hQ h1
   have Lh:∀k ok,ops[k]?=some ok->k≠i->(listed.setIfInBounds j true).getD k true=false->
     t k i=false->oi.apart ops ok=true:=λk ok hk hki hun hno=>by
    refine hfree k ok hk hki ?_ hno;by_cases hjk:j=k;·subst hjk;exact A0
    ·rw[getD_set_ne true hjk] at hun;exact hun
   refine wpOp_mono (λa' w' ⟨hsame,hrel,h3⟩=>⟨hrel,ih (listed.setIfInBounds j true) a' w' (AU.set gH hall) Lh (ready_mono hr (wC hji)) (hy.same hsame) ?_⟩) h2;rw[Wy _ _ hji];exact h3
end
end M
namespace M
open Go Go.RowKit
variable [Bs]
def l9(P:Program)(t:TypeId):Option TypeId:=match P.underlying t with
 |some (.slice e)=>some e
 |_=>none
def isStr(P:Program)(t:TypeId):Bool:=match P.underlying t with
 |some .string=>true
 |_=>false
def L6(P:Program)(t:TypeId):Bool:=match P.underlying t with
 |some .bool=>true
 |_=>false
def isInt(P:Program)(t:TypeId)(k:IntKind):Bool:=match P.underlying t with
 |some (.int k')=>decide (k'=k)
 |_=>false
def lJ(P:Program)(t:TypeId)(n:Nat):Bool:=match P.info? t with
 |some i=>decide (i.size=n)
 |none=>false
def Yw:TypeDesc->Bool
 |.struct _=>true
 |.array _ _=>true
 |_=>false
def va(P:Program)(t:TypeId)(b:Bool):Bool:=match P.underlying t with
 |some d=>Yw d==b
 |none=>false
section
variable {P:Program}{t:TypeId}
def n8{e:TypeId}(h:l9 P t=some e):P.underlying t=some (.slice e):=by
 unfold l9 at h;split at h;·rename_i e' he;injection h with h;subst h;exact he
 ·cases h
def BP(h:isStr P t=true):P.underlying t=some .string:=by
 unfold isStr at h;split at h;·assumption
 ·cases h
def afm(h:L6 P t=true):P.underlying t=some .bool:=by
 unfold L6 at h;split at h;·assumption
 ·cases h
def L7{k:IntKind}(h:isInt P t k=true):P.underlying t=some (.int k):=by
 unfold isInt at h;split at h;·rename_i k' hk;rw[hk,zM h]
 ·cases h
def sw{n:Nat}(h:lJ P t n=true):∃i,P.info? t=some i/\i.size=n:=by
 unfold lJ at h;split at h;·rename_i i hi;exact⟨i,hi,zM h⟩
 ·cases h
def BO{b:Bool}(h:va P t b=true):∃dd,P.underlying t=some dd/\(match dd with|.struct _=>true|.array _ _=>true|_=>false)=b:=by
 unfold va at h;split at h;·rename_i d hd;refine⟨d,hd,?_⟩;rw[en] at h;rw[<-h];cases d<;>rfl
 ·cases h
end
def dF(nt:Nat)(o:Oper)(d:Nat):Bool:=(match o.dst with|some d'=>d'==d|none=>false) && decide (d<nt)
def dN{nt:Nat}{o:Oper}{d:Nat}(h:dF nt o d=true):o.dst=some d/\d<nt:=by
 simp only[dF,aB,bp] at h;refine⟨?_,h.2⟩;have:=h.1;split at this;·rename_i d' hd;rw[hd];simpa using this
 ·cases this
def ym:cA->Bool
 |.mv _ _|.pick _ _ _ _|.un _ _ _|.bin _ _ _ _|.beq _ _ _ _|.ua _ _ _ _ _|.sV _ _ _|.conv _ _ _|.text _ _|.load _ _ _ _|.bN _ _|.p9 _ _ _|.uB _ _ _ _ _|.eT _ _ _ _|.dA _ _ _|.rE _ _ _ _ _ _
 |.ext _ _ _|.gv _ _ _ _|.k8 _ _ _ _ _|.mQ _ _ _|.len _ _|.tG _ _|.mn _ _|.mx _ _|.lT _ _ _ _ _=>true
 |_=>false
def s5:cA->Bool
 |.aN _ _ _|.box _ _ _|.new _ _|.make _ _ _ _ _|.bytes _ _|.lit _ _ _ _|.build _ _ _ _=>true
 |.call _ _ as=>jy as
 |.jZ _ _ as=>jy as
 |x=>ym x
def EF(P:Program)(nt:Nat)(o:Oper):cA->Bool
 |.mv d x=>dF nt o d && (match o.op with|.move x'=>aQ x' x|.assign x'=>aQ x' x|_=>false)
 |.pick d c a b=>dF nt o d && (match o.op with|.pick c' a' b'=>aQ c' c && aQ a' a && aQ b' b|_=>false)
 |.un d op x=>dF nt o d && (match o.op with|.unOp op' _ x'=>decide (op'=op) && aQ x' x|_=>false)
 |.bin d op x y=>dF nt o d && (match o.op with|.binOp op' _ x' y' _=>decide (op'=op) && aQ x' x && aQ y' y|_=>false)
 |.beq d neg x y=>dF nt o d && (match o.op with|.binOp op' ty x' y' _=>decide (op'=bif neg then .neq else .eql) && L6 P ty && aQ x' x && aQ y' y|_=>false)
 |.sV d neg x=>dF nt o d && (match o.op with|.binOp op' ty x' (.const (.slice none 0 0)) _=>decide (op'=bif neg then .neq else .eql) && (l9 P ty).isSome && aQ x' x|_=>false)
 |.ua d neg ks x y=>dF nt o d && (match o.op with|.binOp op' ty x' y' _=>decide (op'=bif neg then .neq else .eql) && KM P ty ks && aQ x' x && aQ y' y|_=>false)
 |.conv d k x=>dF nt o d && (match o.op with|.convert src dst x'=>(P.underlying src).isSome && isInt P dst k && aQ x' x|_=>false)
 |.text d x=>dF nt o d && (match o.op with|.convert src dst x'=>(match l9 P src with|some el=>isInt P el .u8 && isStr P dst && aQ x' x|none=>false)|_=>false)
 |.load d sz agg x=>dF nt o d && (match o.op with|.load ty x'=>lJ P ty sz && va P ty agg && (agg||decide (sz=1)) && aQ x' x|_=>false)
 |.lT d fz sz agg x=>dF nt o d && (match o.op with|.load ty x'=>lJ P ty sz && va P ty agg && (agg||decide (sz=1)) && aQ x' x|_=>false)
 |.bN d x=>dF nt o d && (match o.op with|.nilCheck x'=>aQ x' x|_=>false)
 |.p9 d x off=>dF nt o d && (match o.op with|.fieldAddr ty x' fi=>(match P.underlying ty with|some (.struct fs)=>(match fs[fi]? with|some f=>decide (f.offset=off) && !lJ P f.type 0 && (P.info? f.type).isSome && aQ x' x|none=>false)|_=>false)|_=>false)
 |.uB d x off sz agg=>dF nt o d && (match o.op with|.field ty x' fi=>(match P.underlying ty with|some (.struct fs)=>(match fs[fi]? with|some f=>decide (f.offset=off) && lJ P f.type sz && va P f.type agg && (agg||decide (sz=1)) && aQ x' x|none=>false)|_=>false)|_=>false)
 |.eT d sz x y=>dF nt o d && (match o.op with|.indexAddr ty x' y'=>(match l9 P ty with|some el=>lJ P el sz && decide (0<sz) && aQ x' x && aQ y' y|none=>false)|_=>false)
 |.dA d x y=>dF nt o d && (match o.op with|.index ty x' y'=>isStr P ty && aQ x' x && aQ y' y|_=>false)
 |.rE d n sz agg x y=>dF nt o d && (match o.op with|.index ty x' y'=>(match P.underlying ty with|some (.array n' el)=>decide (n'=n) && lJ P el sz && va P el agg && (agg||decide (sz=1)) && aQ x' x && aQ y' y|_=>false)|_=>false)
 |.ext d x i=>dF nt o d && (match o.op with|.extract x' i'=>i'==i && aQ x' x|_=>false)
 |.gv d x lo hi=>dF nt o d && (match o.op with|.slice ty x' lo' hi' none=>isStr P ty && aQ x' x && nw lo' lo && nw hi' hi|_=>false)
 |.k8 d sz x lo hi=>dF nt o d && (match o.op with|.slice ty x' lo' hi' none=>(match l9 P ty with|some el=>lJ P el sz && aQ x' x && nw lo' lo && nw hi' hi|none=>false)|_=>false)
 |.mQ d f cs=>dF nt o d && (match o.op with|.makeFunc (.func f') fs cs'=>f'==f && fs.toList.isEmpty && mC cs'.toList cs|_=>false)
 |.len d x=>dF nt o d && (match o.op with|.call ⟨.builtin .len,as,ts⟩=>(match as.toList,ts.toList with|[x'],[ty]=>(l9 P ty).isSome && aQ x' x|_,_=>false)|_=>false)
 |.tG d x=>dF nt o d && (match o.op with|.call ⟨.builtin .len,as,ts⟩=>(match as.toList,ts.toList with|[x'],[ty]=>isStr P ty && aQ x' x|_,_=>false)|_=>false)
 |.mn d [x,y]=>dF nt o d && (match o.op with|.call ⟨.builtin .min,as,_⟩=>(match as.toList with|[x',y']=>aQ x' x && aQ y' y|_=>false)|_=>false)
 |.mx d [x,y]=>dF nt o d && (match o.op with|.call ⟨.builtin .max,as,_⟩=>(match as.toList with|[x',y']=>aQ x' x && aQ y' y|_=>false)|_=>false)
 |_=>false
section
variable {P:Program}{c:Ctx}{G:Nat->C}{zl:Nat->Nat->Prop}{s:ah}{a:Act}{w:World}{o:Oper}{K:ah->Prop}
def Sr(op:BinOp)(ty:TypeId)(p q:Operand)(a b:Option Addr)(l m n k:Nat):eqGuard op ty p q (.slice a l m) (.slice b n k)=pure ():=by unfold eqGuard;cases op<;>rfl
def ah5{sz len:Nat}{e:Nat->Nat->C}(h:iZ (dL sz len e)=true):0<len/\0<sz:=by
 unfold dL at h;cases len with
 |zero=>cases h
 |succ len=>
  cases sz with
  |zero=>rw[zG] at h;cases h
  |succ sz=>exact⟨Nat.succ_pos _,Nat.succ_pos _⟩
def ahv(h:St c G zl s a w){d:Nat}{neg:Bool}{ty ty':TypeId}{e:TypeId}{x:AV}{x':Operand}(ho:o.op=.binOp (bif neg then .neq else .eql) ty x' (.const (.slice none 0 0)) ty')(ht:P.underlying ty=some (.slice e))(hd:o.dst=some d)(hn:d<c.nt)(hx:aQ x' x=true)
  (hK:aT P (.sV d neg x) s K):dM P c o a w K:=by
 obtain⟨p,p1,p2,p3⟩:=cx h hx;simp only[aT] at hK;split at hK
 ·rename_i m z xs h1;rw[<-p1] at h1;obtain⟨A,len,cap,f,rfl,hxs⟩:=AB h1;have hb:iZ xs=true->(A.map λq=>(⟨q.1,q.2.1,q.2.2⟩:Addr)).isNone=false:=λhc=>by rw[hxs] at hc;obtain⟨h1,h2⟩:=ah5 hc;obtain⟨g,o',hA,_⟩:=p3.ok.2.1 0 0 h1 h2;rw[hA];rfl
  have Sv:=hK _ hb;obtain⟨nb,hnb⟩:∃nb,(A.map λq=>(⟨q.1,q.2.1,q.2.2⟩:Addr)).isNone=nb:=⟨_,rfl⟩;rw[hnb] at Sv;have hc:a.eval (.const (.slice none 0 0))=.slice none 0 0:=rfl;refine dR h hd hn (x:=.bool (xor neg nb)) trivial (λ_ _ _ _ _ _ e=>(by cases e)) trivial (λw' _=>?_) Sv;cases neg;·simp only[execOp,ho,hc,<-p2,C.val,Sr,Sem.run_bind,Sem.run_pure,Result.andThen_ok,ri,Lib.run_eql_slice_nil w' ty e _ _ _ _ _ ht,Bool.false_bne,hnb]
  ·simp only[execOp,ho,hc,<-p2,C.val,Sr,Sem.run_bind,Sem.run_pure,Result.andThen_ok,mw,run_neq_slice_nil w' ty e _ _ _ ht,Bool.true_bne,hnb]
 ·exact hK.elim
def GM{b:Bool}{n m:Nat}(h:(b||decide (n=m))=true):b=true\/n=m:=by simpa using h
def zq{α:Type}{xs:Array α}{x:α}(h:xs.toList=[x]):xs= #[x]:=pN h
def IL{α:Type}{xs:Array α}{x y:α}(h:xs.toList=[x,y]):xs= #[x,y]:=pN h
def Km(h:St c G zl s a w){x:cA}(hc:EF P c.nt o x=true)(hK:aT P x s K):dM P c o a w K:=by
 unfold EF at hc;split at hc
 ·simp only[aB] at hc;obtain⟨hd,hn⟩:=dN hc.1;have hc:=hc.2;split at hc;·rename_i ho;exact Ui h (.inl ho) hd hn hc hK
  ·rename_i ho;exact Ui h (.inr ho) hd hn hc hK
  ·cases hc
 ·simp only[aB] at hc;obtain⟨hd,hn⟩:=dN hc.1;have hc:=hc.2;split at hc;·rename_i ho;simp only[aB] at hc;exact ahw h ho hd hn hc.1.1 hc.1.2 hc.2 hK
  ·cases hc
 ·simp only[aB] at hc;obtain⟨hd,hn⟩:=dN hc.1;have hc:=hc.2;split at hc;·rename_i ho;simp only[aB,bp] at hc;obtain⟨rfl,hx⟩:=hc;exact ahD h ho hd hn hx hK
  ·cases hc
 ·simp only[aB] at hc;obtain⟨hd,hn⟩:=dN hc.1;have hc:=hc.2;split at hc;·rename_i ho;simp only[aB,bp] at hc;obtain⟨⟨rfl,hx⟩,hy⟩:=hc;exact ag9 h ho hd hn hx hy hK
  ·cases hc
 ·simp only[aB] at hc;obtain⟨hd,hn⟩:=dN hc.1;have hc:=hc.2;split at hc;·rename_i ho;simp only[aB,bp] at hc;obtain⟨⟨⟨rfl,ht⟩,hx⟩,hy⟩:=hc;exact ag8 h ho (afm ht) hd hn hx hy hK
  ·cases hc
 ·simp only[aB] at hc;obtain⟨hd,hn⟩:=dN hc.1;have hc:=hc.2;split at hc;·rename_i ho;simp only[aB,bp] at hc;obtain⟨⟨rfl,ht⟩,hx⟩:=hc;obtain⟨el,ht⟩:=zK.1 ht;exact ahv h ho (n8 ht) hd hn hx hK
  ·cases hc
 ·simp only[aB] at hc;obtain⟨hd,hn⟩:=dN hc.1;have hc:=hc.2;split at hc;·rename_i ho;simp only[aB,bp] at hc;obtain⟨⟨⟨rfl,ht⟩,hx⟩,hy⟩:=hc;exact ag4 h ho ht hd hn hx hy hK
  ·cases hc
 ·simp only[aB] at hc;obtain⟨hd,hn⟩:=dN hc.1;have hc:=hc.2;split at hc;·rename_i ho;simp only[aB] at hc;obtain⟨⟨hs,ht⟩,hx⟩:=hc;obtain⟨sd,hs⟩:=zK.1 hs;exact ahi h ho hs (L7 ht) hd hn hx hK
  ·cases hc
 ·simp only[aB] at hc;obtain⟨hd,hn⟩:=dN hc.1;have hc:=hc.2;split at hc
  ·rename_i ho;split at hc;·rename_i el hel;simp only[aB] at hc;exact ahC h ho (n8 hel) (L7 hc.1.1) (BP hc.1.2) hd hn hc.2 hK
   ·cases hc
  ·cases hc
 ·simp only[aB] at hc;obtain⟨hd,hn⟩:=dN hc.1;have hc:=hc.2;split at hc;·rename_i ho;simp only[aB] at hc;exact Uh h ho (sw hc.1.1.1) (BO hc.1.1.2) (GM hc.1.2) hd hn hc.2 hK
  ·cases hc
 ·simp only[aB] at hc;obtain⟨hd,hn⟩:=dN hc.1;have hc:=hc.2;split at hc;·rename_i ho;simp only[aB] at hc;exact ahp h ho (sw hc.1.1.1) (BO hc.1.1.2) (GM hc.1.2) hd hn hc.2 hK
  ·cases hc
 ·simp only[aB] at hc;obtain⟨hd,hn⟩:=dN hc.1;have hc:=hc.2;split at hc;·rename_i ho;exact ahg h ho hd hn hc hK
  ·cases hc
 ·simp only[aB] at hc;obtain⟨hd,hn⟩:=dN hc.1;have hc:=hc.2;split at hc
  ·rename_i ho;split at hc
   ·rename_i fs hfs;split at hc;·rename_i f hf;simp only[aB,bp,rq] at hc;obtain⟨⟨⟨h1,h2⟩,h3⟩,h4⟩:=hc;obtain⟨i,hi⟩:=zK.1 h3;refine ahk h ho hfs hf h1 ⟨i,hi,λh0=>?_⟩ hd hn h4 hK;simp[lJ,hi,h0] at h2
    ·cases hc
   ·cases hc
  ·cases hc
 ·simp only[aB] at hc;obtain⟨hd,hn⟩:=dN hc.1;have hc:=hc.2;split at hc
  ·rename_i ho;split at hc
   ·rename_i fs hfs;split at hc;·rename_i f hf;simp only[aB,bp] at hc;obtain⟨⟨⟨⟨h1,h2⟩,h3⟩,h4⟩,h5⟩:=hc;exact ahl h ho hfs hf h1 (sw h2) (BO h3) (GM h4) hd hn h5 hK
    ·cases hc
   ·cases hc
  ·cases hc
 ·simp only[aB] at hc;obtain⟨hd,hn⟩:=dN hc.1;have hc:=hc.2;split at hc
  ·rename_i ho;split at hc;·rename_i el hel;simp only[aB,bp] at hc;obtain⟨⟨⟨h1,h2⟩,h3⟩,h4⟩:=hc;exact ahm h ho (n8 hel) (sw h1) h2 hd hn h3 h4 hK
   ·cases hc
  ·cases hc
 ·simp only[aB] at hc;obtain⟨hd,hn⟩:=dN hc.1;have hc:=hc.2;split at hc;·rename_i ho;simp only[aB] at hc;exact ahy h ho (BP hc.1.1) hd hn hc.1.2 hc.2 hK
  ·cases hc
 ·simp only[aB] at hc;obtain⟨hd,hn⟩:=dN hc.1;have hc:=hc.2;split at hc
  ·rename_i ho;split at hc;·rename_i n' el hel;simp only[aB,bp] at hc;obtain⟨⟨⟨⟨⟨rfl,h2⟩,h3⟩,h4⟩,h5⟩,h6⟩:=hc;exact ag5 h ho hel (sw h2) (BO h3) (GM h4) hd hn h5 h6 hK
   ·cases hc
  ·cases hc
 ·simp only[aB] at hc;obtain⟨hd,hn⟩:=dN hc.1;have hc:=hc.2;split at hc;·rename_i ho;simp only[aB,en] at hc;obtain⟨rfl,hx⟩:=hc;exact ahj h ho hd hn hx hK
  ·cases hc
 ·simp only[aB] at hc;obtain⟨hd,hn⟩:=dN hc.1;have hc:=hc.2;split at hc;·rename_i ho;simp only[aB] at hc;obtain⟨⟨⟨h1,h2⟩,h3⟩,h4⟩:=hc;exact ahA h ho (BP h1) hd hn h2 h3 h4 hK
  ·cases hc
 ·simp only[aB] at hc;obtain⟨hd,hn⟩:=dN hc.1;have hc:=hc.2;split at hc
  ·rename_i ho;split at hc;·rename_i el hel;simp only[aB] at hc;obtain⟨⟨⟨h1,h2⟩,h3⟩,h4⟩:=hc;exact ahx h ho (n8 hel) (sw h1) hd hn h2 h3 h4 hK
   ·cases hc
  ·cases hc
 ·simp only[aB] at hc;obtain⟨hd,hn⟩:=dN hc.1;have hc:=hc.2;split at hc;·rename_i fs cs' ho;simp only[aB,en] at hc;obtain⟨⟨rfl,h2⟩,h3⟩:=hc;have hfs:fs= #[]:=pN (List.isEmpty_iff.1 h2);subst hfs;exact ahr h ho hd hn h3 hK
  ·cases hc
 ·simp only[aB] at hc;obtain⟨hd,hn⟩:=dN hc.1;have hc:=hc.2;split at hc
  ·rename_i as ts ho;split at hc;·rename_i x' ty has hts;simp only[aB] at hc;obtain⟨el,hel⟩:=zK.1 hc.1;rw[zq has,zq hts] at ho;exact ahn h ho (n8 hel) hd hn hc.2 hK
   ·cases hc
  ·cases hc
 ·simp only[aB] at hc;obtain⟨hd,hn⟩:=dN hc.1;have hc:=hc.2;split at hc
  ·rename_i as ts ho;split at hc;·rename_i x' ty has hts;simp only[aB] at hc;rw[zq has,zq hts] at ho;exact ahz h ho (BP hc.1) hd hn hc.2 hK
   ·cases hc
  ·cases hc
 ·simp only[aB] at hc;obtain⟨hd,hn⟩:=dN hc.1;have hc:=hc.2;split at hc
  ·rename_i as ts ho;split at hc;·rename_i x' y' has;simp only[aB] at hc;rw[IL has] at ho;exact ahs h ho hd hn hc.1 hc.2 hK
   ·cases hc
  ·cases hc
 ·simp only[aB] at hc;obtain⟨hd,hn⟩:=dN hc.1;have hc:=hc.2;split at hc
  ·rename_i as ts ho;split at hc;·rename_i x' y' has;simp only[aB] at hc;rw[IL has] at ho;exact aht h ho hd hn hc.1 hc.2 hK
   ·cases hc
  ·cases hc
 ·cases hc
end
end M
namespace M
open Go Go.RowKit
variable [Bs]
def Step(P:Program)(c:Ctx)(o:Oper)(a:Act)(w:World)(K:ah->Prop)(q:Bool):Prop:=
 (∃v w',((execOp a.eval o).run P w=.ok (.value v) w'\/((execOp a.eval o).run P w=.ok .skip w'/\v=undef))/\Rel q w w'/\∃G' aH s',K s'/\St c G' aH s' (a.put o.dst v) w')\/rB P c o a w K q
section
variable {P:Program}{c:Ctx}{G:Nat->C}{zl:Nat->Nat->Prop}{s:ah}{a:Act}{w:World}{o:Oper}{K:ah->Prop}
def Good.step(h:Good P c o a w K):Step P c o a w K false:=by obtain⟨v,w',hr,h⟩:=h;exact .inl ⟨v,w',hr,λhq=>by (cases hq),h⟩
def jX.step(h:jX P c o a w K)(q:Bool):Step P c o a w K q:=by obtain⟨v,w',hr,hE,h⟩:=h;exact .inl ⟨v,w',.inl hr,λ_=>hE,h⟩
def Step.wp{q:Bool}(h:Step P c o a w K q)(Q:Exit->Act->World->Prop):o.wp P a w (λa' w'=>Rel q w w'/\∃G' aH s',K s'/\St c G' aH s' a' w') Q:=by
 unfold Oper.wp;rcases h with ⟨v,w',hr,hq,h⟩|⟨f,args,hr,hc⟩
 ·rcases hr with hr|⟨hr,rfl⟩;·rw[hr];exact⟨hq,h⟩
  ·rw[hr];exact⟨hq,h⟩
 ·rw[hr];refine Calls.mono hc λe w' he=>?_;obtain⟨v,rfl,hq,h⟩:=he;exact⟨hq,h⟩
def Pq(P:Program)(t:TypeId)(sz bytes:Nat)(z:List X):Bool:=match P.info? t with
 |some i=>decide (i.size=sz) && decide (i.bytes=bytes) && (match i.zero with|some v=>ny v.cells.toList z|none=>false)
 |none=>false
def amN{t:TypeId}{sz bytes:Nat}{z:List X}(h:Pq P t sz bytes z=true):∃i v,P.info? t=some i/\i.size=sz/\i.bytes=bytes/\i.zero=some v/\ny v.cells.toList z=true:=by
 unfold Pq at h;split at h
 ·rename_i i hi;simp only[aB,bp] at h;obtain⟨⟨h1,h2⟩,h3⟩:=h;split at h3;·rename_i v hv;exact⟨i,v,hi,h1,h2,hv,h3⟩
  ·cases h3
 ·cases h
def Pu(P:Program)(t:TypeId)(sz bytes:Nat):Bool:=match P.info? t with
 |some i=>decide (i.size=sz) && decide (i.bytes=bytes) && (match i.zero with|some v=>decide (v.cells.size=sz)|none=>false)
 |none=>false
def amQ{t:TypeId}{sz bytes:Nat}(h:Pu P t sz bytes=true):∃i v,P.info? t=some i/\i.size=sz/\i.bytes=bytes/\i.zero=some v/\v.cells.size=sz:=by
 unfold Pu at h;split at h
 ·rename_i i hi;simp only[aB,bp] at h;obtain⟨⟨h1,h2⟩,h3⟩:=h;split at h3;·rename_i v hv;exact⟨i,v,hi,h1,h2,hv,zM h3⟩
  ·cases h3
 ·cases h
def Pr(P:Program)(t:TypeId)(sz:Nat):Bool:=match P.info? t with
 |some i=>decide (i.size=sz) && (match i.zero with|some v=>decide (v.cells.size=sz)|none=>false)
 |none=>false
def amP{t:TypeId}{sz:Nat}(h:Pr P t sz=true):∃i v,P.info? t=some i/\i.size=sz/\i.zero=some v/\v.cells.size=sz:=by
 unfold Pr at h;split at h
 ·rename_i i hi;simp only[aB,bp] at h;obtain⟨h1,h3⟩:=h;split at h3;·rename_i v hv;exact⟨i,v,hi,h1,hv,zM h3⟩
  ·cases h3
 ·cases h
def D0(P:Program)(t:TypeId)(z:List X):Bool:=match P.info? t with
 |some i=>(match i.zero with|some v=>ny v.cells.toList z|none=>false)
 |none=>false
def Pt{t:TypeId}{z:List X}(h:D0 P t z=true):∃i v,P.info? t=some i/\i.zero=some v/\ny v.cells.toList z=true:=by
 unfold D0 at h;split at h
 ·rename_i i hi;split at h;·rename_i v hv;exact⟨i,v,hi,hv,h⟩
  ·cases h
 ·cases h
def placesOf(P:Program)(t:TypeId):Option (List (Nat×Nat)):=match P.underlying t with
 |some (.struct fs)=>fs.toList.mapM λf=>(P.info? f.type).map λi=>(f.offset,i.size)
 |some (.array n e)=>(P.info? e).map λi=>(List.range n).map λk=>(k*i.size,i.size)
 |_=>none
def RI{p q:Nat->Option (Nat×Nat)}(h:∀i r,p i=some r->q i=some r):∀(parts:List (Nat×Value)) (cells r:Array Value),Instr.fill p cells parts=some r->Instr.fill q cells parts=some r
 |[],cells,r,hf=>hf
 |(i,v)::rest,cells,r,hf=>by
  unfold Instr.fill at hf⊢;cases hp:p i with
  |none=>rw[hp] at hf;cases hf
  |some pr=>
   rw[hp] at hf;rw[h i pr hp];obtain⟨off,size⟩:=pr;simp only at hf⊢;split at hf;·cases hf
   ·rename_i hc;rw[aF hc];exact RI h rest _ r hf
def ahI{t:TypeId}{places:List (Nat×Nat)}(hp:placesOf P t=some places){i:TypeInfo}(hi:P.info? t=some i){v:Value}(hz:i.zero=some v):∀parts cells,Instr.fill (λi=>places[i]?) v.cells parts=some cells->P.built t parts=some cells:=by
 intro parts cells hf;unfold placesOf at hp;unfold Program.built;rw[hi];split at hp;·rename_i fs hfs;rw[hfs];simp only[hz,hp];simpa using hf
 ·rename_i n e he;rw[he];cases hie:P.info? e with
  |none=>rw[hie] at hp;cases hp
  |some ie=>
   rw[hie] at hp;simp only[cv,dP] at hp;simp only[hz,hie];refine RI (λk r hk=>?_) _ _ _ hf;rw[<-hp,C.de] at hk;split at hk;·exact hk
   ·cases hk
 ·cases hp
def Au(nt:Nat)(o:Oper)(d:Option Nat):Bool:=match o.dst,d with
 |some d',some d=>d'==d && decide (d<nt)
 |none,none=>true
 |_,_=>false
def KD{nt:Nat}{d:Option Nat}(h:Au nt o d=true):o.dst=d/\∀n,o.dst=some n->n<nt:=by
 unfold Au at h;split at h;·rename_i d' d hd;simp only[aB,en,bp] at h;rw[hd,h.1];exact⟨rfl,λn hn=>by injection hn with hn;rw[<-hn];exact h.2⟩
 ·rename_i hd;rw[hd];exact⟨rfl,λn hn=>by cases hn⟩
 ·cases h
def Kn(P:Program)(nt:Nat)(o:Oper):cA->Bool
 |.aN d h x=>dF nt o d && (match o.op with|.assign x'=>aQ x' x|_=>false)
 |.box d h x=>dF nt o d && (match o.op with|.box _ x'=>aQ x' x|_=>false)
 |.new d z=>dF nt o d && (match o.op with|.alloc ty=>D0 P ty z|_=>false)
 |.make d sz bytes z n=>dF nt o d && (match o.op with|.makeSlice ty n1 n2=>(match l9 P ty with|some el=>Pq P el sz bytes z && decide (0<bytes) && decide (0<sz) && decide (z.length=sz) && aQ n1 n && aQ n2 n|none=>false)|_=>false)
 |.bytes d x=>dF nt o d && (match o.op with|.convert src dst x'=>(match l9 P dst with|some el=>isInt P el .u8 && isStr P src && aQ x' x|none=>false)|_=>false)
 |.lit d h sz ps=>dF nt o d && (match o.op with|.buildSlice ty n ps'=>(match l9 P ty with|some el=>Pr P el sz && decide (0<sz) && decide (ps'.toList.length=n) && decide (n*sz<=16777216) && An 0 ps'.toList ps|none=>false)|_=>false)
 |.build d h z ps=>dF nt o d && (match o.op with|.build ty ps'=>(match placesOf P ty with|some places=>D0 P ty z && uq places z.length ps'.toList ps|none=>false)|_=>false)
 |.store sz h y x=>(match o.dst with|none=>true|some _=>false) && (match o.op with|.store ty y' x'=>lJ P ty sz && decide (0<sz) && aQ x' x && aQ y' y|_=>false)
 |.app d h sz bytes x y=>dF nt o d && (match o.op with|.call ⟨.builtin .append,as,ts⟩=>(match as.toList,ts.toList with|[x',y'],[ty,ty']=>(match l9 P ty,l9 P ty' with|some el,some _=>Pu P el sz bytes && decide (0<bytes) && decide (0<sz) && aQ x' x && aQ y' y|_,_=>false)|_,_=>false)|_=>false)
 |.call d f as=>Au nt o d && (match o.op with|.call ⟨.value (.func f'),as',_⟩=>f'==f && aA P f && gV as'.toList as|_=>false)
 |.jZ d x as=>Au nt o d && (match o.op with|.call ⟨.value x',as',_⟩=>aQ x' x && gV as'.toList as|_=>false)
 |.uw sz z x=>(match o.dst with|none=>true|some _=>false) && (match o.op with|.call ⟨.builtin .clear,as,ts⟩=>(match as.toList,ts.toList with|[x'],[ty]=>(match l9 P ty with|some el=>D0 P el z && decide (z.length=sz) && decide (0<sz) && aQ x' x|_=>false)|_,_=>false)|_=>false)
 |.rL d f x as=>Au nt o d && (match o.op with|.call ⟨.value (.func f'),as',_⟩=>f'==f && aA P f && (match as'.toList with|x'::l'=>aQ x' x && gV l' as && jy as|[]=>false)|_=>false)
 |_=>false
def aal(h:St c G zl s a w){x:cA}(hc:Kn P c.nt o x=true)(hK:aT P x s K):Step P c o a w K (s5 x):=by
 unfold Kn at hc;split at hc
 ·simp only[aB] at hc;obtain⟨hd,hn⟩:=dN hc.1;have hc:=hc.2;split at hc;·rename_i ho;exact(ag7 h ho hd hn hc hK).step _
  ·cases hc
 ·simp only[aB] at hc;obtain⟨hd,hn⟩:=dN hc.1;have hc:=hc.2;split at hc;·rename_i ho;exact(aha h ho hd hn hc hK).step _
  ·cases hc
 ·simp only[aB] at hc;obtain⟨hd,hn⟩:=dN hc.1;have hc:=hc.2;split at hc;·rename_i ho;obtain⟨i,v,h1,h2,h3⟩:=Pt hc;exact(ahu h ho h1 h2 h3 hd hn hK).step _
  ·cases hc
 ·simp only[aB] at hc;obtain⟨hd,hn⟩:=dN hc.1;have hc:=hc.2;split at hc
  ·rename_i ho;split at hc;·rename_i el hel;simp only[aB,bp] at hc;obtain⟨⟨⟨⟨⟨h1,h2⟩,h3⟩,h4⟩,h5⟩,h6⟩:=hc;obtain⟨i,v,i1,i2,i3,i4,i5⟩:=amN h1;exact(ahq h ho (n8 hel) i1 i4 i2 i3 h2 h3 h4 i5 hd hn h5 h6 hK).step _
   ·cases hc
  ·cases hc
 ·simp only[aB] at hc;obtain⟨hd,hn⟩:=dN hc.1;have hc:=hc.2;split at hc
  ·rename_i ho;split at hc;·rename_i el hel;simp only[aB] at hc;exact(ahc h ho (BP hc.1.2) (n8 hel) (L7 hc.1.1) hd hn hc.2 hK).step _
   ·cases hc
  ·cases hc
 ·simp only[aB] at hc;obtain⟨hd,hn⟩:=dN hc.1;have hc:=hc.2;split at hc
  ·rename_i ho;split at hc;·rename_i el hel;simp only[aB,bp] at hc;obtain⟨⟨⟨⟨h1,h2⟩,h3⟩,h4⟩,h5⟩:=hc;obtain⟨i,v,i1,i2,i3,i4⟩:=amP h1;exact(aho h ho (n8 hel) i1 i3 i2 h2 i4 h3 h4 hd hn h5 hK).step _
   ·cases hc
  ·cases hc
 ·simp only[aB] at hc;obtain⟨hd,hn⟩:=dN hc.1;have hc:=hc.2;split at hc
  ·rename_i ho;split at hc;·rename_i places hp;simp only[aB] at hc;obtain⟨i,v,i1,i2,i3⟩:=Pt hc.1;exact(ahb (i:=i) h ho (ahI hp i1 i2) i3 hd hn hc.2 hK).step _
   ·cases hc
  ·cases hc
 ·simp only[aB] at hc;obtain⟨hd,hc⟩:=hc
  have hd:o.dst=none:=by
   split at hd;·assumption
   ·cases hd
  split at hc;·rename_i ho;simp only[aB,bp] at hc;obtain⟨⟨⟨h1,h2⟩,h3⟩,h4⟩:=hc;exact(ahB h ho (sw h1) h2 hd h3 h4 hK).step
  ·cases hc
 ·simp only[aB] at hc;obtain⟨hd,hn⟩:=dN hc.1;have hc:=hc.2;split at hc
  ·rename_i as ts ho;split at hc
   ·rename_i x' y' ty ty' has hts;split at hc;·rename_i el EV hel aeB;simp only[aB,bp] at hc;obtain⟨⟨⟨⟨h1,h2⟩,h3⟩,h4⟩,h5⟩:=hc;obtain⟨i,v,i1,i2,i3,i4,i5⟩:=amQ h1;rw[IL has,IL hts] at ho;exact(ag6 h ho (n8 hel) (n8 aeB) i1 i4 i2 i3 h2 h3 i5 hd hn h4 h5 hK).step
    ·cases hc
   ·cases hc
  ·cases hc
 ·simp only[aB] at hc;obtain⟨hd,hc⟩:=hc;obtain⟨hd,hn⟩:=KD hd;subst hd;split at hc;·rename_i f' as' ts ho;simp only[aB,en] at hc;obtain⟨⟨rfl,h2⟩,h3⟩:=hc;obtain⟨fn,f1,f2,f3⟩:=KN h2;exact .inr (ahd h ho f1 f2 f3 hn h3 hK)
  ·cases hc
 ·simp only[aB] at hc;obtain⟨hd,hc⟩:=hc;obtain⟨hd,hn⟩:=KD hd;subst hd;split at hc;·rename_i x' as' ts ho;simp only[aB] at hc;exact .inr (ahf h ho hc.1 hn hc.2 hK)
  ·cases hc
 ·simp only[aB] at hc;obtain⟨hd,hc⟩:=hc
  have hd:o.dst=none:=by
   split at hd;·assumption
   ·cases hd
  split at hc
  ·rename_i as ts ho;split at hc
   ·rename_i x' ty has hts;split at hc;·rename_i el hel;simp only[aB,bp] at hc;obtain⟨⟨⟨h1,h2⟩,h3⟩,h4⟩:=hc;obtain⟨i,v,i1,i2,i3⟩:=Pt h1;rw[zq has,zq hts] at ho;exact(ahh h ho (n8 hel) i1 i2 i3 h2 h3 hd h4 hK).step
    ·cases hc
   ·cases hc
  ·cases hc
 ·simp only[aB] at hc;obtain⟨hd,hc⟩:=hc;obtain⟨hd,hn⟩:=KD hd;subst hd;split at hc
  ·rename_i f' as' ts ho;simp only[aB,en] at hc;obtain⟨⟨rfl,h2⟩,h3⟩:=hc;obtain⟨fn,f1,f2,f3⟩:=KN h2;split at h3;·rename_i x' l' hl;simp only[aB] at h3;exact .inr (ahe h ho hl f1 f2 f3 hn h3.1.1 h3.1.2 h3.2 hK)
   ·cases h3
  ·cases hc
 ·cases hc
def Am(P:Program)(nt:Nat)(o:Oper)(x:cA):Bool:=bif ym x then EF P nt o x else Kn P nt o x
def QZ(h:St c G zl s a w){x:cA}(hc:Am P c.nt o x=true)(hK:aT P x s K):Step P c o a w K (s5 x):=by
 unfold Am at hc;cases hr:ym x with
 |true=>rw[hr] at hc;exact(Km h hc hK).quiet.step _
 |false=>rw[hr] at hc;exact aal h hc hK
end
end M
namespace M
open Go Go.RowKit
variable [Bs]
section
variable {P:Program}{c:Ctx}{G:Nat->C}{zl:Nat->Nat->Prop}{s s':ah}{a:Act}{w:World}{K:ah->Prop}{ops:Array Oper}
def St.congr(h:St c G zl s a w)(he:∀t,get s t=get s' t):St c G zl s' a w:=
 {h with inv:={h.inv with er:=λt=>(h.inv.er t).trans (he t)}}
def p7(P:Program)(nt:Nat)(ops:Array Oper)(i:Nat)(g:M.G):Bool:=match ops[i]? with
 |some o=>(match o.guard,g.g with
  |none,none=>true
  |some (j,b),some (t,b')=>b==b' && decide (t<base) && (match ops[j]? with|some oj=>decide (oj.dst=some t)|none=>false)
  |_,_=>false) && decide (o.dst=g.o.dst) && (match g.o.dst with|some d=>decide (d<nt)|none=>true) && Am P nt o g.o
 |none=>false
def wJ(c:Ctx)(K:ah->Prop)(a:Act)(w:World):Prop:=∃G zl s,K s/\St c G zl s a w
def Ws(h:St c G zl s a w){t j:Nat}{v:Bool}(hv:get s t=.bool v)(ht:t<base){oj:Oper}(hj:ops[j]?=some oj)(hd:oj.dst=some t):yielded ops a.tmps j=some v:=by
 have hG:=h.inv.er t;rw[hv] at hG;have hc:=rX hG;have:=h.val t ht;rw[hc,C.val] at this;unfold yielded;simp only[hj,gx,hd];rw[wD] at this;cases ht:a.tmps[t]? with
 |none=>rw[ht] at this;simp[undef] at this
 |some u=>rw[ht] at this;simp only[tO] at this;rw[<-this]
def St.IW(h:St c G zl s a w)(d:Option Nat)(hn:∀n,d=some n->n<c.nt):∃G',St c G' zl (fS d (.av []) s) (a.put d undef) w:=by
 cases d with
 |none=>exact⟨G,h⟩
 |some n=>exact h.put (x:=.av 0 λ_=>.dead undef) (hn n rfl) ⟨λj hj=>(by omega),λj hj=>(by omega)⟩ (λ_ _ b k ⟨j,hj,_⟩=>(by omega)) (λb k ⟨j,hj,_⟩=>(by omega)) (λj hj=>(by omega)) (λb k ⟨j,hj,_⟩=>(by omega))
def Fg{t:Nat}{v:Bool}(hv:get s t=.bool v):∀u,get s u=get ((t,.bool v)::s) u:=λu=>by
 rw[xo];split;·rename_i e;subst e;exact hv
 ·rfl
def Wt(h:St c G zl s a w){t j:Nat}(hv:get s t=.av [])(ht:t<base){oj:Oper}(hj:ops[j]?=some oj)(hd:oj.dst=some t):yielded ops a.tmps j=none:=by
 have hG:=h.inv.er t;rw[hv] at hG;have hval:=h.val t ht
 have:(G t).val=.tuple #[]:=by
  cases hc:G t with
  |av n f=>rw[hc] at hG;simp only[C.er,X.av.injEq,List.map_eq_nil_iff,List.range_eq_nil] at hG;subst hG;rfl
  |_=>rw[hc] at hG;simp[C.er] at hG
 rw[this] at hval;unfold yielded;simp only[hj,gx,hd];rw[wD] at hval;cases ht:a.tmps[t]? with
 |none=>rfl
 |some u=>rw[ht] at hval;simp only[tO] at hval;rw[<-hval]
def QX{i:Nat}{g:M.G}(h:St c G zl s a w)(hc:p7 P c.nt ops i g=true)(hK:pX P g s K)(Q:Exit->Act->World->Prop):
  wpOp P ops Q i (λa' w'=>Rel (s5 g.o) w w'/\wJ c K a' w') a w:=by
 unfold p7 at hc;split at hc
 ·rename_i o ho;simp only[aB,bp] at hc;obtain⟨⟨⟨hg,hd⟩,hn⟩,hop⟩:=hc;unfold wpOp;simp only[ho];obtain⟨gg,go⟩:=g;split at hg
  ·rename_i h1 h2;subst h2;have hw:Region.wanted o (yielded ops a.tmps)=true:=by simp[Region.wanted,h1]
   rw[ax hw];exact .inl ((QZ h hop hK).wp Q)
  ·rename_i j b t b' h1 h2;subst h2;simp only[aB,en,bp] at hg;obtain⟨⟨rfl,ht⟩,hj⟩:=hg;split at hj
   ·rename_i oj gH;have hj:=zM hj;simp only[pX] at hK;split at hK
    ·rename_i v hv;have hy:=Ws h hv ht gH hj;obtain⟨k1,k2⟩:=hK;have sE:Region.wanted o (yielded ops a.tmps)=(v==b):=by simp only[Region.wanted,h1,hy];cases v<;>cases b<;>rfl
     rw[sE];by_cases lP:v=b;·subst lP;rw[ax (by simp)];exact .inl ((QZ (h.congr (Fg hv)) hop (k1 rfl)).wp Q)
     ·have hnb:v= !b:=by cases v<;>cases b<;>first|rfl|exact absurd rfl lP
      rw[aF (by simpa using lP)];subst hnb;obtain⟨G',h'⟩:=(h.congr (Fg hv)).IW o.dst (λn jt=>by rw[hd] at jt;simp only[jt] at hn;simpa using hn)
      rw[hd] at h'⊢;exact⟨Rel.refl _ _,G',zl,_,k2 rfl,h'⟩
    ·rename_i hv;have hy:=Wt h hv ht gH hj;have sE:Region.wanted o (yielded ops a.tmps)=false:=by simp only[Region.wanted,h1,hy];rfl
     rw[sE,aF (by simp)];obtain⟨G',h'⟩:=h.IW o.dst (λn jt=>by rw[hd] at jt;simp only[jt] at hn;simpa using hn)
     rw[hd] at h'⊢;exact⟨Rel.refl _ _,G',zl,_,hK,h'⟩
    ·exact hK.elim
   ·cases hj
  ·cases hg
 ·cases hc
def aak{i:Nat}{g:M.G}(h:St c G zl s a w)(hc:p7 P c.nt ops i g=true)(hr:ym g.o=true)(hK:pX P g s K):
  ∃o v,ops[i]?=some o/\ow P ops o v a w/\wJ c K (a.put o.dst v) w:=by
 unfold p7 at hc;split at hc
 ·rename_i o ho;simp only[aB,bp] at hc;obtain⟨⟨⟨hg,hd⟩,hn⟩,hop⟩:=hc;obtain⟨gg,go⟩:=g;unfold Am at hop;simp only at hr hop;rw[hr] at hop;simp only[mw] at hop;refine⟨o,?_⟩;split at hg
  ·rename_i h1 h2;subst h2;have hw:Region.wanted o (yielded ops a.tmps)=true:=by simp[Region.wanted,h1]
   obtain⟨v,hv,G',aH,s',k1,k2⟩:=Km h hop hK;exact⟨v,ho,.inl ⟨hw,hv⟩,G',aH,s',k1,k2⟩
  ·rename_i j b t b' h1 h2;subst h2;simp only[aB,en,bp] at hg;obtain⟨⟨rfl,ht⟩,hj⟩:=hg;split at hj
   ·rename_i oj gH;have hj:=zM hj;simp only[pX] at hK;split at hK
    ·rename_i v hv;have hy:=Ws h hv ht gH hj;obtain⟨k1,k2⟩:=hK;have sE:Region.wanted o (yielded ops a.tmps)=(v==b):=by simp only[Region.wanted,h1,hy];cases v<;>cases b<;>rfl
     by_cases lP:v=b;·subst lP;obtain⟨u,hu,G',aH,s',k3,k4⟩:=Km (h.congr (Fg hv)) hop (k1 rfl);exact⟨u,ho,.inl ⟨by rw[sE];simp,hu⟩,G',aH,s',k3,k4⟩
     ·have hnb:v= !b:=by cases v<;>cases b<;>first|rfl|exact absurd rfl lP
      subst hnb;obtain⟨G',h'⟩:=(h.congr (Fg hv)).IW o.dst (λn jt=>by rw[hd] at jt;simp only[jt] at hn;simpa using hn)
      refine⟨undef,ho,.inr ⟨by rw[sE];simp,rfl⟩,G',zl,_,k2 rfl,?_⟩;rw[hd] at h'⊢;exact h'
    ·rename_i hv;have hy:=Wt h hv ht gH hj;have sE:Region.wanted o (yielded ops a.tmps)=false:=by simp only[Region.wanted,h1,hy];rfl
     obtain⟨G',h'⟩:=h.IW o.dst (λn jt=>by rw[hd] at jt;simp only[jt] at hn;simpa using hn)
     refine⟨undef,ho,.inr ⟨sE,rfl⟩,G',zl,_,hK,?_⟩;rw[hd] at h'⊢;exact h'
    ·exact hK.elim
   ·cases hj
  ·cases hg
 ·cases hc
def jW(c:Ctx)(Q:Ex->ah->Prop):Exit->Act->World->Prop
 |.normal,a,w=>wJ c (Q .normal) a w
 |.exit id,a,w=>wJ c (Q (.exit id)) a w
 |.ret,a,w=>wJ c (Q .ret) a w
 |_,_,_=>False
def rP(P:Program)(nt:Nat)(ops:Array Oper):Nat->List M.G->Bool
 |k,[]=>decide (k=ops.size)
 |k,g::l=>p7 P nt ops k g && rP P nt ops (k+1) l
def Uk{Q:Ex->ah->Prop}:∀(l:List M.G) (k:Nat) {G:Nat->C} {zl:Nat->Nat->Prop} {s:ah} {a:Act} {w:World},rP P c.nt ops k l=true->St c G zl s a w->kM P l s Q->wpOps P ops (jW c Q) (List.range' k l.length) a w
 |[],k,G,zl,s,a,w,hc,h,hK=>⟨G,zl,s,hK,h⟩
 |g::l,k,G,zl,s,a,w,hc,h,hK=>by simp only[rP,aB] at hc;rw[cw,List.range'_succ,wpOps_cons];refine wpOp_mono (λa' w' ⟨_,G',aH,s',k1,k2⟩=>?_) (QX h hc.1 hK (jW c Q));exact Uk l (k+1) hc.2 k2 k1
def QY:∀(l:List M.G) (k:Nat),rP P c.nt ops k l=true->k+l.length=ops.size
 |[],k,h=>by simpa [rP] using h
 |g::l,k,h=>by simp only[rP,aB] at h;have:=QY l (k+1) h.2;simp only[cw];omega
def ahZ{Q:Ex->ah->Prop}{l:List M.G}{id:Nat}(hc:rP P c.nt ops 0 l=true)(h:St c G zl s a w)(hK:kM P l s Q):(Code.region id ops false).wp P (jW c Q) a w:=by refine wp_region ?_;have hl:=QY l 0 hc;rw[List.range_eq_range',<-hl,nq];exact Uk l 0 hc h hK
def Sb(Mf:List Nat)(s:ah)(t:Nat):∀ks:List Nat,get (ks.map λk=>(k,(get s k).only Mf)) t=if ks.contains t then (get s t).only Mf else .dead
 |[]=>rfl
 |k::ks=>by
  simp only[bn,get];by_cases h:k=t;·subst h;simp
  ·have h1:(k==t)=false:=by simpa using h
   have h2:(k::ks).contains t=ks.contains t:=by
    simp only[List.contains_cons];have:(t==k)=false:=by simpa using λe=>h e.symm
    rw[this,Bool.false_or]
   rw[h1,h2,ri];exact Sb Mf s t ks
def St.keep(h:St c G zl s a w)(ks:List Nat):∃G',St c G' zl (M.keep ks s) a w:=by
 let G':Nat->C:=λt=>if ks.contains t then (G t).aE (C.others ks) else .dead (G t).val
 have hin:∀t,ks.contains t=true->G' t=(G t).aE (C.others ks):=λt ht=>ax ht;have hout:∀t,ks.contains t=false->G' t=.dead (G t).val:=λt ht=>aF (by rw[ht];simp)
 have hv:∀t,(G' t).val=(G t).val:=λt=>by
  cases ht:ks.contains t with
  |true=>rw[hin t ht,C.jw]
  |false=>rw[hout t ht];rfl
 have cC:∀t b k,(G' t).fp b k->(G t).fp b k:=λt b k hf=>by
  cases ht:ks.contains t with
  |true=>rw[hin t ht,C.cO] at hf;exact hf
  |false=>rw[hout t ht] at hf;exact hf.elim
 refine⟨G',h.move ⟨λt=>?_,λt=>?_,λt u hne b k hf hf'=>h.inv.sep t u hne b k (cC t b k hf) (cC u b k hf'),λt b k hf=>h.inv.fz t b k (cC t b k hf),λt=>?_,h.inv.cJ⟩ hv (Ext.refl (λ_ _=>False) w) (λ_ _ hs=>hs.elim) (λt b k hf=>.inl ⟨t,cC t b k hf⟩)⟩
 ·unfold M.keep;rw[Sb];cases ht:ks.contains t with
  |true=>rw[hin t ht,C.Cf,h.inv.er];rfl
  |false=>rw[hout t ht];rfl
 ·cases ht:ks.contains t with
  |true=>rw[hin t ht];exact C.mU _ _ (h.inv.ok t)
  |false=>rw[hout t ht];trivial
 ·cases ht:ks.contains t with
  |true=>
   rw[hin t ht];refine C.l5 (C.others ks) (λs' q y hk hs=>?_) _ (C.gL _ _) (C.nT _ _ (h.inv.rf t));have hs':ks.contains s'=true:=by simpa [C.others] using hk
   rw[hin s' hs'];rcases C.self y _ q hs with ⟨z,hz,hs2⟩|hno;·exact .inl ⟨_,hz.off _,C.jv _ q _ _ (h.inv.ok s') hs2⟩
   ·exact .inr hno
  |false=>rw[hout t ht];trivial
def EZ:cA->Bool
 |.p9 _ _ _=>true
 |_=>false
def aaK{ev:Operand->Value}{o:Oper}{ty:TypeId}{fi:Nat}{x':Operand}{fs:Array Field}{f:Field}{i:TypeInfo}(ho:o.op=.fieldAddr ty x' fi)(hu:P.underlying ty=some (.struct fs))(hf:fs[fi]?=some f)(hi:P.info? f.type=some i)(hi0:i.size≠0){v:Value}{w:World}(h:(execOp ev o).run P w=.ok (.value v) w)(w':World):(execOp ev o).run P w'=.ok (.value v) w':=by
 cases hv:ev x' with
 |pointer p=>
  cases p with
  |none=>simp[execOp,ho,hv,Instr.fieldAt,Instr.sureAddr,run_underlying hu,hf] at h
  |some a=>simp[execOp,ho,hv,Instr.fieldAt,Instr.sureAddr,run_underlying hu,hf,fieldPlace,Go.sizeOf,typeInfo,hi,hi0] at h⊢;exact h
 |_=>simp[execOp,ho,hv,Instr.fieldAt,Instr.sureAddr,run_underlying hu,hf] at h
def aaj{i:Nat}{g:M.G}(hc:p7 P c.nt ops i g=true)(he:EZ g.o=true){o:Oper}{v:Value}(ho:ops[i]?=some o)(hl:ow P ops o v a w):rz P ops o v a:=by
 rcases hl with ⟨h1,h2⟩|h
 ·refine .inl ⟨h1,?_⟩;have h3:=h2 w (Ext.refl _ _);unfold p7 at hc;rw[ho] at hc;simp only[aB] at hc;obtain⟨_,hop⟩:=hc;obtain⟨gg,go⟩:=g;cases go<;>simp only[EZ] at he<;>try (cases he)
  unfold Am at hop;simp only[ym,mw] at hop;unfold EF at hop;simp only[aB] at hop;have hc:=hop.2;split at hc
  ·rename_i hfo;split at hc
   ·rename_i fs hfs;split at hc;·rename_i f hf;simp only[aB,bp,rq] at hc;obtain⟨⟨⟨h5,h6⟩,h7⟩,h8⟩:=hc;obtain⟨i,hi⟩:=zK.1 h7;exact λw'=>aaK hfo hfs hf hi (λh0=>by simp[lJ,hi,h0] at h6) h3 w'
    ·cases hc
   ·cases hc
  ·cases hc
 ·exact .inr h
def DT.kS:DT->List Nat
 |.nil _=>[]
 |.step i _ _=>[i]
 |.alt a b=>a.kS++b.kS
 |.kp _ t=>t.kS
def DT.quiet:DT->Nat->Bool
 |.nil _,_=>true
 |.step i g t,j=>(if i=j then s5 g.o else true) && t.quiet j
 |.alt a b,j=>a.quiet j && b.quiet j
 |.kp _ t,j=>t.quiet j
def KS(ops:Array Oper)(q:Nat->Bool)(t:Nat->Nat->Bool)(listed:Array Bool)(e:Bool)(i:Nat):Bool:=match ops[i]? with
 | some oi => (List.range ops.size).all λj => j == i || listed.getD j true || t j i || ((e || q j) && (match ops[j]? with
  |some oj=>oi.apart ops oj
  |none=>true))
 |none=>false
def gE(P:Program)(nt:Nat)(ops:Array Oper)(q:Nat->Bool)(bf:Nat->Nat->Bool):DT->Nat->Array Bool->Bool->Bool
 |.nil _,_,listed,alt=> !alt && decide (Region.ready .any ops listed=[])
 |.step i g t,fuel,listed,alt=>(match fuel with
  |0=>false
  |fuel+1=>p7 P nt ops i g && (!q i||s5 g.o) && (alt||decide (Region.ready .any ops listed=[i])||(ym g.o && (Region.ready .any ops listed).contains i && KS ops q bf listed (EZ g.o) i)) && gE P nt ops q bf t fuel (listed.setIfInBounds i true) false)
 |.alt a b,fuel,listed,alt=>(alt||decide (Region.ready .any ops listed=a.kS++b.kS)) && gE P nt ops q bf a fuel listed true && gE P nt ops q bf b fuel listed true
 |.kp _ t,fuel,listed,alt=>gE P nt ops q bf t fuel listed alt
def R4{q:Nat->Bool}{t:Nat->Nat->Bool}{listed:Array Bool}{i:Nat}{oi:Oper}{e:Bool}(hi:ops[i]?=some oi)(h:KS ops q t listed e i=true)(j:Nat)(oj:Oper)(hj:ops[j]?=some oj)(hne:j≠i)(hun:listed.getD j true=false)(hno:t j i=false):oi.apart ops oj=true/\(e=true\/q j=true):=by simp only[KS,hi,pR,q6] at h;have h1:=h j (kL.1 hj).1;simp only[hj,tQ,en,hne,false_or,hun,fD,hno,aB] at h1;exact⟨h1.2,h1.1⟩
def wj{q:Nat->Bool}{bf:Nat->Nat->Bool}(kX:wX ops bf=true)(hns:Region.noSelect ops=true){Q:Ex->ah->Prop}:∀(t:DT) (fuel:Nat) (listed:Array Bool) {G:Nat->C} {zl:Nat->Nat->Prop} {s:ah} {a:Act} {w:World},Down ops listed->St c G zl s a w->iz P t s Q->
  (gE P c.nt ops q bf t fuel listed false=true->wpAnyQ P ops q (jW c Q) fuel listed a w)/\
  ((∀i∈t.kS,i∈Region.ready .any ops listed)->gE P c.nt ops q bf t fuel listed true=true->∃f,fuel=f+1/\∀i∈t.kS,wpOp P ops (jW c Q) i (λa' w'=>Rel (q i) w w'/\wpAnyQ P ops q (jW c Q) f (listed.setIfInBounds i true) a' w') a w)
 |.nil ks,fuel,listed,G,zl,s,a,w,hdn,h,hK=>by
  obtain⟨G',h'⟩:=h.keep ks;constructor
  ·intro hc;simp only[gE,O3,O4,bp] at hc;cases fuel with
   |zero=>exact⟨hc,G',zl,_,hK,h'⟩
   |succ f=>exact⟨λ_=>⟨G',zl,_,hK,h'⟩,by rw[hc];intro i hi;cases hi⟩
  ·intro _ hc;simp[gE] at hc
 |.step i g t,fuel,listed,G,zl,s,a,w,hdn,h,hK=>by
  cases fuel with
  |zero=>exact⟨λhc=>by simp[gE] at hc,λ_ hc=>by simp[gE] at hc⟩
  |succ f=>
   have A8:i∈Region.ready .any ops listed->Down ops (listed.setIfInBounds i true):=λhr=>by obtain⟨_,o,ho,hall⟩:=mem_ready.1 hr;exact hdn.set ho hall
   have one:i∈Region.ready .any ops listed->gE P c.nt ops q bf t f (listed.setIfInBounds i true) false=true->p7 P c.nt ops i g=true->(q i=true->s5 g.o=true)->
     wpOp P ops (jW c Q) i (λa' w'=>Rel (q i) w w'/\wpAnyQ P ops q (jW c Q) f (listed.setIfInBounds i true) a' w') a w:=λxD ht hg hq=>
    wpOp_mono (λa' w' ⟨hr,G',aH,s',k1,k2⟩=>⟨λhqi=>hr (hq hqi),(wj kX hns t f _ (A8 xD) k2 k1).1 ht⟩) (QX h hg hK (jW c Q))
   constructor
   ·intro hc;have hc0:=hc;simp only[gE,aB,tQ,bp,fD,false_or] at hc;obtain⟨⟨⟨hg,hq⟩,hr⟩,ht⟩:=hc;have oG:q i=true->s5 g.o=true:=λhqi=>by rw[hqi] at hq;simpa using hq
    rcases hr with hr|⟨⟨hr,hrd⟩,Lg⟩;·refine⟨λh0=>(by rw[hr] at h0;cases h0),λj hj=>?_⟩;rw[hr,fC] at hj;subst hj;exact one (by rw[hr];exact fC.2 rfl) ht hg oG
    ·obtain⟨o,v,ho,hl,G',aH,s',k1,k2⟩:=aak h hg hr hK;have xD:i∈Region.ready .any ops listed:=by simpa using hrd
     cases he:EZ g.o with
     |true=>exact amc ho (Region.noSelect_spec hns) (λ_ _ _ hh=>hh.elim) kX f listed a w hdn (λj oj hj hne hun hno=>(R4 ho Lg j oj hj hne hun hno).1) xD (aaj hg he ho hl) ((wj kX hns t f _ (A8 xD) k2 k1).1 ht)
     |false=>rw[he] at Lg;exact wpAnyQ_first ho (Region.noSelect_spec hns) (λ_ _ _ hh=>hh.elim) kX f listed a w hdn (λj oj hj hne hun hno=>(R4 ho Lg j oj hj hne hun hno).imp id λh=>h.resolve_left (by simp)) xD hl ((wj kX hns t f _ (A8 xD) k2 k1).1 ht)
   ·intro Ll hc;have hc0:=hc;simp only[gE,aB,tQ,bp,true_or] at hc;obtain⟨⟨⟨hg,hq⟩,_⟩,ht⟩:=hc;have oG:q i=true->s5 g.o=true:=λhqi=>by rw[hqi] at hq;simpa using hq
    refine⟨f,rfl,λj hj=>?_⟩;rw[DT.kS,fC] at hj;subst hj;exact one (Ll j (fC.2 rfl)) ht hg oG
 |.alt t1 t2,fuel,listed,G,zl,s,a,w,hdn,h,hK=>by
  have both:(∀i∈t1.kS++t2.kS,i∈Region.ready .any ops listed)->gE P c.nt ops q bf t1 fuel listed true=true->gE P c.nt ops q bf t2 fuel listed true=true->∃f,fuel=f+1/\∀i∈t1.kS++t2.kS,wpOp P ops (jW c Q) i (λa' w'=>Rel (q i) w w'/\wpAnyQ P ops q (jW c Q) f (listed.setIfInBounds i true) a' w') a w:=λhh h1 h2=>by
   obtain⟨f,hf,i1⟩:=(wj kX hns t1 fuel listed hdn h hK.1).2 (λi hi=>hh i (OJ _ hi)) h1;obtain⟨f',hf',i2⟩:=(wj kX hns t2 fuel listed hdn h hK.2).2 (λi hi=>hh i (OK _ hi)) h2;have:f'=f:=by omega
   subst this;exact⟨f',hf,λi hi=>(dy.1 hi).elim (i1 i) (i2 i)⟩
  constructor
  ·intro hc;simp only[gE,aB,tQ,bp,fD,false_or] at hc;obtain⟨⟨hr,h1⟩,h2⟩:=hc;obtain⟨f,rfl,hi⟩:=both (λi hi=>by rw[hr];exact hi) h1 h2;refine⟨λh0=>?_,λi hi'=>hi i (by rw[<-hr];exact hi')⟩;exfalso;rw[h0] at hr
   have ne:∀{t:DT},gE P c.nt ops q bf t (f+1) listed true=true->t.kS≠[]:=by
    intro t;induction t with
    |nil=>intro hh;simp[gE] at hh
    |step i g t _=>intro _ hh;cases hh
    |alt a b iU _=>intro hh he;simp only[gE,aB] at hh;rw[DT.kS,WK] at he;exact iU hh.1.2 he.1
    |kp ks t ih=>exact ih
   have:=(WK.1 hr.symm).1;exact ne h1 this
  ·intro Ll hc;simp only[gE,aB,tQ,bp,true_or,true_and] at hc;exact both Ll hc.1 hc.2
 |.kp ks t,fuel,listed,G,zl,s,a,w,hdn,h,hK=>by obtain⟨G',h'⟩:=h.keep ks;exact wj kX hns t fuel listed hdn h' hK
def waits(ops:Array Oper)(j i:Nat):Bool:=((Region.before ops).getD j 0).testBit i
def Kl(P:Program)(nt:Nat)(ops:Array Oper)(t:DT):Bool:=P.follows .mixedOrders && Region.noSelect ops && wX ops (waits ops) && gE P nt ops t.quiet (waits ops) t ops.size (Array.replicate ops.size false) false
def aaz{Q:Ex->ah->Prop}{t:DT}{id:Nat}(hc:Kl P c.nt ops t=true)(h:St c G zl s a w)(hK:iz P t s Q):(Code.region id ops true).wp P (jW c Q) a w:=by
 simp only[Kl,aB] at hc;obtain⟨⟨⟨hm,hns⟩,kX⟩,hc⟩:=hc;refine wp_region_any hm ?_;have hE:Ext (λ_ _=>False) w w.drew:=Ext.drew w _;have h':St c G zl s a w.drew:=h.move (h.inv.world hE λ_ _ hs=>hs.elim) (λ_=>rfl) hE (λ_ _ hs=>hs.elim) (λt b k hf=>.inl ⟨t,hf⟩);have hdn:Down ops (Array.replicate ops.size false):=λk ok _ hl=>by exfalso;simp only[wD,WR] at hl;split at hl<;>simp at hl
 exact((wj kX hns t ops.size _ hdn h' hK).1 hc).any
end
end M
namespace M
open Go Go.RowKit
variable [Bs]
section
variable {P:Program}{c:Ctx}{G:Nat->C}{zl:Nat->Nat->Prop}{s s':ah}{a:Act}{w:World}
def gX(P:Program)(nt:Nat):A->Code->Bool
 |.skip,.skip=>true
 |.ret,.ret=>true
 |.exit id,.exit id'=>decide (id=id')
 |.ops l,.region _ ops false=>rP P nt ops 0 l
 |.draw t,.region _ ops true=>Kl P nt ops t
 |.seq a b,.seq x y=>gX P nt a x && gX P nt b y
 |.cond c a b,.cond c' x y=>aQ c' c && gX P nt a x && gX P nt b y
 |.block id b,.block id' x=>decide (id=id') && gX P nt b x
 |.loop b,.loop x=>gX P nt b x
 |.pk _ b,x=>gX P nt b x
 |_,_=>false
def least(p:Nat->Prop):(∃n,p n)->∃m,p m/\∀k,p k->m<=k:=by
 rintro ⟨n,hn⟩;induction n using Nat.strongRecOn with
 |_ n ih=>
  by_cases h:∃k,k<n/\p k;·obtain⟨k,hk,hp⟩:=h;exact ih k hk hp
  ·exact⟨n,hn,λk hk=>by
    rcases fV k n with hlt|hge;·exact(h ⟨k,hlt,hk⟩).elim
    ·exact hge⟩
def aar:∀(t:A) (code:Code) {Q:Ex->ah->Prop} {G:Nat->C} {zl:Nat->Nat->Prop} {s:ah} {a:Act} {w:World},gX P c.nt t code=true->St c G zl s a w->eN P t s Q->code.wp P (jW c Q) a w:=by
 intro t;induction t with
 |skip=>intro code Q G zl s a w hc h hK;unfold gX at hc;cases code<;>simp at hc;exact wp_skip ⟨G,zl,s,hK,h⟩
 |ret=>intro code Q G zl s a w hc h hK;unfold gX at hc;cases code<;>simp at hc;exact wp_ret ⟨G,zl,s,hK,h⟩
 |exit id=>intro code Q G zl s a w hc h hK;unfold gX at hc;cases code<;>simp at hc;subst hc;exact wp_exit ⟨G,zl,s,hK,h⟩
 |ops l=>
  intro code Q G zl s a w hc h hK;unfold gX at hc;cases code with
  |region id os d=>
   cases d with
   |false=>exact ahZ hc h hK
   |true=>simp at hc
  |_=>simp at hc
 |draw t=>
  intro code Q G zl s a w hc h hK;unfold gX at hc;cases code with
  |region id os d=>
   cases d with
   |true=>exact aaz hc h hK
   |false=>simp at hc
  |_=>simp at hc
 |seq x y L3 L4=>
  intro code Q G zl s a w hc h hK;unfold gX at hc;cases code with
  |seq x' y'=>
   simp only[aB] at hc;refine wp_seq (wp_mono (L3 x' hc.1 h hK) λe a w he=>?_);cases e with
   |normal=>obtain⟨G,zl,s,k,h⟩:=he;exact L4 y' hc.2 h k
   |exit id=>exact he
   |ret=>exact he
   |goto l=>exact he.elim
   |panic ch=>exact he.elim
   |outgrown=>exact he.elim
  |_=>simp at hc
 |cond cc x y L3 L4=>
  intro code Q G zl s a w hc h hK;unfold gX at hc;cases code with
  |cond c' x' y'=>
   simp only[aB] at hc;obtain⟨⟨h1,h2⟩,h3⟩:=hc;obtain⟨d,e1,e2,e3⟩:=cx h h1;simp only[eN] at hK;split at hK;·rename_i b hb;rw[<-e1] at hb;have:=rX hb;subst this;exact wp_cond_split (by rw[<-e2];rfl) (λht=>L3 x' h2 h (hK.1 ht)) (λhf=>L4 y' h3 h (hK.2 hf))
   ·exact hK.elim
  |_=>simp at hc
 |block id b ih=>
  intro code Q G zl s a w hc h hK;unfold gX at hc;cases code with
  |block id' x=>
   simp only[aB,bp] at hc;obtain⟨rfl,hc⟩:=hc;refine wp_block (wp_mono (ih x hc h hK) λe a w he=>?_);cases e with
   |normal=>exact he
   |exit i=>
    obtain⟨G,zl,s,k,h⟩:=he;simp only at k;show if i=id then jW c Q .normal a w else jW c Q (.exit i) a w
    by_cases hi:i=id;·subst hi;rw[ax rfl];simp only[beq_self_eq_true,mw] at k;exact⟨G,zl,s,k,h⟩
    ·rw[aF hi];have:(i==id)=false:=by simpa using hi
     rw[this] at k;exact⟨G,zl,s,k,h⟩
   |ret=>exact he
   |goto l=>exact he.elim
   |panic ch=>exact he.elim
   |outgrown=>exact he.elim
  |_=>simp at hc
 |loop b ih=>
  intro code Q G zl s a w hc h hK;unfold gX at hc;cases code with
  |loop x=>
   obtain⟨I,⟨n,hn⟩,ae6⟩:=hK;let J:Nat->Act->World->Prop:=λn a w=>wJ c (I n) a w;have Ln:=λa w=>least (λn=>J n a w);let μ:Act->World->Nat:=λa w=>by classical exact if hh:∃n,J n a w then Classical.choose (Ln a w hh) else 0
   have hμ:∀a w,(∃n,J n a w)->J (μ a w) a w/\∀k,J k a w->μ a w<=k:=λa w hh=>by have hspec:=DS (Ln a w hh);have:μ a w=Classical.choose (Ln a w hh):=lu hh;rw[this];exact hspec
   refine wp_loop (λa w=>∃n,J n a w) μ ?_ λa w hI=>?_;·exact⟨n,G,zl,s,hn,h⟩
   ·obtain⟨⟨G1,tV,s1,k1,h1⟩,_⟩:=hμ a w hI;refine wp_mono (ih x hc h1 (ae6 _ s1 k1)) λe a' w' he=>?_;cases e with
    |normal=>obtain⟨G2,tW,s2,⟨m,hm,K1⟩,h2⟩:=he;have hJ:J m a' w':=⟨G2,tW,s2,K1,h2⟩;exact⟨⟨m,hJ⟩,Nat.lt_of_le_of_lt ((hμ a' w' ⟨m,hJ⟩).2 m hJ) hm⟩
    |exit id=>exact he
    |ret=>exact he
    |goto l=>exact he.elim
    |panic ch=>exact he.elim
    |outgrown=>exact he.elim
  |_=>simp at hc
 |pk ks b ih=>
  intro code Q G zl s a w hc h hK;have hc:gX P c.nt b code=true:=by cases b<;>cases code<;>first|exact hc|(rename_i d;cases d<;>exact hc)
  refine wp_mono (ih code hc h hK) λe a w he=>?_;cases e with
  |normal=>obtain⟨G,zl,s,k,h⟩:=he;obtain⟨G',h'⟩:=h.keep ks;exact⟨G',zl,_,k,h'⟩
  |exit id=>exact he
  |ret=>exact he
  |goto l=>exact he.elim
  |panic ch=>exact he.elim
  |outgrown=>exact he.elim
end
end M
namespace M
open Go Go.RowKit
variable [Bs]
def Dp:Nat->List X->ah
 |_,[]=>[]
 |i,x::l=>(i,alias (base+i) [] x)::Dp (i+1) l
def Dq:Nat->List X->ah
 |_,[]=>[]
 |i,x::l=>(base+i,x)::Dq (i+1) l
def nv(xs:List X):ah:=Dp 0 xs++Dq 0 xs
def X.mO:X->Bool
 |.av _=>true
 |_=>false
def post(x:X):X:=bif x.clean then x else .dead
inductive RV where
 |t (n:Nat)
 |c (n sz:Nat) (agg:Bool) (ty:TypeId)
def dU:List RV->ah->List X×ah
 |[],s=>([],s)
 |.t n::l,s=>((take .mv (aC s (.t n)) s).1::(dU l (take .mv (aC s (.t n)) s).2).1,(dU l (take .mv (aC s (.t n)) s).2).2)
 |.c n sz agg _::l,s=>((match get s n with
  |.ptr .own cs=>if cs.length=sz then (bif agg then .agg (X.gI n [] cs) else (X.gI n [] cs).headD (.av [])) else .av []
  |_=>.av [])::(dU l (jb n [] .dead s)).1,(dU l (jb n [] .dead s)).2)
def vn:List X->X
 |[x]=>x
 |l=>.av l
def qH:Nat->Nat->ah->List X
 |_,0,_=>[]
 |i,n+1,s=>post (get s (base+i))::qH (i+1) n s
def Ends(rs:List RV)(n:Nat)(Q:X->List X->Prop):Ex->ah->Prop
 |.exit _,_=>False
 |_,s=>X.clean.cH (dU rs s).1=true/\(∀x∈(dU rs s).1,x.mO=false)/\Q (vn (dU rs s).1) (qH 0 n (dU rs s).2)
namespace C
def uu:∀c:C,c.er.clean=true->c.bare
 |.ref _ _ _,h=>by simp[er,X.clean] at h
 |.az _ _ _ _ _,h=>by simp[er,X.clean] at h
 |.cut _ _ _ _ _,h=>by simp[er,X.clean] at h
 |.ptr m g o n c,h=>λj hj=>uu (c j) (by simp only[er,X.clean,aB] at h;exact j6.1 h.2 _ (bw.2 ⟨j,by simpa using hj,rfl⟩))
 |.agg n c,h=>λj hj=>uu (c j) (by simp only[er,X.clean] at h;exact j6.1 h _ (bw.2 ⟨j,by simpa using hj,rfl⟩))
 |.av n c,h=>λj hj=>uu (c j) (by simp only[er,X.clean] at h;exact j6.1 h _ (bw.2 ⟨j,by simpa using hj,rfl⟩))
 |.fn f n c,h=>λj hj=>uu (c j) (by simp only[er,X.clean] at h;exact j6.1 h _ (bw.2 ⟨j,by simpa using hj,rfl⟩))
 |.dead _,_=>trivial
 |.int _ _,_=>trivial
 |.bool _,_=>trivial
 |.str _,_=>trivial
 |.row _ _ _ _ _ _,_=>trivial
variable {w:World}{zl zb:Nat->Nat->Prop}
def rQ:∀c:C,c.er.clean=true->c.ok w (Zf zl zb)->c.ok w (Zf zl λ_ _=>False)
 |.ref _ _ _,h,_=>by simp[er,X.clean] at h
 |.az _ _ _ _ _,h,_=>by simp[er,X.clean] at h
 |.cut _ _ _ _ _,h,_=>by simp[er,X.clean] at h
 |.row m sz A len cap e,h,ho=>by
  simp only[er,X.clean,aB] at h;obtain⟨h1,h2,h3,h4,h5⟩:=ho;refine⟨h1,λi j hi hj=>?_,λi j hi hj=>?_,h4,h5⟩
  ·obtain⟨g,o,q1,q2,q3⟩:=h2 i j hi hj;refine⟨g,o,q1,q2,λhm=>?_⟩;cases m with
   |own=>exact(hm rfl).elim
   |sl=>exact q3 hm
   |af=>simp at h
  ·obtain⟨a1,a2,a3,a4⟩:=h3 i j hi hj;exact⟨a1,a2,a3,rQ (e i j) (Q1.1 h.2 _ (bw.2 ⟨i,by simpa using hi,rfl⟩) _ (bw.2 ⟨j,by simpa using hj,rfl⟩)) a4⟩
 |.ptr m g o n c,h,ho=>by
  simp only[er,X.clean,aB] at h;obtain⟨h1,h2,h3,h4⟩:=ho;refine⟨λj hj=>?_,h2,λj hj=>?_,h4⟩
  ·obtain⟨a1,a2,a3⟩:=h1 j hj;refine⟨a1,λhm=>?_,a3⟩;cases m with
   |own=>exact(hm rfl).elim
   |sl=>exact a2 hm
   |af=>simp at h
  ·obtain⟨a1,a2,a3⟩:=h3 j hj;exact⟨a1,a2,rQ (c j) (j6.1 h.2 _ (bw.2 ⟨j,by simpa using hj,rfl⟩)) a3⟩
 |.agg n c,h,ho=>by simp only[er,X.clean] at h;exact⟨λj hj=>⟨(ho.1 j hj).1,rQ (c j) (j6.1 h _ (bw.2 ⟨j,by simpa using hj,rfl⟩)) (ho.1 j hj).2⟩,ho.2⟩
 |.av n c,h,ho=>by simp only[er,X.clean] at h;exact⟨λj hj=>⟨(ho.1 j hj).1,rQ (c j) (j6.1 h _ (bw.2 ⟨j,by simpa using hj,rfl⟩)) (ho.1 j hj).2⟩,ho.2⟩
 |.fn f n c,h,ho=>λj hj=>⟨rQ (c j) (by simp only[er,X.clean] at h;exact j6.1 h _ (bw.2 ⟨j,by simpa using hj,rfl⟩)) (ho j hj).1,(ho j hj).2⟩
 |.dead _,_,_=>trivial
 |.int _ _,_,_=>trivial
 |.bool _,_,_=>trivial
 |.str _,_,h=>h
end C
def Sf(i:Nat):∀(xs:List X) (r:ah) (t:Nat),get (Dp i xs++r) t=if i<=t/\t<i+xs.length then alias (base+t) [] (xs.getD (t - i) .dead) else get r t
 |[],r,t=>by rw[aF (by simp only[gA];omega)];rfl
 |x::xs,r,t=>by
  simp only[Dp,fM];rw[xo,Sf (i+1) xs];by_cases h:t=i;·subst h;rw[ax rfl,ax ⟨ek _,by simp only[cw];omega⟩,zJ];rfl
  ·rw[aF h];by_cases h2:i+1<=t/\t<i+1+xs.length;·rw[ax h2,ax ⟨by omega,by simp only[cw];omega⟩,show t - i=(t - (i+1))+1 by omega];rfl
   ·rw[aF h2,aF (by simp only[cw];omega)]
def Sg(i:Nat):∀(xs:List X) (t:Nat),get (Dq i xs) t=if base+i<=t/\t<base+i+xs.length then xs.getD (t - (base+i)) .dead else .dead
 |[],t=>by rw[aF (by simp only[gA];omega)];rfl
 |x::xs,t=>by
  simp only[Dq];rw[xo,Sg (i+1) xs];by_cases h:t=base+i;·subst h;rw[ax rfl,ax ⟨ek _,by simp only[cw];omega⟩,zJ];rfl
  ·rw[aF h];by_cases h2:base+(i+1)<=t/\t<base+(i+1)+xs.length;·rw[ax h2,ax ⟨by omega,by simp only[cw];omega⟩,show t - (base+i)=(t - (base+(i+1)))+1 by omega];rfl
   ·rw[aF h2,aF (by simp only[cw];omega)]
def aiN{w:World}{zl zb:Nat->Nat->Prop}{cs:List C}(h:ry w zl zb cs)(mJ:D8 w zl zb){nt:Nat}(hn:cs.length<=nt)(hnt:nt<=base):
  ∃G,St ⟨w,λb k=>∃x∈cs,x.fp b k,zl,zb,nt,cs.map C.val⟩ G zl (nv (cs.map C.er)) ⟨(cs.map C.val).toArray++Array.replicate (nt - (cs.map C.val).toArray.size) undef,[]⟩ w:=by
 let G:Nat->C:=λt=>if t<cs.length then (cs.getD t (.dead undef)).alias (base+t) [] else if base<=t/\t<base+cs.length then cs.getD (t - base) (.dead undef) else .dead undef
 have g1:∀t,t<cs.length->G t=(cs.getD t (.dead undef)).alias (base+t) []:=λt ht=>ax ht;have g2:∀t,t<cs.length->G (base+t)=cs.getD t (.dead undef):=λt ht=>by show (if _ then _ else _:C)=_;rw[aF (by omega),ax (by omega),Nat.add_sub_cancel_left]
 have g3:∀t,¬t<cs.length->¬(base<=t/\t<base+cs.length)->G t=.dead undef:=λt h1 h2=>by show (if _ then _ else _:C)=_;rw[aF h1,aF h2]
 have hm:∀t,t<cs.length->cs.getD t (.dead undef)∈cs:=λt ht=>cQ ht _
 have EB:∀t,(t<cs.length/\t<base)\/(∃u,u<cs.length/\t=base+u)\/(G t=.dead undef/\¬t<cs.length/\¬(base<=t/\t<base+cs.length)):=λt=>by
  by_cases h1:t<cs.length;·exact .inl ⟨h1,by omega⟩
  ·by_cases h2:base<=t/\t<base+cs.length;·exact .inr (.inl ⟨t - base,by omega,by omega⟩)
   ·exact .inr (.inr ⟨g3 t h1 h2,h1,h2⟩)
 have hal:∀t,t<cs.length->(G t).ok w (Zf zl zb)/\(G t).rf G/\∀b k,¬(G t).fp b k:=λt ht=>by rw[g1 t ht];have hx:=hm t ht;exact C.PG (base+t) _ (g2 t ht) (h.ok _ hx) (C.rI G _ (h.bare _ hx))
 have cC:∀t b k,(G t).fp b k->∃u,u<cs.length/\t=base+u/\(cs.getD u (.dead undef)).fp b k:=λt b k hf=>by
  rcases EB t with ⟨h1,_⟩|⟨u,hu,rfl⟩|⟨h1,_⟩;·exact((hal t h1).2.2 b k hf).elim
  ·rw[g2 u hu] at hf;exact⟨u,hu,rfl,hf⟩
  ·rw[h1] at hf;exact hf.elim
 refine⟨G,⟨⟨λt=>?_,λt=>?_,λt u hne b k hf hf'=>?_,λt b k hf=>?_,λt=>?_,h.cJ⟩,λt ht=>?_,?_,hnt,rfl,⟨Ext.refl _ _,λt b k hf=>?_,λ_ _ hz=>hz,λ_ _ hz=>.inl hz,mJ,λb k hb ⟨x,hx,hf⟩=>((mJ b hb).2 k).elim (h.fz x hx b k hf).1 (h.fz x hx b k hf).2⟩,λi v hi=>?_⟩⟩
 ·have hgd:∀u,(cs.map C.er).getD u .dead=(cs.getD u (.dead undef)).er:=λu=>by rw[ji,ji,cZ];cases cs[u]?<;>rfl
  unfold nv;rw[Sf,Sg,cV,hgd,hgd];rcases EB t with ⟨h1,h2⟩|⟨u,hu,rfl⟩|⟨h1,h2,h3⟩;·rw[ax ⟨by omega,by omega⟩,g1 t h1,C.PI,Jk]
  ·rw[aF (by omega),ax ⟨by omega,by omega⟩,g2 u hu,show base+u - (base+0)=u by omega]
  ·rw[aF (by omega),aF (by omega),h1];rfl
 ·rcases EB t with ⟨h1,_⟩|⟨u,hu,rfl⟩|⟨h1,_⟩;·exact(hal t h1).1
  ·rw[g2 u hu];exact h.ok _ (hm u hu)
  ·rw[h1];trivial
 ·obtain⟨x,hx,e1,h1⟩:=cC t b k hf;obtain⟨y,hy,e2,h2⟩:=cC u b k hf';exact yl h.apart _ hx hy (λe=>hne (by rw[e1,e2,e])) h1 h2
 ·obtain⟨x,hx,e1,h1⟩:=cC t b k hf;exact h.fz _ (hm x hx) b k h1
 ·rcases EB t with ⟨h1,_⟩|⟨u,hu,rfl⟩|⟨h1,_⟩;·exact(hal t h1).2.1
  ·rw[g2 u hu];exact C.rI G _ (h.bare _ (hm u hu))
  ·rw[h1];trivial
 ·rw[wD,Array.getElem?_append];simp only[pP,cV];by_cases h1:t<cs.length;·rw[ax h1,g1 t h1,C.PJ,zT,cZ,cz h1,qc (cz h1)];rfl
  ·rw[aF h1,g3 t h1 (by omega),WR];split<;>rfl
 ·simp only[OP,pP,cV,Array.size_replicate];omega
 ·obtain⟨x,hx,e1,h1⟩:=cC t b k hf;exact .inl ⟨_,hm x hx,h1⟩
 ·simp only[cZ] at hi;cases hc:cs[i]? with
  |none=>rw[hc] at hi;cases hi
  |some x=>
   rw[hc] at hi;injection hi with hi
   have hlt:=(aJ.1 hc).1;rw[g2 i hlt,qc hc,hi]
end M
namespace M
open Go Go.RowKit
variable [Bs]
def ur(P:Program):List ResultVar->List RV->Bool
 |[],[]=>true
 |.tmp t::l,.t t'::l'=>t==t' && decide (t<base) && ur P l l'
 |.cell a ty::l,.c n sz agg ty'::l'=>a==n && decide (n<base) && ty==ty' && lJ P ty sz && va P ty agg && (agg||decide (sz=1)) && ur P l l'
 |_,_=>false
section
variable {P:Program}{w:World}
def agv(x:C)(h:x.er.mO=false):x.gi:=by cases x<;>first|trivial|(simp[C.er,X.mO] at h)
def MF:List Value->Value
 |[v]=>v
 |l=>.tuple l.toArray
def Co(tmps:Array Value):ResultVar->Sem Value
 |.tmp t=>pure (tmps.getD t undef)
 |.cell a t=>do loadVar t (<-asAddr (tmps.getD a undef))
def aij{fn:Func}{vs:List Value}(tmps:Array Value)(h:(fn.results.toList.mapM (Co tmps)).run P w=.ok vs w):(results fn tmps).run P w=.ok (MF vs) w:=by
 unfold results;rw[Array.mapM_eq_mapM_toList];rw[Sem.run_bind,Sem.run_map];erw [h];simp only[Result.andThen_ok,Sem.run_pure];match vs with
 |[]=>rfl
 |[v]=>rfl
 |u::v::l=>simp[MF]
def N6{c:Ctx}{zl:Nat->Nat->Prop}{a:Act}:∀{l':List ResultVar} {l:List RV},ur P l' l=true->∀{G:Nat->C} {s:ah},St c G zl s a w->(∀x∈(dU l s).1,x.mO=false)->
  ∃cs G',cs.map C.er=(dU l s).1/\(l'.mapM (Co a.tmps)).run P w=.ok (cs.map C.val) w/\bP w zl c.zb G cs G' (dU l s).2
 |[],[],_,G,s,h,_=>⟨[],G,rfl,by simp,bP.nil h.inv⟩
 |.tmp t::l',.t t'::l,hc,G,s,h,hk=>by
  simp only[ur,aB,en,bp] at hc;obtain⟨⟨rfl,ht⟩,hc⟩:=hc;obtain⟨p,p1,p2,p3⟩:=cx h (o:=.tmp t) (x:=.t t) (by simp[aQ,ht]);obtain⟨y,G1,f1,f2,f3,f4⟩:=qV .mv h.inv p3;rw[p1] at f1 f4;obtain⟨cs,G',g1,g2,g3⟩:=N6 hc (h.zu f4) λx hx=>hk x (bY _ hx);refine⟨y::cs,G',by simp[dU,f1,g1],?_,bP.cons f4 g3⟩;have hv:a.tmps.getD t undef=y.val:=by rw[f2,p2];rfl
  simp only[List.mapM_cons,Co,Sem.run_bind,Sem.run_pure,Result.andThen_ok,g2,hv,bn]
 |.cell ad ty::l',.c n sz agg ty'::l,hc,G,s,h,hk=>by
  simp only[ur,aB,en,bp] at hc;obtain⟨⟨⟨⟨⟨⟨rfl,ht⟩,rfl⟩,hsz⟩,nD⟩,h1⟩,hc⟩:=hc
  have hk0:(match get s ad with
   |.ptr .own cs=>if cs.length=sz then (bif agg then .agg (X.gI ad [] cs) else (X.gI ad [] cs).headD (.av [])) else .av []
   |_=>.av []:X).mO=false:=hk _ (bD ..)
  split at hk0
  ·rename_i cs0 hg;split at hk0
   ·rename_i hlen;obtain⟨D,G1,t1,t2,t3,t4,t5,t6,t7,t8,t9,t10,t11,t12⟩:=h.inv.wh ad [] (G ad) rfl;rw[h.inv.er,hg] at t1;simp only[X.kill] at t1;obtain⟨g,o,m,f,rfl,hcs⟩:=KF t1;have hm:m=sz:=by have:=dz List.length hcs;rw[X.Me] at this;simpa [hlen] using this.symm
    subst hm;obtain⟨q1,q2,q3,q4⟩:=t4;have hin:∀j,j<m->∀b k,(f j).fp b k->(C.ptr .own g o m f).fp b k:=λj hj b k hf=>C.kY (q3 j hj).1 (q3 j hj).2.1 hj hf;have K5:a.tmps.getD ad undef=.pointer (some ⟨g,o,none⟩):=by rw[<-h.val ad ht,<-t2];rfl
    obtain⟨ii,hi,kU⟩:=sw hsz;obtain⟨dd,AR,hda⟩:=BO nD;have uP:(isAgg ty).run P w=.ok agg w:=by subst hda;simp only[isAgg,Sem.run_bind,run_underlying AR,Result.andThen_ok];cases dd<;>rfl
    have hsize:(Go.sizeOf ty).run P w=.ok m w:=by simp[Go.sizeOf,typeInfo,hi,kU]
    have hl:(loadCells ⟨g,o,none⟩ m).run P w=.ok ((List.range m).map λj=>(f j).val).toArray w:=run_loadCells w _ m _ (λj hj=>by rw[rC];exact(q1 j hj).1)
    have fin:∀y:C,(∀b k,y.fp b k->(C.ptr .own g o m f).fp b k)->y.ok w (Zf zl c.zb)->y.rf G1->y.er=(if cs0.length=m then (bif agg then .agg (X.gI ad [] cs0) else (X.gI ad [] cs0).headD (.av [])) else .av [])->(loadVar ty ⟨g,o,none⟩).run P w=.ok y.val w->
      ∃cs G',cs.map C.er=(dU (.c ad m agg ty::l) s).1/\((ResultVar.cell ad ty::l').mapM (Co a.tmps)).run P w=.ok (cs.map C.val) w/\bP w zl c.zb G cs G' (dU (.c ad m agg ty::l) s).2:=λy OH yok yrf yer amK=>by
     have jM:fE w zl c.zb G y G1 (jb ad [] .dead s):=⟨t3,yok,yrf,λt b k hf=>t8 t b k (OH b k hf),λb k hf=>h.inv.fz ad b k (t9 b k (OH b k hf)),t10,λb k hf=>⟨ad,t9 b k (OH b k hf)⟩,t11⟩;obtain⟨cs,G',g1,g2,g3⟩:=N6 hc (h.zu jM) λx hx=>hk x (bY _ hx);refine⟨y::cs,G',?_,?_,bP.cons jM g3⟩;·simp only[bn,dU,hg,yer,g1]
     ·simp only[List.mapM_cons,Co,K5,asAddr,Sem.run_bind,Sem.run_pure,Result.andThen_ok,amK,g2,bn]
    cases agg with
    |true=>
     refine fin (.agg m f) (λb k ⟨j,hj,hf⟩=>hin j hj b k hf) ⟨λj hj=>⟨(q3 j hj).1,(q3 j hj).2.2⟩,λj hj b k hf=>(q4 j hj b k hf).2⟩ t5 ?_ ?_;·rw[ax hlen,mw,hcs];rfl
     ·simp only[loadVar,Sem.run_bind,uP,Result.andThen_ok,dh,hsize,hl,Sem.run_pure];rfl
    |false=>
     have hs1:m=1:=by simpa using h1
     subst hs1;refine fin (f 0) (λb k hf=>hin 0 (by omega) b k hf) (q3 0 (by omega)).2.2 (t5 0 (by omega)) ?_ ?_;·rw[ax hlen,ri,hcs];rfl
     ·have:=(q1 0 (by omega)).1;simp only[loadVar,Sem.run_bind,uP,Result.andThen_ok,fD,dQ,run_load];simp only[om] at this;rw[this]
   ·simp[X.mO] at hk0
  ·simp[X.mO] at hk0
 |[],_::_,hc,_,_,_,_=>by cases hc
 |.tmp _::_,[],hc,_,_,_,_=>by cases hc
 |.cell _ _::_,[],hc,_,_,_,_=>by cases hc
 |.tmp _::_,.c _ _ _ _::_,hc,_,_,_,_=>by cases hc
 |.cell _ _::_,.t _::_,hc,_,_,_,_=>by cases hc
def ahL{c:Ctx}{G:Nat->C}{zl:Nat->Nat->Prop}{s:ah}(h:Inv w zl c.zb G s)(t:Nat):∃p:C,p.er=post (get s t)/\p.val=(G t).val/\p.ok w (Zf zl λ_ _=>False)/\p.bare/\∀b k,p.fp b k->(G t).fp b k:=by
 unfold post;cases hc:(get s t).clean with
 |true=>rw[<-h.er] at hc;exact⟨G t,h.er t,rfl,C.rQ _ hc (h.ok t),C.uu _ hc,λ_ _ hf=>hf⟩
 |false=>exact⟨.dead (G t).val,rfl,rfl,trivial,trivial,λ_ _ hf=>hf.elim⟩
def Uv{c:Ctx}{G:Nat->C}{zl:Nat->Nat->Prop}{s:ah}(h:Inv w zl c.zb G s):∀(n i:Nat),∃ps:List C,ps.map C.er=qH i n s/\ps.map C.val=(List.range' i n).map (λj=>(G (base+j)).val)/\(∀p∈ps,p.ok w (Zf zl λ_ _=>False)/\p.bare/\∃t,i<=t/\∀b k,p.fp b k->(G (base+t)).fp b k)/\ps.Pairwise λa b=>∀x k,a.fp x k->¬b.fp x k
 |0,i=>⟨[],rfl,rfl,λ_ hx=>(by cases hx),List.Pairwise.nil⟩
 |n+1,i=>by
  obtain⟨p,p1,p2,p3,p4,p5⟩:=ahL h (base+i);obtain⟨ps,q1,q2,q3,q4⟩:=Uv h n (i+1);refine⟨p::ps,by simp[qH,p1,q1],by simp[List.range'_succ,p2,q2],λx hx=>?_,fh.2 ⟨λx hx b k hf hf'=>?_,q4⟩⟩
  ·rcases b9.1 hx with rfl|hx;·exact⟨p3,p4,i,ek _,p5⟩
   ·obtain⟨a1,a2,t,ht,a3⟩:=q3 x hx;exact⟨a1,a2,t,by omega,a3⟩
  ·obtain⟨_,_,t,ht,a3⟩:=q3 x hx;exact h.sep (base+i) (base+t) (by omega) b k (p5 b k hf) (a3 b k hf')
structure Told (P:Program) (f:FuncId) (t:A) (rs:List RV) (n:Nat):Prop where
 told:∃fn code,P.funcs[f]?=some fn/\fn.body=some code/\gX P fn.ntmps t code=true/\ur P fn.results.toList rs=true/\fn.ntmps<=base/\n<=fn.ntmps
def Told.ac{f:FuncId}{t:A}{rs:List RV}{n:Nat}(hT:Told P f t rs n){xs:List X}(hn:xs.length=n){Q:X->List X->Prop}(h:eN P t (nv xs) (Ends rs n Q)):AC P f xs Q:=by
 intro w zl zb cs hxs hA mJ;obtain⟨fn,code,hf,hb,hc,hr,hnt,jt⟩:=hT.told;have hcl:cs.length=n:=by rw[<-hn,<-hxs];simp
 obtain⟨G,hst⟩:=aiN hA mJ (nt:=fn.ntmps) (by omega) hnt;rw[hxs] at hst;refine calls_of_wp hf hb (wp_mono (aar t code hc hst h) λe a w' he=>?_)
 have fin:∀{G:Nat->C} {aH:Nat->Nat->Prop} {s:ah},St ⟨w,λb k=>∃x∈cs,x.fp b k,zl,zb,fn.ntmps,cs.map C.val⟩ G aH s a w'->(X.clean.cH (dU rs s).1=true/\(∀x∈(dU rs s).1,x.mO=false)/\Q (vn (dU rs s).1) (qH 0 n (dU rs s).2))->
   a.defers=[]/\∃v,(results fn a.tmps).run P w'=.ok v w'/\∃r ps aH,Pw w zl cs (.returned v) w' r ps aH/\Q r.er (ps.map C.er):=by
  intro G aH s h ⟨k1,k2,k3⟩;obtain⟨nX,G1,g1,g2,jM⟩:=N6 hr h k2;refine⟨h.defers,_,aij a.tmps g2,?_⟩;rw[<-g1] at k1 k2 k3;obtain⟨ps,p1,p2,p3,p4⟩:=Uv (c:=⟨w,λb k=>∃x∈cs,x.fp b k,zl,zb,fn.ntmps,cs.map C.val⟩) jM.inv n 0;have hrc:∀x∈nX,x.er.clean=true:=λx hx=>j6.1 k1 _ (kH hx)
  obtain⟨r,r1,r2,r3,r4,r5⟩:∃r:C,r.er=vn (nX.map C.er)/\r.val=MF (nX.map C.val)/\r.ok w' (Zf aH λ_ _=>False)/\r.bare/\∀b k,r.fp b k->∃x∈nX,x.fp b k:=by
   by_cases h1:nX.length=1;·obtain⟨x,rfl⟩:=List.length_eq_one_iff.1 h1;refine⟨x,rfl,rfl,C.rQ x (hrc x (fC.2 rfl)) (jM.all x (fC.2 rfl)).1,C.uu x (hrc x (fC.2 rfl)),λb k hf=>⟨x,fC.2 rfl,hf⟩⟩
   ·refine⟨.av nX.length λj=>nX.getD j (.dead undef),?_,?_,⟨λj hj=>⟨?_,C.rQ _ (hrc _ (cQ hj _)) (jM.all _ (cQ hj _)).1⟩,λj hj b k hf j' hj' hne=>yl jM.apart _ hj hj' hne hf⟩,λj hj=>C.uu _ (hrc _ (cQ hj _)),λb k ⟨j,hj,hf⟩=>⟨_,cQ hj _,hf⟩⟩
    ·show X.av _=_;rw[mW nX _ C.er];cases nX with
     |nil=>rfl
     |cons x l=>cases l with
      |nil=>simp at h1
      |cons y l=>rfl
    ·show Value.tuple _=_;rw[mW nX _ C.val];cases nX with
     |nil=>rfl
     |cons x l=>cases l with
      |nil=>simp at h1
      |cons y l=>rfl
    ·have:=k2 _ (kH (cQ hj (.dead undef)));exact agv _ this
  refine⟨r,ps,aH,?_,by rw[r1,p1];exact k3⟩;have aex:∀t b k,(G1 t).fp b k->(∃y∈cs,y.fp b k)\/w.heap.size<=b:=λt b k hf=>h.tr.dom t b k (jM.mono t b k hf);have hrd:∀b k,r.fp b k->(∃y∈cs,y.fp b k)\/w.heap.size<=b:=λb k hf=>by obtain⟨x,hx,hf⟩:=r5 b k hf;obtain⟨t,ht⟩:=(jM.all x hx).2.2.2 b k hf;exact h.tr.dom t b k ht
  refine⟨by rw[r2],?_,h.tr.ext,⟨λx hx=>?_,λx hx=>?_,λx hx b k hf=>?_,λb k hz=>jM.inv.cJ b k (hz.imp id λh=>h.elim),fh.2 ⟨λx hx b k hf hf'=>?_,p4⟩⟩,λx hx b k hf=>?_,h.tr.pT,h.tr.zl⟩
  ·rw[p2,List.range_eq_range'.symm];apply gy;intro i;rw[cZ,cZ];by_cases hi:i<n;·rw[tS hi,cz (by omega)];simp only[cv,dP];rw[jM.val];exact h.args i _ (by rw[cZ,cz (by omega)];rfl)
   ·rw[jG (by simp;omega),jG (by omega)];rfl
  ·rcases b9.1 hx with rfl|hx;·exact r3
   ·exact(p3 x hx).1
  ·rcases b9.1 hx with rfl|hx;·exact r4
   ·exact(p3 x hx).2.1
  ·refine⟨?_,λh=>h⟩;rcases b9.1 hx with rfl|hx;·obtain⟨y,hy,hf⟩:=r5 b k hf;exact((jM.all y hy).2.2.1 b k hf).1
   ·obtain⟨_,_,t,_,a3⟩:=p3 x hx;exact(jM.inv.fz _ b k (a3 b k hf)).1
  ·obtain⟨y,hy,hf⟩:=r5 b k hf;obtain⟨_,_,t,_,a3⟩:=p3 x hx;exact(jM.all y hy).2.1 _ b k hf (a3 b k hf')
  ·rcases b9.1 hx with rfl|hx;·exact hrd b k hf
   ·obtain⟨_,_,t,_,a3⟩:=p3 x hx;exact aex _ b k (a3 b k hf)
 cases e with
 |normal=>obtain⟨G,aH,s,k,h⟩:=he;exact fin h k
 |ret=>obtain⟨G,aH,s,k,h⟩:=he;exact fin h k
 |exit id=>obtain⟨G,aH,s,k,h⟩:=he;exact k.elim
 |goto l=>exact he.elim
 |panic ch=>exact he.elim
 |outgrown=>exact he.elim
def VA(P:Program)(fn:Func)(t:A)(rs:List RV)(n:Nat):Bool:=match fn.body with
 |some code=>gX P fn.ntmps t code && ur P fn.results.toList rs && decide (fn.ntmps<=base) && decide (n<=fn.ntmps)
 |none=>false
def Told.of{f:FuncId}{fn:Func}{t:A}{rs:List RV}{n:Nat}(hf:P.funcs[f]?=some fn)(h:VA P fn t rs n=true):Told P f t rs n:=by
 unfold VA at h;split at h;·rename_i code hc;simp only[aB,bp] at h;exact⟨fn,code,hf,hc,h.1.1.1,h.1.1.2,h.1.2,h.2⟩
 ·cases h
end
end M
namespace M
open Go
def AC.mono[Bs]{P:Program}{f:FuncId}{xs:List X}{Q Q':X->List X->Prop}(h:AC P f xs Q)(hq:∀r ps,Q r ps->Q' r ps):AC P f xs Q':=
 λw zl zb cs e a g=>(h w zl zb cs e a g).mono λ_ _ ⟨r,ps,aH,d,q⟩=>⟨r,ps,aH,d,hq _ _ q⟩
abbrev Out:=X×List X
abbrev cE:=FuncId->List X->Option Out
def mN(f:FuncId):X->Bool
 |.fn g _=>g==f
 |_=>false
def wV(s1:ah)(fv:Option AV)(f:FuncId):Bool:=match fv with
 |none=>true
 |some x=>mN f (aC s1 x)
abbrev zV:=X->Option ah
def GG(r:Nat)(p:Path)(s:ah)(n:Nat)(x:X):Option (X×zV):=
 match x with
 |.ref _ _=>(match look s r p with
  |some (.row .own z xs)=>some (.row .own z xs,λy=>match y with
   |.row .own z' ys=>if z'=z then some (iI r p (.row .own z ys) s) else none
   |_=>none)
  |_=>none)
 |.az _ _ i c=>(match look s r p with
  |some (.ptr .own cs)=>if c+n<=cs.length then some (.ptr .own ((cs.drop c).take n),λy=>match y with
   |.ptr .own ys=>if ys.length=n then some (iI r p (.ptr .own (cs.take c++ys++cs.drop (c+n))) s) else none
   |_=>none) else none
  |some (.row .own z xs)=>(match xs[i]? with
   |some e=>if c+n<=e.length then some (.ptr .own ((e.drop c).take n),λy=>match y with
    |.ptr .own ys=>if ys.length=n then (if iq ys=true then some (iI r p (.row .own z (xs.set i (e.take c++ys++e.drop (c+n)))) s) else none) else none
    |_=>none) else none
   |none=>none)
  |_=>none)
 |_=>none
def qI(d:Option Nat)(s:ah):Option Out->Option ah
 |some o=>some (fS d o.1 s)
 |none=>none
def Cn(d:Option Nat)(as:List (AV×PM))(back:zV):Option Out->Option ah
 |some o=>(match back (k7 as o.2) with
  |some s'=>some (fS d o.1 s')
  |none=>none)
 |none=>none
def EA(C:cE)(f:FuncId)(d:Option Nat)(as:List (AV×PM))(fv:Option AV)(ms:List X)(s0:ah):Option (X×zV)->Option ah
 |some (y,back)=>if X.bare y=true/\wV s0 fv f=true then Cn d as back (C f (gC s0 y as ms++oz s0 fv)) else none
 |none=>none
def rM(C:cE)(f:FuncId)(d:Option Nat)(as:List (AV×PM))(fv:Option AV)(s:ah):Option ah:=
 if X.bare.jl (bZ as s).1=true then
 match dS as with
 |none=>if wV (bZ as s).2 fv f=true then qI d (bZ as s).2 (C f (gC (bZ as s).2 .dead as (bZ as s).1++oz (bZ as s).2 fv)) else none
 |some (x,n)=>EA C f d as fv (bZ as s).1 (jb (placeOf (aC (bZ as s).2 x)).1 (placeOf (aC (bZ as s).2 x)).2 .dead (bZ as s).2) (GG (placeOf (aC (bZ as s).2 x)).1 (placeOf (aC (bZ as s).2 x)).2 (bZ as s).2 n (aC (bZ as s).2 x))
 else none
def Em(op:BinOp):X->X->Bool
 |.int k a,.int k' b=>match op with
  |.shl=>decide (0<=b)
  |.shr=>decide (0<=b)
  |.quo=>decide (k=k') && !decide (b=0)
  |.rem=>decide (k=k') && !decide (b=0)
  |.andNot=>false
  |_=>decide (k=k')
 |.str a,.str b=>match op with
  |.add=>decide (a.size+b.size<=9223372036854775807)
  |.eql=>true
  |.neq=>true
  |_=>false
 |_,_=>false
def Y1{op:BinOp}{x y:X}(h:Em op x y=true):wP op x y:=by cases x<;>cases y<;>cases op<;>simp_all[Em,wP]
def IV(op:UnOp):X->Bool
 |.int _ _=>match op with
  |.neg=>true
  |_=>false
 |.bool _=>match op with
  |.not=>true
  |_=>false
 |_=>false
def al6{op:UnOp}{x:X}(h:IV op x=true):zw op x:=by cases x<;>cases op<;>simp_all[IV,zw]
def Gq:List X->Option UInt8
 |[.int .u8 n]=>if 0<=n/\n<256 then some (UInt8.ofNat n.toNat) else none
 |_=>none
def afn{e:List X}{b:UInt8}(h:Gq e=some b):e=[.int .u8 b.toNat]:=by
 unfold Gq at h;split at h
 ·split at h
  ·rename_i n hn;obtain rfl:=iL h;have:(UInt8.ofNat n.toNat).toNat=n.toNat:=by rw[Jl];exact Nat.mod_eq_of_lt (by omega)
   rw[this];congr 2;omega
  ·cases h
 ·cases h
def qX:List (List X)->Option (List UInt8)
 |[]=>some []
 |e::l=>match Gq e,qX l with
  |some b,some r=>some (b::r)
  |_,_=>none
def VG:∀{xs:List (List X)} {l:List UInt8},qX xs=some l->xs=l.map λb=>[.int .u8 b.toNat]
 |[],l,h=>by cases h;rfl
 |e::r,l,h=>by
  unfold qX at h;split at h;·rename_i b r' h1 h2;obtain rfl:=iL h;rw[afn h1,VG h2];rfl
  ·cases h
def Oi(l:List UInt8):qX (l.map λb=>[.int .u8 (b.toNat:Int)])=some l:=by
 induction l with
 |nil=>rfl
 |cons b l ih=>
  simp only[bn,qX,ih];have:Gq [.int .u8 (b.toNat:Int)]=some b:=by have h:=b.toNat_lt;show (if 0<=(b.toNat:Int)/\(b.toNat:Int)<256 then some (UInt8.ofNat (b.toNat:Int).toNat) else none)=some b;rw[ax ⟨by omega,by omega⟩];simp
  rw[this]
def eC:List (List X)->Bool
 |[]=>true
 |e::l=>e.all scalar && eC l
def N1{xs:List (List X)}(h:eC xs=true):scalars xs:=by
 induction xs with
 |nil=>intro e he;cases he
 |cons a l ih=>
  simp only[eC,aB,pR] at h;intro e he c hc;rcases b9.1 he with rfl|he;·exact h.1 c hc
  ·exact ih h.2 e he c hc
def cu(h:Tk)(l:List X):Bool:=match h with
 |.al=>true
 |_=>l.all λx=>iq (cellsOf x)
def aiB{h:Tk}{l:List X}(e:cu h l=true):IA h l:=by
 cases h;·intro x hx;exact(pR.1 e) x hx
 ·trivial
 ·intro x hx;exact(pR.1 e) x hx
def ck:List Nat->List X->Bool
 |[],[]=>true
 |n::ns,y::ys=>((cellsOf y).length==n) && ck ns ys
 |_,_=>false
def Va:∀{ns:List Nat} {ys:List X},ck ns ys=true->zk ns ys
 |[],[],_=>trivial
 |[],_::_,h=>by cases h
 |_::_,[],h=>by cases h
 |n::ns,y::ys,h=>by simp only[ck,aB,en] at h;exact⟨h.1,Va h.2⟩
def ct(sz:Nat)(l:List X):Bool:=l.all λx=>((cellsOf x).length==sz) && iq (cellsOf x)
def IC(s:ah)(r:Nat)(p:Path)(i c:Nat)(l:List X):Bool:=match look s r p with
 |some (.row .own _ xs)=>(match xs[i]? with
  |some e=>decide (c+l.length<=e.length) && iq l
  |none=>false)
 |some (.ptr .own cs)=>decide (c+l.length<=cs.length)
 |_=>false
def aiQ{s:ah}{r:Nat}{p:Path}{i c:Nat}{l:List X}(h:IC s r p i c l=true):storable s r p i c l:=by
 unfold IC at h;unfold storable;split at h
 ·split at h;·rename_i h1 _ _ h2;rw[h1];simp only[h2];simpa using h
  ·cases h
 ·rename_i h1;rw[h1];simpa using h
 ·cases h
def Uz(d:Option Nat)(cs:List X)(s1:ah):Option Out->Option ah
 |some (r,.agg ys::_)=>if iq ys=true then (match kN cs ys s1 with
  |some s'=>some (fS d r s')
  |none=>none) else none
 |_=>none
def cN(C:cE)(ok:FuncId->Bool)(o:cA)(s:ah):Option ah:=
 match o with
 |.mv d x=>some (put d (aC s x) s)
 |.aN d h x=>some (put d (take h (aC s x) s).1 (take h (aC s x) s).2)
 |.pick d c a b=>match aC s c with
  |.bool t=>some (put d (Ch t (aC s a) (aC s b)) s)
  |_=>none
 |.un d op x=>if IV op (aC s x)=true then some (put d (Oj op (aC s x)) s) else none
 |.bin d op x y=>if Em op (aC s x) (aC s y)=true then some (put d (JR op (aC s x) (aC s y)) s) else none
 |.beq d neg x y=>match aC s x,aC s y with
  |.bool p,.bool q=>some (put d (.bool (xor neg (p==q))) s)
  |_,_=>none
 |.sV d neg x=>match aC s x with
  |.row _ _ xs=>if iZ xs=true then some (put d (.bool neg) s) else none
  |_=>none
 |.ua d neg ks x y=>match aC s x,aC s y with
  |.agg p,.agg q=>match j8 ks p q with
   |some t=>some (put d (.bool (xor neg t)) s)
   |none=>none
  |_,_=>none
 |.conv d k x=>match aC s x with
  |.int _ n=>some (put d (.int k (k.wrap n)) s)
  |_=>none
 |.bytes d x=>match aC s x with
  |.str t=>some (put d (.row .own 1 (t.data.toList.map λb=>[.int .u8 b.toNat])) s)
  |_=>none
 |.text d x=>match rowAt s (aC s x) with
  |some (1,xs)=>if xs.length<=9223372036854775807 then (match qX xs with
   |some l=>some (put d (.str ⟨l.toArray⟩) s)
   |none=>none) else none
  |_=>none
 |.box d h x=>if 0<(cellsOf (take h (aC s x) s).1).length then some (put d (.ptr .own (cellsOf (take h (aC s x) s).1)) (take h (aC s x) s).2) else none
 |.new d z=>some (put d (.ptr .own z) s)
 |.build d h z ps=>if cu h (takes h (ps.map (·.2)) s).1=true/\ck (ps.map (·.1.2)) (takes h (ps.map (·.2)) s).1=true then some (put d (.agg (xh z (ps.map (·.1.1)) (takes h (ps.map (·.2)) s).1)) (takes h (ps.map (·.2)) s).2) else none
 |.lit d h sz ps=>if ct sz (takes h ps s).1=true then some (put d (.row .own sz ((takes h ps s).1.map cellsOf)) (takes h ps s).2) else none
 |.make d sz bytes z n=>match aC s n with
  |.int _ i=>if 0<=i/\i*bytes<=140737488355328 then some (put d (.row .own sz (List.replicate i.toNat z)) s) else none
  |_=>none
 |.load d sz agg a=>match gD s (aC s a) with
  |some cs=>if sz<=cs.length then some (put d (bif agg then .agg (cs.take sz) else cs.headD .dead) s) else none
  |none=>none
 |.store sz h a x=>if (cellsOf (take h (aC s x) s).1).length=sz then (match aC (take h (aC s x) s).2 a with
  |.az r p i c=>if IC (take h (aC s x) s).2 r p i c (cellsOf (take h (aC s x) s).1)=true then some (setCells r p i c (cellsOf (take h (aC s x) s).1) (take h (aC s x) s).2) else none
  |_=>none) else none
 |.bN d x=>match aC s x with
  |.az r p i c=>some (put d (.az r p i c) s)
  |.ptr m cs=>some (put d (.ptr m cs) s)
  |.fn f cs=>some (put d (.fn f cs) s)
  |_=>none
 |.p9 d x off=>match aC s x with
  |.az r p i c=>some (put d (.az r p i (c+off)) s)
  |.ptr m cs=>some (put d (.ptr m (cs.drop off)) s)
  |_=>none
 |.uB d x off sz agg=>match aC s x with
  |.agg cs=>if off+sz<=cs.length then some (put d (bif agg then .agg ((cs.drop off).take sz) else (cs.drop off).headD .dead) s) else none
  |_=>none
 |.eT d sz x i=>match aC s i with
  |.int _ n=>if 0<=n then (match aC s x with
   |.row m z xs=>if z=sz then (match xs[n.toNat]? with
    |some e=>some (put d (.ptr m e) s)
    |none=>none) else none
   |.ref r p=>(match look s r p with
    |some (.row _ z xs)=>if z=sz/\n.toNat<xs.length then some (put d (.az r p n.toNat 0) s) else none
    |_=>none)
   |.cut r p lo hi=>(match look s r p with
    |some (.row _ z _)=>if z=sz/\lo+n.toNat<hi then some (put d (.az r p (lo+n.toNat) 0) s) else none
    |_=>none)
   |_=>none) else none
  |_=>none
 |.dA d x i=>match aC s x,aC s i with
  |.str t,.int _ n=>if 0<=n then (match t.data[n.toNat]? with
   |some b=>some (put d (.int .u8 b.toNat) s)
   |none=>none) else none
  |_,_=>none
 |.rE d n sz agg x i=>match aC s x,aC s i with
  |.agg cs,.int _ j=>if 0<=j/\j<n/\cs.length=n*sz then some (put d (bif agg then .agg ((cs.drop (j.toNat*sz)).take sz) else (cs.drop (j.toNat*sz)).headD .dead) s) else none
  |_,_=>none
 |.ext d x i=>match aC s x with
  |.av cs=>if i<cs.length then some (put d (cs.getD i .dead) s) else none
  |_=>none
 |.gv d x lo hi=>match aC s x with
  |.str t=>if 0<=asNat s lo 0/\asNat s lo 0<=asNat s hi t.size/\asNat s hi t.size<=t.size then some (put d (.str (t.extract (asNat s lo 0).toNat (asNat s hi t.size).toNat)) s) else none
  |_=>none
 |.k8 d sz x lo hi=>match rowAt s (aC s x) with
  |some (z0,xs)=>if z0=sz/\0<=asNat s lo 0/\asNat s lo 0<=asNat s hi xs.length/\asNat s hi xs.length<=xs.length then (match aC s x with
   |.row m z _=>some (put d (.row m z ((xs.take (asNat s hi xs.length).toNat).drop (asNat s lo 0).toNat)) s)
   |.ref r p=>some (put d (.cut r p (asNat s lo 0).toNat (asNat s hi xs.length).toNat) s)
   |_=>none) else none
  |none=>none
 |.uw sz z x=>match aC s x with
  |.cut r p lo hi=>(match look s r p with
   |some (.row .own z' xs)=>if z'=sz then some (iI r p (.row .own z' (rZ lo hi z xs)) s) else none
   |_=>none)
  |_=>none
 |.rL d f x as=>match aC s x with
  |.agg cs=>if X.bare.jl (b7 cs s).1=true then Uz d cs (b7 cs s).2 (C f (.agg (b7 cs s).1::gC (b7 cs s).2 .dead as (as.map λ_=>.dead))) else none
  |_=>none
 |.lT d fz sz agg a=>match gD s (aC s a) with
  |some cs=>if sz<=cs.length then ghost fz d (put d (bif agg then .agg (cs.take sz) else cs.headD .dead) s) else none
  |none=>none
 |.mQ d f cs=>some (put d (.fn f (cs.map (aC s))) s)
 |.len d x=>match rowAt s (aC s x) with
  |some (z,xs)=>some (put d (.int .i64 xs.length) s)
  |none=>none
 |.tG d x=>match aC s x with
  |.str t=>some (put d (.int .i64 t.size) s)
  |_=>none
 |.app d h sz bytes x y=>match (take .mv (aC s x) s).1 with
  |.row .own z xs=>if z=sz then (match h with
   |.mv=>(match (bJ (aC (take .mv (aC s x) s).2 y) (take .mv (aC s x) s).2).1 with
    |.row .own z' ys=>if z'=sz/\(xs.length+ys.length)*bytes<=140737488355328 then some (put d (.row .own z (xs++ys)) (bJ (aC (take .mv (aC s x) s).2 y) (take .mv (aC s x) s).2).2) else none
    |_=>none)
   |_=>(match rowAt (take .mv (aC s x) s).2 (aC (take .mv (aC s x) s).2 y) with
    |some (z',ys)=>if z'=sz/\(xs.length+ys.length)*bytes<=140737488355328/\eC ys=true then some (put d (.row .own z (xs++ys)) (take .mv (aC s x) s).2) else none
    |none=>none)) else none
  |_=>none
 |.mn d xs=>match xs.map (aC s) with
  |[.int k a,.int k' b]=>if k=k' then some (put d (.int k (if b<a then b else a)) s) else none
  |_=>none
 |.mx d xs=>match xs.map (aC s) with
  |[.int k a,.int k' b]=>if k=k' then some (put d (.int k (if b>a then b else a)) s) else none
  |_=>none
 |.call d f as=>rM C f d as none s
 |.jZ d x as=>match aC s x with
  |.fn f _=>if ok f=true then rM C f d as (some x) s else none
  |_=>none
end M
namespace M
open Go
def cE.Sound[Bs](P:Program)(C:cE):Prop:=∀f xs o,C f xs=some o->AC P f xs λr ps=>r=o.1/\ps=o.2
section
variable [Bs]{P:Program}{C:cE}{ok:FuncId->Bool}
def QU{s1:ah}{fv:Option AV}{f:FuncId}(h:wV s1 fv f=true):rN s1 fv f:=by
 unfold wV at h;unfold rN;cases fv with
 |none=>trivial
 |some x=>
  simp only at h⊢;unfold mN at h;split at h;·rename_i h1;rw[h1];simpa using h
  ·cases h
def ags{r:Nat}{p:Path}{s:ah}{n:Nat}{x y:X}{back:zV}(h:GG r p s n x=some (y,back)){go:X->(X->(ah->Prop)->Prop)->Prop}
  (hg:∀b':X->(ah->Prop)->Prop,(∀q K s',back q=some s'->K s'->b' q K)->go y b'):x9 r p s n x go:=by
 unfold GG at h;unfold x9;split at h
 ·split at h
  ·rename_i z xs hl;obtain⟨rfl,rfl⟩:=DQ (iL h);simp only[hl];refine hg _ λq K s' hb hK=>?_;simp only at hb;split at hb
   ·split at hb;·rename_i hz;obtain rfl:=iL hb;exact⟨hz,hK⟩
    ·cases hb
   ·cases hb
  ·cases h
 ·split at h
  ·rename_i cs hl;split at h
   ·rename_i hc;obtain⟨rfl,rfl⟩:=DQ (iL h);simp only[hl];refine⟨hc,hg _ λq K s' hb hK=>?_⟩;simp only at hb;split at hb
    ·split at hb;·rename_i hz;obtain rfl:=iL hb;exact⟨hz,hK⟩
     ·cases hb
    ·cases hb
   ·cases h
  ·rename_i z xs hl;split at h
   ·rename_i e he;split at h
    ·rename_i hc;obtain⟨rfl,rfl⟩:=DQ (iL h);simp only[hl,he];refine⟨hc,hg _ λq K s' hb hK=>?_⟩;simp only at hb;split at hb
     ·split at hb
      ·split at hb;·rename_i hz hso;obtain rfl:=iL hb;exact⟨hz,hso,hK⟩
       ·cases hb
      ·cases hb
     ·cases hb
    ·cases h
   ·cases h
  ·cases h
 ·cases h
def QO(hC:C.Sound P){f:FuncId}{d:Option Nat}{as:List (AV×PM)}{fv:Option AV}{s s':ah}(h:rM C f d as fv s=some s'){K:ah->Prop}(hK:K s'):um P f d as fv s K:=by
 unfold rM at h;unfold um;split at h
 ·rename_i hb;refine⟨hb,?_⟩;split at h
  ·rename_i hm;split at h
   ·rename_i hc;simp only[hm];refine⟨QU hc,?_⟩;unfold qI at h;split at h;·rename_i o ho;obtain rfl:=iL h;exact(hC _ _ _ ho).mono λr ps ⟨h1,_⟩=>by rw[h1];exact hK
    ·cases h
   ·cases h
  ·rename_i x n hm;simp only[hm];unfold EA at h;split at h
   ·rename_i y back hmu;split at h
    ·rename_i hc;refine ags hmu λb' hb'=>⟨hc.1,QU hc.2,?_⟩;unfold Cn at h;split at h
     ·rename_i o ho;split at h;·rename_i s2 hs2;obtain rfl:=iL h;refine(hC _ _ _ ho).mono λr ps ⟨h1,h2⟩=>?_;rw[h1,h2];exact hb' _ _ _ hs2 hK
      ·cases h
     ·cases h
    ·cases h
   ·cases h
 ·cases h
def Rr(hC:C.Sound P)(hok:∀f,ok f=true->aA P f=true){o:cA}{s s':ah}(h:cN C ok o s=some s'){K:ah->Prop}(hK:K s'):aT P o s K:=by
 cases o with
 |mv d x=>cases h;exact hK
 |aN d h1 x=>cases h;exact hK
 |pick d c a b=>simp only[cN] at h;simp only[aT];split at h<;>first|(rename_i h1;rw[h1];cases h;exact hK)|cases h
 |un d op x=>
  simp only[cN] at h;split at h;·rename_i h1;cases h;exact⟨al6 h1,hK⟩
  ·cases h
 |bin d op x y=>
  simp only[cN] at h;split at h;·rename_i h1;cases h;exact⟨Y1 h1,hK⟩
  ·cases h
 |beq d neg x y=>
  simp only[cN] at h;simp only[aT];split at h;·rename_i h1 h2;rw[h1,h2];cases h;exact hK
  ·cases h
 |sV d neg x=>
  simp only[cN] at h;simp only[aT];split at h
  ·rename_i h1;rw[h1];split at h;·rename_i hc;cases h;intro b hb;rw[hb hc];cases neg<;>exact hK
   ·cases h
  ·cases h
 |ua d neg ks x y=>
  simp only[cN] at h;simp only[aT];split at h
  ·rename_i h1 h2;rw[h1,h2];split at h;·rename_i t ht;cases h;exact⟨t,ht,hK⟩
   ·cases h
  ·cases h
 |conv d k x=>
  simp only[cN] at h;simp only[aT];split at h;·rename_i h1;rw[h1];cases h;exact hK
  ·cases h
 |bytes d x=>
  simp only[cN] at h;simp only[aT];split at h;·rename_i h1;rw[h1];cases h;exact hK
  ·cases h
 |text d x=>
  simp only[cN] at h;simp only[aT];split at h
  ·rename_i xs h1;split at h
   ·rename_i h2;split at h;·rename_i l h3;cases h;exact⟨xs,h1,h2,l,VG h3,hK⟩
    ·cases h
   ·cases h
  ·cases h
 |box d h1 x=>
  simp only[cN] at h;split at h;·rename_i h2;cases h;exact⟨h2,hK⟩
  ·cases h
 |new d z=>cases h;exact hK
 |build d h1 z ps=>
  simp only[cN] at h;split at h;·rename_i h2;cases h;exact⟨aiB h2.1,Va h2.2,hK⟩
  ·cases h
 |lit d h1 sz ps=>
  simp only[cN] at h;split at h;·rename_i h2;cases h;refine⟨λx hx=>?_,hK⟩;have:=(pR.1 h2) x hx;simpa using this
  ·cases h
 |make d sz bytes z n=>
  simp only[cN] at h;simp only[aT];split at h
  ·rename_i h1;rw[h1];split at h;·rename_i h2;cases h;exact⟨h2.1,h2.2,hK⟩
   ·cases h
  ·cases h
 |load d sz agg a=>
  simp only[cN] at h;simp only[aT];split at h
  ·rename_i cs h1;split at h;·rename_i h2;cases h;exact⟨cs,h1,h2,hK⟩
   ·cases h
  ·cases h
 |store sz h1 a x=>
  simp only[cN] at h;simp only[aT];split at h
  ·rename_i h2;refine⟨h2,?_⟩;split at h
   ·rename_i h3;rw[h3];split at h;·rename_i h4;cases h;exact⟨aiQ h4,hK⟩
    ·cases h
   ·cases h
  ·cases h
 |bN d x=>simp only[cN] at h;simp only[aT];split at h<;>first|(rename_i h1;rw[h1];cases h;exact hK)|cases h
 |p9 d x off=>simp only[cN] at h;simp only[aT];split at h<;>first|(rename_i h1;rw[h1];cases h;exact hK)|cases h
 |uB d x off sz agg=>
  simp only[cN] at h;simp only[aT];split at h
  ·rename_i h1;rw[h1];split at h;·rename_i h2;cases h;exact⟨h2,hK⟩
   ·cases h
  ·cases h
 |eT d sz x i=>
  simp only[cN] at h;simp only[aT];split at h
  ·rename_i h1;rw[h1];split at h
   ·rename_i h2;refine⟨h2,?_⟩;split at h
    ·rename_i h3;rw[h3];split at h
     ·rename_i h4;refine⟨h4,?_⟩;split at h;·rename_i e h5;cases h;exact⟨e,h5,hK⟩
      ·cases h
     ·cases h
    ·rename_i h3;rw[h3];simp only;split at h
     ·rename_i h4;rw[h4];split at h;·rename_i h5;cases h;exact⟨h5.1,h5.2,hK⟩
      ·cases h
     ·cases h
    ·rename_i h3;rw[h3];simp only;split at h
     ·rename_i h4;rw[h4];split at h;·rename_i h5;cases h;exact⟨h5.1,h5.2,hK⟩
      ·cases h
     ·cases h
    ·cases h
   ·cases h
  ·cases h
 |dA d x i=>
  simp only[cN] at h;simp only[aT];split at h
  ·rename_i h1 h2;rw[h1,h2];split at h
   ·rename_i h3;refine⟨h3,?_⟩;split at h;·rename_i b h4;cases h;exact⟨b,h4,hK⟩
    ·cases h
   ·cases h
  ·cases h
 |rE d n sz agg x i=>
  simp only[cN] at h;simp only[aT];split at h
  ·rename_i h1 h2;rw[h1,h2];split at h;·rename_i h3;cases h;exact⟨h3.1,h3.2.1,h3.2.2,hK⟩
   ·cases h
  ·cases h
 |ext d x i=>
  simp only[cN] at h;simp only[aT];split at h
  ·rename_i h1;rw[h1];split at h;·rename_i h3;cases h;exact⟨h3,hK⟩
   ·cases h
  ·cases h
 |gv d x lo hi=>
  simp only[cN] at h;simp only[aT];split at h
  ·rename_i h1;rw[h1];split at h;·rename_i h3;cases h;exact⟨h3.1,h3.2.1,h3.2.2,hK⟩
   ·cases h
  ·cases h
 |k8 d sz x lo hi=>
  simp only[cN] at h;simp only[aT];split at h
  ·rename_i z0 xs h1;split at h;·rename_i h2;obtain⟨rfl,h2,h3,h4⟩:=h2;refine⟨xs,h1,h2,h3,h4,?_⟩;split at h<;>first|(rename_i h5;rw[h5];cases h;exact hK)|cases h
   ·cases h
  ·cases h
 |uw sz z x=>
  simp only[cN] at h;simp only[aT];split at h
  ·rename_i h1;rw[h1];simp only;split at h
   ·rename_i h2;rw[h2];split at h;·rename_i h3;cases h;exact⟨h3,hK⟩
    ·cases h
   ·cases h
  ·cases h
 |rL d f x as=>
  simp only[cN] at h;simp only[aT];split at h
  ·rename_i cs h1;rw[h1];split at h
   ·rename_i h2;refine⟨h2,?_⟩;unfold Uz at h;split at h
    ·rename_i r ys ps ho;split at h
     ·rename_i h3;split at h;·rename_i s2 h4;cases h;exact(hC _ _ _ ho).mono λr' ps' ⟨e1,e2⟩=>by rw[e1,e2];exact⟨h3,_,h4,hK⟩
      ·cases h
     ·cases h
    ·cases h
   ·cases h
  ·cases h
 |lT d fz sz agg a=>
  simp only[cN] at h;simp only[aT];split at h
  ·rename_i cs h1;split at h;·rename_i h2;exact⟨cs,h1,h2,s',h,hK⟩
   ·cases h
  ·cases h
 |mQ d f cs=>cases h;exact hK
 |len d x=>
  simp only[cN] at h;simp only[aT];split at h;·rename_i z xs h1;cases h;exact⟨z,xs,h1,hK⟩
  ·cases h
 |tG d x=>
  simp only[cN] at h;simp only[aT];split at h;·rename_i h1;rw[h1];cases h;exact hK
  ·cases h
 |app d h1 sz bytes x y=>
  simp only[cN] at h;simp only[aT];split at h
  ·rename_i z xs h2;rw[h2];split at h
   ·rename_i h3;refine⟨h3,?_⟩;cases h1 with
    |mv=>
     simp only at h⊢;split at h
     ·rename_i h4;simp only[h4];split at h;·rename_i h5;cases h;exact⟨h5.1,h5.2,hK⟩
      ·cases h
     ·cases h
    |al=>
     simp only at h⊢;split at h
     ·rename_i z' ys h4;split at h;·rename_i h5;obtain⟨rfl,h5,h6⟩:=h5;cases h;exact⟨ys,h4,h5,N1 h6,hK⟩
      ·cases h
     ·cases h
    |aM=>
     simp only at h⊢;split at h
     ·rename_i z' ys h4;split at h;·rename_i h5;obtain⟨rfl,h5,h6⟩:=h5;cases h;exact⟨ys,h4,h5,N1 h6,hK⟩
      ·cases h
     ·cases h
   ·cases h
  ·cases h
 |mn d xs=>
  simp only[cN] at h;simp only[aT];split at h
  ·rename_i h1;rw[h1];split at h;·rename_i h2;cases h;exact⟨h2,hK⟩
   ·cases h
  ·cases h
 |mx d xs=>
  simp only[cN] at h;simp only[aT];split at h
  ·rename_i h1;rw[h1];split at h;·rename_i h2;cases h;exact⟨h2,hK⟩
   ·cases h
  ·cases h
 |call d f as=>exact QO hC h hK
 |jZ d x as=>
  simp only[cN] at h;simp only[aT];split at h
  ·rename_i h1;rw[h1];split at h;·rename_i h2;exact⟨hok _ h2,QO hC h hK⟩
   ·cases h
  ·cases h
end
end M
namespace M
open Go
mutual
def X.eP:X->X->Bool
 |.dead,.dead=>true
 |.int k n,.int k' n'=>decide (k=k') && decide (n=n')
 |.bool a,.bool b=>a==b
 |.str s,.str t=>decide (s=t)
 |.row m z xs,.row m' z' ys=>decide (m=m') && z==z' && X.rW xs ys
 |.ptr m xs,.ptr m' ys=>decide (m=m') && X.mE xs ys
 |.agg xs,.agg ys=>X.mE xs ys
 |.av xs,.av ys=>X.mE xs ys
 |.fn f xs,.fn g ys=>f==g && X.mE xs ys
 |.ref s p,.ref t q=>s==t && p==q
 |.az s p i c,.az t q j d=>s==t && p==q && i==j && c==d
 |.cut s p i c,.cut t q j d=>s==t && p==q && i==j && c==d
 |_,_=>false
def X.mE:List X->List X->Bool
 |[],[]=>true
 |x::l,y::r=>X.eP x y && X.mE l r
 |_,_=>false
def X.rW:List (List X)->List (List X)->Bool
 |[],[]=>true
 |x::l,y::r=>X.mE x y && X.rW l r
 |_,_=>false
end
mutual
def X.Rx:∀{x y:X},X.eP x y=true->x=y
 |.dead,y,h=>by cases y<;>simp_all[X.eP]
 |.int k n,y,h=>by cases y<;>simp_all[X.eP]
 |.bool a,y,h=>by cases y<;>simp_all[X.eP]
 |.str s,y,h=>by cases y<;>simp_all[X.eP]
 |.row m z xs,y,h=>by cases y<;>simp only[X.eP,aB,bp,en,fD] at h;rw[h.1.1,h.1.2,X.Rv h.2]
 |.ptr m xs,y,h=>by cases y<;>simp only[X.eP,aB,bp,en,fD] at h;rw[h.1,X.xe h.2]
 |.agg xs,y,h=>by cases y<;>simp only[X.eP,fD] at h;rw[X.xe h]
 |.av xs,y,h=>by cases y<;>simp only[X.eP,fD] at h;rw[X.xe h]
 |.fn f xs,y,h=>by cases y<;>simp only[X.eP,aB,en,fD] at h;rw[h.1,X.xe h.2]
 |.ref s p,y,h=>by cases y<;>simp_all[X.eP]
 |.az s p i c,y,h=>by cases y<;>simp_all[X.eP]
 |.cut s p i c,y,h=>by cases y<;>simp_all[X.eP]
def X.xe:∀{x y:List X},X.mE x y=true->x=y
 |[],[],_=>rfl
 |[],_::_,h=>by simp[X.mE] at h
 |_::_,[],h=>by simp[X.mE] at h
 |x::l,y::r,h=>by simp only[X.mE,aB] at h;rw[X.Rx h.1,X.xe h.2]
def X.Rv:∀{x y:List (List X)},X.rW x y=true->x=y
 |[],[],_=>rfl
 |[],_::_,h=>by simp[X.rW] at h
 |_::_,[],h=>by simp[X.rW] at h
 |x::l,y::r,h=>by simp only[X.rW,aB] at h;rw[X.xe h.1,X.Rv h.2]
end
mutual
def X.Ry:∀x:X,X.eP x x=true
 |.dead=>rfl
 |.int k n=>by simp[X.eP]
 |.bool a=>by simp[X.eP]
 |.str s=>by simp[X.eP]
 |.row m z xs=>by simp[X.eP,X.Rw xs]
 |.ptr m xs=>by simp[X.eP,X.xg xs]
 |.agg xs=>by simp[X.eP,X.xg xs]
 |.av xs=>by simp[X.eP,X.xg xs]
 |.fn f xs=>by simp[X.eP,X.xg xs]
 |.ref s p=>by simp[X.eP]
 |.az s p i c=>by simp[X.eP]
 |.cut s p i c=>by simp[X.eP]
def X.xg:∀x:List X,X.mE x x=true
 |[]=>rfl
 |x::l=>by simp[X.mE,X.Ry x,X.xg l]
def X.Rw:∀x:List (List X),X.rW x x=true
 |[]=>rfl
 |x::l=>by simp[X.rW,X.xg x,X.Rw l]
end
def rV:ah->ah->Bool
 |[],[]=>true
 |(k,x)::l,(k',y)::r=>k==k' && X.eP x y && rV l r
 |_,_=>false
def Ru:∀{x y:ah},rV x y=true->x=y
 |[],[],_=>rfl
 |[],_::_,h=>by simp[rV] at h
 |_::_,[],h=>by simp[rV] at h
 |(k,x)::l,(k',y)::r,h=>by simp only[rV,aB,en] at h;rw[h.1.1,X.Rx h.1.2,Ru h.2]
def same:Option ah->Option ah->Option ah
 |some a,some b=>if rV a b=true then some a else none
 |_,_=>none
def eG(C:cE)(ok:FuncId->Bool)(g:G)(s:ah):Option ah:=match g with
 |⟨none,o⟩=>cN C ok o s
 |⟨some (t,b),o⟩=>match get s t with
  |.bool v=>if v=b then cN C ok o ((t,.bool b)::s) else some (fS o.dst (.av []) ((t,.bool (!b))::s))
  |.av []=>some (fS o.dst (.av []) s)
  |_=>none
def j7(C:cE)(ok:FuncId->Bool):List G->ah->Option ah
 |[],s=>some s
 |g::l,s=>(eG C ok g s).bind (j7 C ok l)
def eD(C:cE)(ok:FuncId->Bool):DT->ah->Option ah
 |.nil ks,s=>some (keep ks s)
 |.step _ g t,s=>(eG C ok g s).bind (eD C ok t)
 |.alt a b,s=>same (eD C ok a s) (eD C ok b s)
 |.kp ks t,s=>eD C ok t (keep ks s)
abbrev cB:=Option (Ex×ah)
def fB(k:ah->cB):cB->cB
 |some (.normal,s)=>k s
 |some (.exit i,s)=>some (.exit i,s)
 |some (.ret,s)=>some (.ret,s)
 |none=>none
def lD(id:Nat):cB->cB
 |some (.exit i,s)=>if i=id then some (.normal,s) else some (.exit i,s)
 |some (.normal,s)=>some (.normal,s)
 |some (.ret,s)=>some (.ret,s)
 |none=>none
def lX(ks:List Nat):cB->cB
 |some (.normal,s)=>some (.normal,keep ks s)
 |some (.exit i,s)=>some (.exit i,s)
 |some (.ret,s)=>some (.ret,s)
 |none=>none
def iW:Option ah->cB
 |some s=>some (.normal,s)
 |none=>none
def iter(f:ah->cB):Nat->ah->cB
 |0,_=>none
 |n+1,s=>fB (iter f n) (f s)
def eA(C:cE)(ok:FuncId->Bool)(N:Nat):A->ah->cB
 |.skip,s=>some (.normal,s)
 |.ret,s=>some (.ret,s)
 |.exit id,s=>some (.exit id,s)
 |.ops l,s=>iW (j7 C ok l s)
 |.draw t,s=>iW (eD C ok t s)
 |.seq a b,s=>fB (eA C ok N b) (eA C ok N a s)
 |.cond c a b,s=>match aC s c with
  |.bool t=>if t=true then eA C ok N a s else eA C ok N b s
  |_=>none
 |.block id b,s=>lD id (eA C ok N b s)
 |.loop b,s=>iter (eA C ok N b) N s
 |.pk ks b,s=>lX ks (eA C ok N b s)
structure Fn where
 body:A
 rs:List RV
 n:Nat
abbrev iN:=FuncId->Option Fn
def fin(F:Fn):cB->Option Out
 |some (.exit _,_)=>none
 |some (_,s)=>if X.clean.cH (dU F.rs s).1=true/\(dU F.rs s).1.any X.mO=false then some (vn (dU F.rs s).1,qH 0 F.n (dU F.rs s).2) else none
 |none=>none
def eF(C:cE)(ok:FuncId->Bool)(N:Nat)(F:Fn)(xs:List X):Option Out:=
 if xs.length=F.n then fin F (eA C ok N F.body (nv xs)) else none
def aq(T:iN)(f:FuncId):Bool:=(T f).isSome
def exec(L:cE)(T:iN):Nat->cE
 |0,_,_=>none
 |n+1,f,xs=>match T f with
  |some F=>eF (exec L T n) (aq T) n F xs
  |none=>L f xs
section
variable [Bs]{P:Program}{C:cE}{ok:FuncId->Bool}
def Rn(hC:C.Sound P)(hok:∀f,ok f=true->aA P f=true){g:G}{s s':ah}(h:eG C ok g s=some s'){K:ah->Prop}(hK:K s'):pX P g s K:=by
 obtain⟨gg,o⟩:=g;cases gg with
 |none=>exact Rr hC hok h hK
 |some tb=>
  obtain⟨t,b⟩:=tb;simp only[eG] at h;simp only[pX];split at h
  ·rename_i v hv;rw[hv];split at h;·rename_i lP;exact⟨λ_=>Rr hC hok h hK,λhn=>by subst lP;cases v<;>simp at hn⟩
   ·rename_i lP;exact⟨λhh=>(lP hh).elim,λ_=>by cases h;exact hK⟩
  ·rename_i hv;rw[hv];cases h;exact hK
  ·cases h
def Rt(hC:C.Sound P)(hok:∀f,ok f=true->aA P f=true):∀{l:List G} {s s':ah},j7 C ok l s=some s'->∀{Q:Ex->ah->Prop},Q .normal s'->kM P l s Q
 |[],s,s',h,Q,hQ=>by cases h;exact hQ
 |g::l,s,s',h,Q,hQ=>by
  simp only[j7] at h;cases h1:eG C ok g s with
  |none=>rw[h1] at h;cases h
  |some s1=>rw[h1] at h;exact Rn hC hok h1 (Rt hC hok h hQ)
def Aw(hC:C.Sound P)(hok:∀f,ok f=true->aA P f=true):∀{t:DT} {s s':ah},eD C ok t s=some s'->∀{Q:Ex->ah->Prop},Q .normal s'->iz P t s Q
 |.nil ks,s,s',h,Q,hQ=>by cases h;exact hQ
 |.step i g t,s,s',h,Q,hQ=>by
  simp only[eD] at h;cases h1:eG C ok g s with
  |none=>rw[h1] at h;cases h
  |some s1=>rw[h1] at h;exact Rn hC hok h1 (Aw hC hok h hQ)
 |.alt a b,s,s',h,Q,hQ=>by
  simp only[eD] at h;unfold same at h;split at h
  ·rename_i x y hx hy;split at h;·rename_i he;obtain rfl:=Ru he;cases h;exact⟨Aw hC hok hx hQ,Aw hC hok hy hQ⟩
   ·cases h
  ·cases h
 |.kp ks t,s,s',h,Q,hQ=>Aw (t:=t) hC hok h hQ
def Vw{k:ah->cB}{r:cB}{e:Ex}{s:ah}(h:fB k r=some (e,s)):(∃s',r=some (.normal,s')/\k s'=some (e,s))\/(e≠.normal/\r=some (e,s)):=by
 unfold fB at h;split at h;·exact .inl ⟨_,rfl,h⟩
 ·cases h;exact .inr ⟨by simp,rfl⟩
 ·cases h;exact .inr ⟨by simp,rfl⟩
 ·cases h
def aaD(hC:C.Sound P)(hok:∀f,ok f=true->aA P f=true){N:Nat}:∀{t:A} {s s':ah} {e:Ex},eA C ok N t s=some (e,s')->∀{Q:Ex->ah->Prop},Q e s'->eN P t s Q:=by
 intro t;induction t with
 |skip=>intro s s' e h Q hQ;cases h;exact hQ
 |ret=>intro s s' e h Q hQ;cases h;exact hQ
 |exit id=>intro s s' e h Q hQ;cases h;exact hQ
 |ops l=>
  intro s s' e h Q hQ;simp only[eA] at h;unfold iW at h;split at h;·rename_i s1 h1;cases h;exact Rt hC hok h1 hQ
  ·cases h
 |draw l=>
  intro s s' e h Q hQ;simp only[eA] at h;unfold iW at h;split at h;·rename_i s1 h1;cases h;exact Aw hC hok h1 hQ
  ·cases h
 |seq a b iU ku=>
  intro s s' e h Q hQ;simp only[eA] at h;rcases Vw h with ⟨s1,h1,h2⟩|⟨hne,h1⟩;·exact iU h1 (ku h2 hQ)
  ·refine iU h1 ?_;cases e with
   |normal=>exact(hne rfl).elim
   |exit i=>exact hQ
   |ret=>exact hQ
 |cond c a b iU ku=>
  intro s s' e h Q hQ;simp only[eA] at h;simp only[eN];split at h
  ·rename_i t ht;rw[ht];split at h;·rename_i h1;exact⟨λ_=>iU h hQ,λh2=>by rw[h1] at h2;cases h2⟩
   ·rename_i h1;exact⟨λh2=>(h1 h2).elim,λ_=>ku h hQ⟩
  ·cases h
 |block id b ih=>
  intro s s' e h Q hQ;simp only[eA] at h;unfold lD at h;split at h
  ·rename_i i s1 h1;split at h;·rename_i hi;cases h;refine ih h1 ?_;subst hi;simpa using hQ
   ·rename_i hi;cases h;refine ih h1 ?_;have:(i==id)=false:=by simpa using hi
    simpa [this] using hQ
  ·rename_i s1 h1;cases h;exact ih h1 hQ
  ·rename_i s1 h1;cases h;exact ih h1 hQ
  ·cases h
 |loop b ih=>
  intro s s' e h Q hQ;simp only[eA] at h;refine⟨λn s1=>iter (eA C ok N b) n s1=some (e,s'),⟨N,h⟩,λn s1 h1=>?_⟩;cases n with
  |zero=>cases h1
  |succ n=>
   simp only[iter] at h1;rcases Vw h1 with ⟨s2,h2,h3⟩|⟨hne,h2⟩;·exact ih h2 ⟨n,Nat.lt_succ_self n,h3⟩
   ·refine ih h2 ?_;cases e with
    |normal=>exact(hne rfl).elim
    |exit i=>exact hQ
    |ret=>exact hQ
 |pk ks b ih=>
  intro s s' e h Q hQ;simp only[eA] at h;unfold lX at h;split at h;·rename_i s1 h1;cases h;exact ih h1 hQ
  ·rename_i s1 h1;cases h;exact ih h1 hQ
  ·rename_i s1 h1;cases h;exact ih h1 hQ
  ·cases h
structure iN.Ok (P:Program) (T:iN):Prop where
 told:∀f F,T f=some F->Told P f F.body F.rs F.n
 ok:∀f F,T f=some F->aA P f=true
def RA{L:cE}{T:iN}(hL:L.Sound P)(hT:T.Ok P):∀n,(exec L T n).Sound P
 |0=>λf xs o h=>by cases h
 |n+1=>λf xs o h=>by
  simp only[exec] at h;split at h
  ·rename_i F hF;unfold eF at h;split at h
   ·rename_i hn;refine(hT.told f F hF).ac hn ?_;unfold fin at h;split at h;·cases h
    ·rename_i e s' h1 h2;split at h
     ·rename_i hc;have h2:eA (exec L T n) (aq T) n F.body (nv xs)=some (e,s'):=h2;cases h;refine aaD (RA hL hT n) (λf hf=>?_) h2 ?_;·unfold aq at hf;obtain⟨F',hF'⟩:=zK.1 hf;exact hT.ok f F' hF'
      ·cases e with
       |exit i=>exact(h1 i rfl).elim
       |normal=>exact⟨hc.1,λx hx=>by have:=Jq.1 hc.2 x hx;simpa using this,rfl,rfl⟩
       |ret=>exact⟨hc.1,λx hx=>by have:=Jq.1 hc.2 x hx;simpa using this,rfl,rfl⟩
     ·cases h
    ·cases h
   ·cases h
  ·exact hL f xs o h
end
end M
