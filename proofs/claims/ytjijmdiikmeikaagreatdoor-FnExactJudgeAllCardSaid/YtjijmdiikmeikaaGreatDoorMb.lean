/- A machine of values for loaded Go functions, sound for the calculus of calls; part 2; no conditions. -/
import Derived.Test.YtjijmdiikmeikaaGreatDoorMa
import Derived.Laws.IdiomCopy
import Derived.Lib.SliceRun
import Derived.Laws.Cover3
set_option linter.defProp false
set_option linter.unusedSectionVars false
set_option linter.unusedVariables false
set_option linter.unusedSimpArgs false
namespace M
open Go Go.RowKit
variable [Bs]
section
variable {P:Program}{c:Ctx}{G:Nat->C}{zl:Nat->Nat->Prop}{s:ah}{a:Act}{w:World}{o:Oper}{K:ah->Prop}
def ali{zb:Nat->Nat->Prop}(h:Inv w zl zb G s){v:Value}{r:Nat}{p:Path}{i k:Nat}(hr:(C.az v r p i k).rf G){l:List C}(hs:storable s r p i k (l.map C.er))(hl:∀x∈l,cZ x.er=true->x.cZ):
  ∃g k0 d,v=.pointer (some ⟨g,k0,none⟩)/\(G r).sub p=some d/\∀q x,l[q]?=some x->fC d i (k+q) x g (k0+q):=by
 obtain⟨d,hd,hp⟩:=hr;unfold storable look at hs;rw[<-h.er,C.gL,hd] at hs;simp only[cq] at hs;rcases hp with ⟨m,sz,g,o,len,cap,e,rfl,rfl⟩|⟨m,g,o,n,f,rfl,rfl,rfl⟩
 ·refine⟨g,o+i*sz+k,_,rfl,hd,λq x hq=>?_⟩;simp only[C.er] at hs;cases m with
  |own=>
   simp only[C.dn] at hs;split at hs
   ·rename_i e0 lz;split at lz
    ·rename_i hi;injection lz with lz
     obtain⟨h1,h2⟩:=hs;have hlen:e0.length=sz:=by rw[<-lz];simp
     have oC:=(aK.1 hq).1;simp only[dH] at h1;have:=fC.row (d:=.row .own sz (some (g,o,none)) len cap e) (i:=i) (c:=k+q) (y:=x) rfl hi (by omega) (hl x (lX hq) (I9 h2 _ (fR (lX hq))));rwa [show o+i*sz+(k+q)=o+i*sz+k+q by omega] at this
    ·cases lz
   ·exact hs.elim
  |sl=>exact hs.elim
  |af=>exact hs.elim
 ·refine⟨g,o+k,_,rfl,hd,λq x hq=>?_⟩;simp only[C.er] at hs;cases m with
  |own=>have oC:=(aK.1 hq).1;simp only[dH,wj] at hs;have:=fC.ptr (d:=.ptr .own g o n f) (i:=0) (c:=k+q) (y:=x) rfl rfl (by omega);rwa [show o+(k+q)=o+k+q by omega] at this
  |sl=>exact hs.elim
  |af=>exact hs.elim
def Vc{x:C}(h:cZ x.er=true):x.cZ:=by cases x<;>first|trivial|(simp[C.er,cZ] at h)
def akj(h:St c G zl s a w){sz:Nat}{tk:Tk}{ty:TypeId}{x y:AV}{x' y':Operand}(ho:o.op=.store ty y' x')(hsz:∃i,P.info? ty=some i/\i.size=sz)(h0:0<sz)(hd:o.dst=none)(hx:aR x' x=true)(hy:aR y' y=true)
  (hK:aV P (.store sz tk y x) s K):Good P c o a w K:=by
 obtain⟨p,e1,e2,e3⟩:=cr h hx;obtain⟨q,G1,f1,f2,f3,f4⟩:=qN tk h.inv e3;obtain⟨k1,k2⟩:=hK;rw[e1] at f1 f4;have h1:=h.zk f4;obtain⟨u,u1,u2,u3⟩:=cr h1 hy;rw[<-u1] at k2;cases u with
 |az v r pp i k=>
  simp only[C.er] at k2;obtain⟨k2,k3⟩:=k2;rw[<-f1,<-ud] at k1 k2 k3;have hsh:=I8 f4.rf;have hT:=bM.flat (bM.one f4) (λx hx=>by rw[fF] at hx;subst hx;exact hsh);simp only[je,Py,lZ] at hT;obtain⟨g,k0,d,hv,hsub,hsp⟩:=ali h1.inv u3.rf k2 (λx _ hs=>Vc hs);have hlen:q.cells.length=sz:=by simpa using k1
  obtain⟨w',G',j1,j2,j3,j4,j5⟩:=Vk (P:=P) r pp i (k0:=k0) q.cells.length q.cells rfl k 0 h1.inv hsub (by simpa using hsp) ⟨λx hx=>⟨(wN hsh f4.ok hx).1,(wN hsh f4.ok hx).2,KU f4.rf hx,(hT.all x hx).2.1,(hT.all x hx).2.2.1⟩,hT.apart⟩;have hcv:=EW (by omega) hsh;refine⟨undef,w',.inr ⟨?_,rfl⟩,G',zl,_,k3,?_⟩
  ·have LF:a.eval y'=.pointer (some ⟨g,k0,none⟩):=by rw[<-u2];exact hv
   obtain⟨ii,hi,kJ⟩:=hsz;have hxv:a.eval x'=q.val:=by rw[f2,e2]
   simp[execOp,ho,LF,hxv,Instr.storeAt,Instr.sureAddr,storeVar,hcv,Go.sizeOf,typeInfo,hi,kJ,hlen,j1]
  ·rw[hd];refine h.move j2 (λt=>(j3 t).trans (f4.val t)) j5 (λb k' hs=>?_) (λt b k' hf=>?_)
   ·obtain⟨rfl,hs1,hs2⟩:=hs;simp only[oa] at hs1 hs2;have hlt:k' - k0<q.cells.length:=by omega
    have:=(hsp (k' - k0) _ (cv hlt)).fp;rw[show k0+(k' - k0)=k' by omega] at this;exact h1.tr.dom r _ _ (C.gM pp hsub (h1.inv.ok r) this)
   ·refine .inl ?_;rcases j4 t b k' hf with ⟨x,hx,hf⟩|hf;·exact(hT.all x hx).2.2.2 b k' hf
    ·exact⟨t,f4.mono t b k' hf⟩
 |_=>exact k2.elim
def cV(len z:Nat)(e:Nat->Nat->C):List (List C):=(List.range len).map λi=>(List.range z).map λj=>e i j
def uU(len z:Nat)(e:Nat->Nat->C):∀x∈cV len z e,x.length=z:=λx hx=>by obtain⟨i,_,rfl⟩:=bw.1 hx;simp
def Tx(len z:Nat)(e:Nat->Nat->C):(cV len z e).map (λx=>x.map C.er)=dO z len e:=by simp only[cV,dO,cS];refine cm λi _=>?_;show ((List.range z).map λj=>e i j).map C.er=_;rw[cS];rfl
def nG{len z:Nat}{e:Nat->Nat->C}{x:C}(hx:x∈(cV len z e).flatten):∃i j,i<len/\j<z/\x=e i j:=by obtain⟨l,hl,hx⟩:=JF.1 hx;obtain⟨i,hi,rfl⟩:=bw.1 hl;obtain⟨j,hj,rfl⟩:=bw.1 hx;exact⟨i,j,by simpa using hi,by simpa using hj,rfl⟩
def Tw{len z:Nat}{e:Nat->Nat->C}{q:Nat}{x:C}(h0:0<z)(h:(cV len z e).flatten[q]?=some x):q / z<len/\q%z<z/\x=e (q / z) (q%z):=by
 have hq:=(aK.1 h).1;rw[rR (uU len z e)] at hq;have hl:(cV len z e).length=len:=by simp[cV]
 rw[hl] at hq;have h1:q%z<z:=tG _ h0;have h2:q / z<len:=Wo (by rw[qT];exact hq);have AN:q=q / z*z+q%z:=by have:=Eh q z;rw[qT] at this;omega
 have:=Ap (uU len z e) (q / z) (q%z) (by rw[hl];exact h2) h1;rw[<-AN,h] at this;simp only[cV,C.dn,aA h2,gw,aA h1] at this;exact⟨h2,h1,iz this⟩
def MB{Z:Md->Nat->Nat->Prop}{z len cap:Nat}{A:Option Ad}{e:Nat->Nat->C}(h:(C.row .own z A len cap e).ok w Z):(cV len z e).flatten.Pairwise λa b=>∀x k,a.fp x k->¬b.fp x k:=by
 obtain⟨h1,h2,h3,h4,h5⟩:=h;refine List.pairwise_flatten.2 ⟨λl hl=>?_,?_⟩
 ·obtain⟨i,hi,rfl⟩:=bw.1 hl;have hi:i<len:=by simpa using hi
  refine Ec.2 (JP (R:=λa b=>a<b) ?_ Pc);intro j j' hj hj' hlt b k hf;exact(h5 i j hi (by simpa using hj) b k hf).2 i j' hi (by simpa using hj') (by simp;omega)
 ·refine Ec.2 (JP (R:=λa b=>a<b) ?_ Pc);intro i i' hi hi' hlt x hx y hy b k hf;obtain⟨j,hj,rfl⟩:=bw.1 hx;obtain⟨j',hj',rfl⟩:=bw.1 hy;exact(h5 i j (by simpa using hi) (by simpa using hj) b k hf).2 i' j' (by simpa using hi') (by simpa using hj') (by simp;omega)
def Ln{w1:World}{z len cap:Nat}{A:Option Ad}{e:Nat->Nat->C}(h0:0<z)(hc:∀i j,i<len->j<z->∃g o,A=some (g,o,none)/\w1.cell? ⟨g,o+i*z+j,none⟩=some (e i j).val):
  (Builtin.firstCells z len (.slice (A.map λq=>⟨q.1,q.2.1,q.2.2⟩) len cap)).run P w1=.ok ((cV len z e).flatten.map C.val).toArray w1/\(A=none->len=0):=by
 cases A with
 |none=>
  have hl:len=0:=by
   rcases Nat.eq_zero_or_pos len with h|h;·exact h
   ·obtain⟨g,o,hA,_⟩:=hc 0 0 h h0;cases hA
  subst hl;exact⟨run_firstCells_none w1 z 0 0 cap,λ_=>rfl⟩
 |some q=>
  refine⟨?_,λh=>by cases h⟩;refine run_firstCells_some w1 z len ⟨q.1,q.2.1,q.2.2⟩ len cap _ ?_ λj v hj=>?_;·rw[dH,rR (uU len z e)];simp[cV]
  ·rw[dm] at hj;cases hk:(cV len z e).flatten[j]? with
   |none=>rw[hk] at hj;cases hj
   |some x=>
    rw[hk] at hj;obtain⟨a1,a2,rfl⟩:=Tw h0 hk;injection hj with hj
    obtain⟨g,o,hA,hcl⟩:=hc _ _ a1 a2;injection hA with hA
    subst hA;have AN:j=j / z*z+j%z:=by have:=Eh j z;rw[qT] at this;omega
    rw[ri,<-hj,<-hcl];congr 2;show o+j=_;omega
end
end M
namespace M
open Go Go.RowKit
variable [Bs]
section
variable {P:Program}
def bM.sub{w:World}{zl zb:Nat->Nat->Prop}{G G1:Nat->C}{s1:ah}{l ks:List C}(hT:bM w zl zb G l G1 s1)(hok:∀x∈ks,x.ok w (Zf zl zb))(cx:∀x∈ks,∀b k,x.fp b k->∃y∈l,y.fp b k)
  (gZ:ks.Pairwise λa b=>∀x k,a.fp x k->¬b.fp x k):bM w zl zb G ks G1 s1 where
 inv:=hT.inv
 all:=λx hx=>⟨hok x hx,λt b k hf=>by obtain⟨y,hy,hf⟩:=cx x hx b k hf;exact(hT.all y hy).2.1 t b k hf,λb k hf=>by obtain⟨y,hy,hf⟩:=cx x hx b k hf;exact(hT.all y hy).2.2.1 b k hf,
  λb k hf=>by obtain⟨y,hy,hf⟩:=cx x hx b k hf;exact(hT.all y hy).2.2.2 b k hf⟩
 apart:=gZ
 val:=hT.val
 mono:=hT.mono
def Ext.setCells(b:Nat):∀(vs:List Value) (o:Nat) (w:World),Ext (λg k=>g=b/\o<=k/\k<o+vs.length) w (w.setCells b o vs)
 |[],o,w=>Ext.refl _ _
 |v::vs,o,w=>by rw[World.setCells];refine((Ext.setCell w b o v).mono (S':=λg k=>g=b/\o<=k/\k<o+(v::vs).length) (λg k hs _=>⟨hs.1,by omega,by simp only[dc];omega⟩)).trans (Ext.setCells b vs (o+1) _) λg k hs _=>⟨hs.1,by omega,by simp only[dc];omega⟩
def akV{w:World}{t u ty e e':TypeId}{i:TypeInfo}(ht:P.underlying t=some (.slice e))(hu:P.underlying u=some (.slice e'))(hi:P.info? e=some i){A B:Option Addr}{len cap m cap2:Nat}{news:List Value}(h:len+m<=cap)
  (hx:(Builtin.firstCells i.size m (.slice B m cap2)).run P w=.ok news.toArray w):
  (Builtin.append_ #[t,u] ty #[.slice A len cap,.slice B m cap2]).run P w=match A with
   |some a=>((storeCells (a.add (len*i.size)) news).run P w).andThen λ_ w'=>.ok (.slice (some a) (len+m) cap) w'
   |none=>.ok (.slice none (len+m) cap) w:=by
 cases A with
 |none=>simp[Builtin.append_,run_underlying ht,run_underlying hu,Go.sizeOf,typeInfo,hi,Builtin.lenOf,h,hx]
 |some a=>simp[Builtin.append_,run_underlying ht,run_underlying hu,Go.sizeOf,typeInfo,hi,Builtin.lenOf,h,hx]
def akU{w:World}{t u ty e e':TypeId}{i:TypeInfo}{z:Value}(ht:P.underlying t=some (.slice e))(hu:P.underlying u=some (.slice e'))(hi:P.info? e=some i)(hz:i.zero=some z){A B:Option Addr}{len cap m cap2:Nat}{olds news:List Value}(h:¬len+m<=cap)
  (h63:len+m<=9223372036854775807)(hfit:Builtin.nextslicecap (len+m) cap*i.bytes<=281474976710656)
  (hx:(Builtin.firstCells i.size m (.slice B m cap2)).run P w.drew=.ok news.toArray w.drew)(hy:(Builtin.firstCells i.size len (.slice A len cap)).run P w.drew=.ok olds.toArray w.drew):
  (Builtin.append_ #[t,u] ty #[.slice A len cap,.slice B m cap2]).run P w=.ok (.slice (some ⟨w.heap.size,0,none⟩) (len+m) (grownCap w (len+m) cap e))
    (w.drew.alloc (.cells (olds.toArray++news.toArray++Builtin.zeroCells z.cells (grownCap w (len+m) cap e - (len+m))) e)):=by
 have h63':¬(9223372036854775807<((len:Int)+(m:Int))):=by omega
 have ag9:¬(281474976710656<Builtin.nextslicecap (len+m) cap*i.bytes):=by omega
 simp[Builtin.append_,run_underlying ht,run_underlying hu,Go.sizeOf,typeInfo,zeroValue,hi,hz,Builtin.lenOf,h,h63',ag9,Question.forced,hx,hy,newRow,grownCap];congr 2;apply pG;simp[mV]
variable {c:Ctx}{G:Nat->C}{zl:Nat->Nat->Prop}{s:ah}{a:Act}{w:World}{o:Oper}{K:ah->Prop}
def J8(h:St c G zl s a w){G1:Nat->C}{s1:ah}{l:List C}(hT:bM w zl c.zb G l G1 s1){d z bytes:Nat}{ty ty' el E7:TypeId}{i:TypeInfo}{v:Value}{x' y':Operand}
  (ho:o.op=.call {callee:=.builtin .append,args:= #[x',y'],argTypes:= #[ty,ty']})(hu:P.underlying ty=some (.slice el))(xg:P.underlying ty'=some (.slice E7))(hi:P.info? el=some i)(hz:i.zero=some v)(hsz:i.size=z)(hb:i.bytes=bytes)(hb0:0<bytes)(h0:0<z)(hvs:v.cells.size=z)
  (hd:o.dst=some d)(hn:d<c.nt){A:Option Ad}{len cap:Nat}{e:Nat->Nat->C}(hy1:C.row .own z A len cap e∈l)(hv1:a.eval x'=(C.row .own z A len cap e).val)
  {A2:Option Ad}{m cap2:Nat}{e2:Nat->Nat->C}(AR:a.eval y'=.slice (A2.map λq=>⟨q.1,q.2.1,q.2.2⟩) m cap2)(hc2:∀i j,i<m->j<z->∃g o,A2=some (g,o,none)/\w.cell? ⟨g,o+i*z+j,none⟩=some (e2 i j).val)
  (hk2:∀i j,i<m->j<z->(e2 i j).plain/\(e2 i j).ok w (Zf zl c.zb)/\∀b k,(e2 i j).fp b k->¬(C.row .own z A len cap e).fp b k/\∃y∈l,y.fp b k)
  (hp2:(cV m z e2).flatten.Pairwise λa b=>∀x k,a.fp x k->¬b.fp x k)(hbig:(len+m)*bytes<=140737488355328)(hpl:∀i j,i<len->j<z->(e i j).plain)
  (hK:K (put d (.row .own z (dO z len e++dO z m e2)) s1)):Good P c o a w K:=by
 obtain⟨y1,y2,y3,y4⟩:=hT.all _ hy1;have S8:=y1;obtain⟨r1,r2,r3,r4,r5⟩:=y1;have hk1:∀i j,i<len->j<z->∀b k,(e i j).fp b k->(C.row .own z A len cap e).fp b k:=λi j hi hj b k hf=>C.ke (r3 i j hi hj).1 (r3 i j hi hj).2.2.1 hi hj hf;have hc1:∀i j,i<len->j<z->∃g o,A=some (g,o,none)/\w.cell? ⟨g,o+i*z+j,none⟩=some (e i j).val:=λi j hi hj=>by obtain⟨g,o,q1,q2,_⟩:=r2 i j hi hj;exact⟨g,o,q1,q2⟩
 have hlen:∀x∈cV len z e++cV m z e2,x.length=z:=λx hx=>(gO.1 hx).elim (uU _ _ _ x) (uU _ _ _ x);have SC:(cV len z e).length=len:=by simp[cV]
 have SE:(cV m z e2).length=m:=by simp[cV]
 have Fz:(cV len z e++cV m z e2).length=len+m:=by rw[iN,SC,SE]
 have kI:(cV len z e++cV m z e2).map (λx=>x.map C.er)=dO z len e++dO z m e2:=by rw[jC,Tx,Tx]
 have hall:∀x∈(cV len z e++cV m z e2).flatten,x.plain/\x.ok w (Zf zl c.zb)/\∀b k,x.fp b k->∃y∈l,y.fp b k:=λx hx=>by
  rw[zK,gO] at hx;rcases hx with hx|hx;·obtain⟨i,j,hi,hj,rfl⟩:=nG hx;exact⟨hpl i j hi hj,(r3 i j hi hj).2.2.2,λb k hf=>⟨_,hy1,hk1 i j hi hj b k hf⟩⟩
  ·obtain⟨i,j,hi,hj,rfl⟩:=nG hx;obtain⟨a1,a2,a3⟩:=hk2 i j hi hj;exact⟨a1,a2,λb k hf=>(a3 b k hf).2⟩
 have gZ:(cV len z e++cV m z e2).flatten.Pairwise λa b=>∀x k,a.fp x k->¬b.fp x k:=by rw[zK];refine vQ.2 ⟨MB S8,hp2,λx hx y hy b k hf hf'=>?_⟩;obtain⟨i,j,hi,hj,rfl⟩:=nG hx;obtain⟨i',j',hi',hj',rfl⟩:=nG hy;exact((hk2 i' j' hi' hj').2.2 b k hf').1 (hk1 i j hi hj b k hf)
 have jK:bM w zl c.zb G (cV len z e++cV m z e2).flatten G1 s1:=hT.sub (λx hx=>(hall x hx).2.1) (λx hx=>(hall x hx).2.2) gZ;have hfl:(cV len z e).flatten.length=len*z:=by rw[rR (uU _ _ _),SC]
 have r9:(cV m z e2).flatten.length=m*z:=by rw[rR (uU _ _ _),SE]
 have mC:∀r w',(Builtin.append_ #[ty,ty'] o.type #[(C.row .own z A len cap e).val,.slice (A2.map λq=>⟨q.1,q.2.1,q.2.2⟩) m cap2]).run P w=.ok r w'->(execOp a.eval o).run P w=.ok (.value r) w':=λr w' hr=>by simp[execOp,ho,resolve,invoke,builtin,hv1,AR,hr]
 have hmul:len+m<=(len+m)*bytes:=Nat.le_mul_of_pos_right _ hb0;subst hsz;by_cases hroom:len+m<=cap
 ·have hx:=Ln (P:=P) (cap:=cap2) h0 hc2;have hr:=akV (P:=P) (ty:=o.type) (A:=A.map λq=>⟨q.1,q.2.1,q.2.2⟩) hu xg hi hroom hx.1;rcases r4 rfl with ⟨hA,hcap⟩|⟨g,o',arr,t,fz,hA,hh,asn,hfr⟩
  ·
   have hm:m=0:=by omega
   have hl:len=0:=by omega
   subst hm;subst hl;subst hA;subst hcap;obtain⟨G',h'⟩:=h.fresh hT (Ext.refl _ w) hn S8 trivial (λb k hf=>.inr ⟨_,hy1,hf⟩);refine⟨_,w,.inl (mC _ _ hr),G',zl,_,hK,?_⟩;rw[hd];exact h'
  ·subst hA;have LJ:(len+m)*i.size<=cap*i.size:=pI _ hroom;rw[fH] at LJ
   have hst:=run_storeCells_cells (P:=P) g (o'+len*i.size) ((cV m i.size e2).flatten.map C.val) 0 w (λj hj=>by
     rw[dH,r9] at hj;rw[cell_of_row _ _ _ _ _ fz hh];rw[JS (by omega)];rfl) (λj hj=>by
     rw[dH,r9] at hj;exact hfr _ (by omega) (by omega)) (λu hu=>by
     obtain⟨x,hx,rfl⟩:=bw.1 hu;obtain⟨i',j',hi',hj',rfl⟩:=nG hx;exact Inv.rF (C.lQ (hk2 i' j' hi' hj').1))
   simp only[cq,ri,hst,oa,Result.andThen_ok] at hr;have hE:=Ext.setCells g ((cV m i.size e2).flatten.map C.val) (o'+len*i.size) w;rw[dH,r9] at hE;have hin:=World.cell?_setCells_in g ((cV m i.size e2).flatten.map C.val) (o'+len*i.size) w;generalize hw':w.setCells g (o'+len*i.size) ((cV m i.size e2).flatten.map C.val)=w' at hr hE hin;have hg:g<w.heap.size:=(kz.1 hh).1;have w6:∀k,(C.row .own i.size (some (g,o',none)) len cap e).fp g k:=λk=>⟨rfl,.inl ⟨_,rfl⟩⟩
   obtain⟨fZ,p6,hs'⟩:∃fZ,w'.heap[g]?=some (.cells fZ t fz)/\fZ.size=arr.size:=by
    rcases hE.block g hg with e'|⟨a1,a2,t',mA,q1,q2,q3,q4⟩;·exact⟨arr,e'.trans hh,rfl⟩
    ·rw[hh] at q1;injection q1 with q1
     injection q1 with b1 b2 b3
     subst b1;subst b2;subst b3;exact⟨a2,q2,q3⟩
   have hok:(vn g o' i.size cap (cV len i.size e++cV m i.size e2)).ok w' (Zf zl c.zb):=by
    refine UO hlen (by rw[Fz];exact hroom) p6 (by omega) (λk h1 h2=>(hE.frozen hg).trans (hfr k h1 h2)) (λq x hq=>?_) (λx hx=>?_) gZ (λx hx b k hf=>?_)
    ·rw[zK] at hq;by_cases hql:q<len*i.size
     ·rw[og (by omega)] at hq;obtain⟨a1,a2,rfl⟩:=Tw h0 hq;obtain⟨g',o2,hA,hcl⟩:=hc1 _ _ a1 a2;injection hA with hA
      injection hA with b1 b2
      injection b2 with b2
      subst b1;subst b2;have AN:q=q / i.size*i.size+q%i.size:=by have:=Eh q i.size;rw[qT] at this;omega
      refine hE.cell (λhs=>by omega) ?_;rw[<-hcl];congr 2;omega
     ·rw[iM (by omega)] at hq;rw[hfl] at hq;have FL:=(aK.1 hq).1;rw[r9] at FL;have:=hin (λj hj=>by rw[dH,r9] at hj;rw[cell_of_row _ _ _ _ _ fz hh,JS (by omega)];rfl) (q - len*i.size) (by rw[dH,r9];exact FL)
      rw[show o'+len*i.size+(q - len*i.size)=o'+q by omega] at this;rw[this,<-cv,dm,hq];rfl
    ·obtain⟨a1,a2,a3⟩:=hall x hx;refine⟨C.lQ a1,C.CF a1,hT.fits' hE (λb k hz hs=>?_) a2 (λb k hf hs=>?_)⟩;·obtain⟨rfl,_⟩:=hs;exact hz.elim (y3 b k (w6 k)).1 (y3 b k (w6 k)).2
     ·obtain⟨rfl,_⟩:=hs;rw[zK,gO] at hx;rcases hx with hx|hx;·obtain⟨i',j',hi',hj',rfl⟩:=nG hx;exact(r5 i' j' hi' hj' b k hf).1 rfl o' rfl
      ·obtain⟨i',j',hi',hj',rfl⟩:=nG hx;exact((hk2 i' j' hi' hj').2.2 b k hf).1 (w6 k)
    ·intro hbg;subst hbg;rw[zK,gO] at hx;rcases hx with hx|hx;·obtain⟨i',j',hi',hj',rfl⟩:=nG hx;exact(r5 i' j' hi' hj' b k hf).1 rfl o' rfl
     ·obtain⟨i',j',hi',hj',rfl⟩:=nG hx;exact((hk2 i' j' hi' hj').2.2 b k hf).1 (w6 k)
   obtain⟨G',h'⟩:=h.fresh' hT hE (λb k hs=>.inr ⟨_,hy1,by rw[hs.1];exact w6 k⟩) hn hok trivial (λb k hf=>by
    rcases UN hlen hf with rfl|⟨x,hx,hf⟩;·exact .inr ⟨_,hy1,w6 k⟩
    ·exact .inr ((hall x hx).2.2 b k hf))
   refine⟨_,w',.inl (mC _ _ hr),G',zl,_,hK,?_⟩;rw[hd];rw[UM hlen,kI,akK,Fz] at h';exact h'
 ·have hx:=Ln (P:=P) (w1:=w.drew) (cap:=cap2) h0 hc2;have hy:=Ln (P:=P) (w1:=w.drew) (cap:=cap) h0 hc1;have hr:=akU (P:=P) (ty:=o.type) hu xg hi hz hroom (by omega) (growslice_fits (by omega) (by rw[hb];exact hbig)) hx.1 hy.1;have hge:=grownCap_ge w (len+m) cap el;generalize grownCap w (len+m) cap el=cap' at hr hge;refine jY.good (good_row h (L:=cV len i.size e++cV m i.size e2) (cap:=cap') (fz:=(0,0)) hlen (by rw[Fz];exact hge) jK (λx hx=>(hall x hx).1) hd hn (Rs w _) (AG w.drew _) ?_ (λk _ hh=>by simp at hh) (λq x hq=>?_) (by rw[Fz];exact mC _ _ hr) (by rw[kI];exact hK));·simp only[Pf,qQ,dH,hfl,r9,size_zeroCells,hvs];rw[<-fH,<-fH];exact pI _ (by omega)
  ·rw[zK] at hq;have FL:=(aK.1 hq).1;have hmap:(((cV len i.size e).flatten++(cV m i.size e2).flatten).map C.val)[q]?=some x.val:=by rw[dm,hq];rfl
   rw[Pu (by rw[Pf,qQ,qQ,dH,dH,<-iN];exact FL)];rw[<-hmap,jC];simp
end
end M
namespace M
open Go Go.RowKit
variable [Bs]
namespace C
def belows(r:Nat)(p:Path):Nat->Path->Bool:=λs q=>s==r && pP p q
def BI(r:Nat)(p:Path){α:Type}(f:α->X):∀l:List α,X.qn r p (l.map f)=l.map λa=>(f a).fA r p
 |[]=>rfl
 |a::l=>by simp only[bE,X.qn,BI r p f l]
def xO(r:Nat)(p:Path):∀c:C,(c.aB (belows r p)).er=c.er.fA r p
 |.ref v s q=>by simp only[aB,er,X.fA,belows];cases s==r && pP p q<;>rfl
 |.az v s q i c=>by simp only[aB,er,X.fA,belows];cases s==r && pP p q<;>rfl
 |.cut v s q i c=>by simp only[aB,er,X.fA,belows];cases s==r && pP p q<;>rfl
 |.ptr m g o n c=>by simp only[aB,er,X.fA,BI];congr 1;exact cm λj _=>xO r p (c j)
 |.agg n c=>by simp only[aB,er,X.fA,BI];congr 1;exact cm λj _=>xO r p (c j)
 |.av n c=>by simp only[aB,er,X.fA,BI];congr 1;exact cm λj _=>xO r p (c j)
 |.fn f n c=>by simp only[aB,er,X.fA,BI];congr 1;exact cm λj _=>xO r p (c j)
 |.dead _=>by simp only[aB,er,X.fA]
 |.int _ _=>by simp only[aB,er,X.fA]
 |.bool _=>by simp only[aB,er,X.fA]
 |.str _=>by simp only[aB,er,X.fA]
 |.row _ _ _ _ _ _=>by simp only[aB,er,X.fA]
def rB(G:Nat->C):∀c:C,c.bare->c.rf G
 |.ref _ _ _,h=>h.elim
 |.az _ _ _ _ _,h=>h.elim
 |.cut _ _ _ _ _,h=>h.elim
 |.ptr m g o n c,h=>λj hj=>rB G (c j) (h j hj)
 |.agg n c,h=>λj hj=>rB G (c j) (h j hj)
 |.av n c,h=>λj hj=>rB G (c j) (h j hj)
 |.fn f n c,h=>λj hj=>rB G (c j) (h j hj)
 |.dead _,_=>trivial
 |.int _ _,_=>trivial
 |.bool _,_=>trivial
 |.str _,_=>trivial
 |.row _ _ _ _ _ _,_=>trivial
def wF{l:List X}:X.bare.jE l=true↔∀x∈l,x.bare=true:=by
 induction l with
 |nil=>simp[X.bare.jE]
 |cons a l ih=>simp[X.bare.jE,ih]
def me:∀c:C,c.er.bare=true↔c.bare
 |.ref _ _ _=>by simp[er,X.bare,bare]
 |.az _ _ _ _ _=>by simp[er,X.bare,bare]
 |.cut _ _ _ _ _=>by simp[er,X.bare,bare]
 |.ptr m g o n c=>by simp only[er,X.bare,bare,wF,bw,tD];exact⟨λh j hj=>(me (c j)).1 (h _ ⟨j,hj,rfl⟩),λh x ⟨j,hj,e⟩=>e▸(me (c j)).2 (h j hj)⟩
 |.agg n c=>by simp only[er,X.bare,bare,wF,bw,tD];exact⟨λh j hj=>(me (c j)).1 (h _ ⟨j,hj,rfl⟩),λh x ⟨j,hj,e⟩=>e▸(me (c j)).2 (h j hj)⟩
 |.av n c=>by simp only[er,X.bare,bare,wF,bw,tD];exact⟨λh j hj=>(me (c j)).1 (h _ ⟨j,hj,rfl⟩),λh x ⟨j,hj,e⟩=>e▸(me (c j)).2 (h j hj)⟩
 |.fn f n c=>by simp only[er,X.bare,bare,wF,bw,tD];exact⟨λh j hj=>(me (c j)).1 (h _ ⟨j,hj,rfl⟩),λh x ⟨j,hj,e⟩=>e▸(me (c j)).2 (h j hj)⟩
 |.dead _=>by simp[er,X.bare,bare]
 |.int _ _=>by simp[er,X.bare,bare]
 |.bool _=>by simp[er,X.bare,bare]
 |.str _=>by simp[er,X.bare,bare]
 |.row _ _ _ _ _ _=>by simp[er,X.bare,bare]
def Uu:∀{p q:Path},X.pfx p q=true->¬p.length<q.length->q=p
 |[],[],_,_=>rfl
 |[],_::_,_,h=>by simp at h
 |_::_,[],h,_=>by simp[X.pfx] at h
 |x::p,y::q,h,hl=>by simp only[X.pfx,aC,eH] at h;obtain⟨⟨h1,h2⟩,h3⟩:=h;rw[Uu h3 (by simpa using hl)];congr 1;cases x;cases y;simp only at h1 h2;rw[h1,h2]
end C
def Sj(r:Nat)(p:Path)(t:Nat):∀s:ah,get (sD r p s) t=(get s t).fA r p
 |[]=>by simp[sD,get,X.fA]
 |(k,v)::s=>by
  simp only[sD,get];cases k==t;·exact Sj r p t s
  ·rfl
namespace Inv
variable {w w':World}{zl aM zb:Nat->Nat->Prop}{G:Nat->C}{s:ah}{S:Nat->Nat->Prop}
def fA(h:Inv w zl zb G s)(r:Nat)(p:Path):Inv w zl zb (λt=>(G t).aB (C.belows r p)) (sD r p s):=
 h.off _ λt=>by rw[C.xO,Sj,h.er]
def Kb(h:Inv w zl zb G s)(r:Nat)(p:Path)(hfree:∀t,(G t).free (C.belows r p)){d d':C}(hsub:(G r).sub p=some d)(hF:C.gx d d')(hl:C.iA d d')(SL:d'.rf G/\d'.free (C.belows r p))(hE:Ext S w w')
  (hS:∀b k,S b k->d.fp b k\/((∀t,¬(G t).fp b k)/\¬zl b k/\¬zb b k))(hok:d'.ok w' (Zf aM zb))(hz1:∀b k,zl b k->aM b k)(hz2:∀b k,aM b k->¬d'.fp b k/\b<w'.heap.size/\∀t,(G t).fp b k->d.fp b k)
  (cx:∀b k,d'.fp b k->d.fp b k\/((∀t,¬(G t).fp b k)/\¬zb b k)):
  Inv w' aM zb (fQ G r (C.putAt p (G r) d')) ((r,X.putAt p (get s r) d'.er)::s)/\(∀t,(fQ G r (C.putAt p (G r) d') t).val=(G t).val)/\
   ∀t b k,(fQ G r (C.putAt p (G r) d') t).fp b k->d'.fp b k\/((G t).fp b k/\¬d.fp b k):=by
 have bu:∀{b k},d.fp b k->(G r).fp b k:=λhf=>C.gM p hsub (h.ok r) hf
 have hZ:∀m b k,Zf zl zb m b k->¬S b k:=λm b k hz hs=>by
  rcases hS b k hs with hs|hs;·exact h.zP r m b k hz (bu hs)
  ·cases m with
   |own=>exact hz.elim
   |sl=>exact hs.2.1 hz
   |af=>exact hz.elim hs.2.1 hs.2.2
 have hM:∀m b k,Zf zl zb m b k->Zf aM zb m b k:=λm b k hz=>by
  cases m with
  |own=>exact hz
  |sl=>exact hz1 b k hz
  |af=>exact hz.imp (hz1 b k) id
 obtain⟨i1,i2,i3⟩:=C.CA hM hE hZ p (G r) d d' (h.ok r) hsub hok hl (λb k hs=>(hS b k hs).imp id λhn=>hn.1 r) (λb k hf=>(cx b k hf).imp id λhn=>hn.1 r)
 have hr':∀t,t≠r->∀b k,(C.putAt p (G r) d').fp b k->¬(G t).fp b k:=λt e b k hf=>by
  rcases i2 b k hf with hf|hf
  ·rcases cx b k hf with hf|hf;·exact h.sep r t (λe'=>e e'.symm) b k (bu hf)
   ·exact hf.1 t
  ·exact h.sep r t (λe'=>e e'.symm) b k hf.1
 have key:∀c':C,c'.free (C.belows r p)->c'.rf G->c'.rf (fQ G r (C.putAt p (G r) d')):=λc' hf hr=>C.lS (C.belows r p) (λs' q' y' hk hs=>by
  by_cases e:s'=r
  ·subst e;rw[dL];cases hp:X.pfx p q' with
   |false=>exact C.Jd p q' (G s') d' y' hp hs
   |true=>
    have hlen:¬p.length<q'.length:=by simpa [C.belows,pP,hp] using hk
    have he:=C.Uu hp hlen;subst he;rw[hsub] at hs;injection hs with hs
    subst hs;exact .inl ⟨d',hF,C.Je _ hsub⟩
  ·rw[dz _ _ e];exact C.self y' _ q' hs) c' hf hr
 refine⟨⟨λt=>?_,λt=>?_,λt u hne b k hf=>?_,λt b k hf=>?_,λt=>?_,λb k hz=>?_⟩,λt=>?_,λt b k hf=>?_⟩
 ·rw[wZ];by_cases e:t=r;·subst e;rw[dL,aA rfl,C.Nv,h.er]
  ·rw[dz _ _ e,aE e];exact h.er t
 ·by_cases e:t=r;·subst e;rw[dL];exact i1
  ·rw[dz _ _ e];refine C.gJ hM _ (C.fM hE hZ _ (λb k hf hs=>?_) (h.ok t));rcases hS b k hs with hs|hs;·exact h.sep t r e b k hf (bu hs)
   ·exact hs.1 t hf
 ·by_cases e:t=r;·subst e;rw[dL] at hf;rw[dz _ _ (λe=>hne e.symm)];exact hr' u (λe=>hne e.symm) b k hf
  ·rw[dz _ _ e] at hf;by_cases e':u=r;·subst e';rw[dL];exact λhc=>hr' t e b k hc hf
   ·rw[dz _ _ e'];exact h.sep t u hne b k hf
 ·by_cases e:t=r
  ·subst e;rw[dL] at hf;rcases i2 b k hf with hf|⟨hf,hn⟩
   ·refine⟨λhz=>(hz2 b k hz).1 hf,λhz=>?_⟩;rcases cx b k hf with hf|hf;·exact(h.fz t b k (bu hf)).2 hz
    ·exact hf.2 hz
   ·exact⟨λhz=>hn ((hz2 b k hz).2.2 t hf),(h.fz t b k hf).2⟩
  ·rw[dz _ _ e] at hf;exact⟨λhz=>h.sep t r e b k hf (bu ((hz2 b k hz).2.2 t hf)),(h.fz t b k hf).2⟩
 ·by_cases e:t=r
  ·subst e;rw[dL]
   have inner:∀(p':Path) (c':C),c'.free (C.belows t p)->c'.rf G->(C.putAt p' c' d').rf (fQ G t (C.putAt p (G t) d')):=by
    intro p';induction p' with
    |nil=>intro c' _ _;exact key d' SL.2 SL.1
    |cons x p' ih=>
     intro c' jq jr;simp only[C.putAt];cases hst:c'.step x with
     |none=>exact key c' jq jr
     |some z=>
      cases c' with
      |row m sz A len cap e=>trivial
      |ptr m g o n c=>
       simp only[C.step] at hst;split at hst
       ·rename_i hq;injection hst with hst
        intro j hj;simp only[C.b8];split;·exact ih z (by rw[<-hst];exact jq _ hq.2) (by rw[<-hst];exact jr _ hq.2)
        ·exact key _ (jq j hj) (jr j hj)
       ·cases hst
      |agg n c=>
       simp only[C.step] at hst;split at hst
       ·rename_i hq;injection hst with hst
        intro j hj;simp only[C.b8];split;·exact ih z (by rw[<-hst];exact jq _ hq.2) (by rw[<-hst];exact jr _ hq.2)
        ·exact key _ (jq j hj) (jr j hj)
       ·cases hst
      |av n c=>
       simp only[C.step] at hst;split at hst
       ·rename_i hq;injection hst with hst
        intro j hj;simp only[C.b8];split;·exact ih z (by rw[<-hst];exact jq _ hq.2) (by rw[<-hst];exact jr _ hq.2)
        ·exact key _ (jq j hj) (jr j hj)
       ·cases hst
      |_=>simp[C.step] at hst
   exact inner p (G t) (hfree t) (h.rf t)
  ·rw[dz _ _ e];exact key _ (hfree t) (h.rf t)
 ·exact hz.elim (λhz=>(hz2 b k hz).2.1) λhz=>kV (h.cL b k (.inr hz)) hE.size
 ·by_cases e:t=r;·subst e;rw[dL];exact i3.val
  ·rw[dz _ _ e]
 ·by_cases e:t=r;·subst e;rw[dL] at hf;exact i2 b k hf
  ·rw[dz _ _ e] at hf;exact .inr ⟨hf,λhd=>h.sep t r e b k hf (bu hd)⟩
def Qa(h:Inv w zl zb G s)(hE:Ext S w w')(hS:∀b k,S b k->(∀t,¬(G t).fp b k)/\¬zl b k/\¬zb b k)(hz1:∀b k,zl b k->aM b k)(hz2:∀b k,aM b k->b<w'.heap.size/\∀t,¬(G t).fp b k):Inv w' aM zb G s:=by
 have h1:=h.ext hE (λt b k hf hs=>(hS b k hs).1 t hf) (λb k hz hs=>hz.elim (hS b k hs).2.1 (hS b k hs).2.2);refine⟨h1.er,λt=>C.gJ (λm b k hz=>?_) _ (h1.ok t),h1.sep,λt b k hf=>⟨λhz=>(hz2 b k hz).2 t hf,(h1.fz t b k hf).2⟩,h1.rf,λb k hz=>hz.elim (λhz=>(hz2 b k hz).1) λhz=>h1.cL b k (.inr hz)⟩;cases m with
 |own=>exact hz
 |sl=>exact hz1 b k hz
 |af=>exact hz.imp (hz1 b k) id
end Inv
end M
namespace M
open Go Go.RowKit
variable [Bs]
section
variable {P:Program}{c:Ctx}{G:Nat->C}{zl:Nat->Nat->Prop}{s:ah}{a:Act}{w:World}{o:Oper}{K:ah->Prop}
def ajZ(h:St c G zl s a w){sz:Nat}{z:List X}{ty el:TypeId}{ii:TypeInfo}{v:Value}{x:AV}{x':Operand}(ho:o.op=.call {callee:=.builtin .clear,args:= #[x'],argTypes:= #[ty]})(hu:P.underlying ty=some (.slice el))(hi:P.info? el=some ii)(hz:ii.zero=some v)
  (LJ:nj v.cells.toList z=true)(hzs:z.length=sz)(h0:0<sz)(hd:o.dst=none)(hx:aR x' x=true)(hK:aV P (.wR sz z x) s K):Good P c o a w K:=by
 obtain⟨q,q1,q2,q3⟩:=cr h hx;simp only[aV] at hK;rw[<-q1] at hK;cases q with
 |cut vv r p lo hi'=>
  simp only[C.er] at hK;obtain⟨m,bT,A,len,cap,e,A',cap',hs,hv,hlo,hhi,hcap,kG,-,-⟩:=q3.rf;unfold look at hK;rw[<-h.inv.er,C.gL,hs] at hK;cases m with
  |own=>
   simp only[cq,C.er] at hK;obtain⟨rfl,hK⟩:=hK;obtain⟨zs,Z⟩:=Er w zl c.zb LJ;have hzl:zs.length=z.length:=by rw[<-Z.er];simp
   have hvs:v.cells.size=z.length:=by rw[<-hzl,<-zz,<-Z.val];simp
   have hok:=C.iy p hs (h.inv.ok r);have hin:∀b k,(C.row .own bT A len cap e).fp b k->(G r).fp b k:=λb k hf=>C.gM p hs (h.inv.ok r) hf;obtain⟨h1,h2,h3,h4,h5⟩:=hok;let e':Nat->Nat->C:=λi j=>if lo<=i/\i<hi' then zs.getD j (.dead undef) else e i j
   have he:∀i j,(lo<=i/\i<hi')->e' i j=zs.getD j (.dead undef):=λi j hh=>aA hh;have hne:∀i j,¬(lo<=i/\i<hi')->e' i j=e i j:=λi j hh=>aE hh;have A1:∀j,j<bT->zs.getD j (.dead undef)∈zs:=λj hj=>cT (by omega) _;have kK:∀i j,i<len->j<bT->∀b k,(e i j).fp b k->(C.row .own bT A len cap e).fp b k:=λi j hi hj b k hf=>⟨rfl,.inr ⟨i,j,hi,hj,hf⟩⟩
   have uv:∀b k,(C.row .own bT A len cap e').fp b k->(C.row .own bT A len cap e).fp b k:=λb k hf=>by
    obtain⟨_,hA|⟨i,j,hi2,hj,hf⟩⟩:=hf;·exact⟨rfl,.inl hA⟩
    ·by_cases hh:lo<=i/\i<hi';·rw[he i j hh] at hf;exact((Z.all _ (A1 j hj)).2.2 b k hf).elim
     ·rw[hne i j hh] at hf;exact kK i j hi2 hj b k hf
   have run:∃w',(execOp a.eval o).run P w=.ok (.value (.tuple #[])) w'/\Ext (λb k=>∃o',A=some (b,o',none)) w w'/\∀i j,i<len->j<bT->∃g o',A=some (g,o',none)/\w'.cell? ⟨g,o'+i*bT+j,none⟩=some (e' i j).val:=by
    have mC:∀n' A2 c2 r w',a.eval x'=.slice A2 n' c2->(Builtin.clear_ #[ty] o.type #[.slice A2 n' c2]).run P w=.ok r w'->(execOp a.eval o).run P w=.ok (.value r) w':=by intro n' A2 c2 r w' hh hr;simp[execOp,ho,hh,resolve,invoke,builtin,hr]
    by_cases hn0:hi' - lo=0
    ·refine⟨w,?_,Ext.refl _ _,λi j mE hj=>?_⟩
     ·have AR:a.eval x'=.slice (Option.map (λq:Ad=>⟨q.1,q.2.1,q.2.2⟩) A') 0 cap':=by rw[<-q2,C.val,hv,hn0]
      refine mC _ _ _ _ _ AR ?_;cases A'<;>simp[Builtin.clear_,run_underlying hu]
     ·obtain⟨g,o',b1,b2,_⟩:=h2 i j mE hj;exact⟨g,o',b1,by rw[b2,hne i j (by omega)]⟩
    ·obtain⟨g,o',b1,_,_⟩:=h2 lo 0 (by omega) h0;have hAs:A'=some (g,o'+lo*bT,none):=by rw[kG (by omega),b1,cq,pN]
     have hall:∀i j,i<len->j<bT->w.cell? ⟨g,o'+i*bT+j,none⟩=some (e i j).val:=λi j mE hj=>by
      obtain⟨g2,o2,c1,c2,_⟩:=h2 i j mE hj;rw[b1] at c1;injection c1 with c1
      injection c1 with c3 c4
      injection c4 with c4
      subst c3;subst c4;exact c2
     have ahB:∀k,o'<=k->k<o'+cap*bT->w.frozen? ⟨g,k,none⟩=false:=by
      rcases h4 rfl with ⟨d1,_⟩|⟨g2,o2,arr,t,fz,d1,d2,d3,d4⟩;·rw[b1] at d1;cases d1
      ·rw[b1] at d1;injection d1 with d1
       injection d1 with d5 d6
       injection d6 with d6
       subst d5;subst d6;exact d4
     let vs:List Value:=(Builtin.zeroCells v.cells (hi' - lo)).toList;have hvl:vs.length=(hi' - lo)*bT:=by simp[vs,Builtin.zeroCells,hvs,hzs]
     have S6:∀k (hk:k<vs.length),vs[k]=(zs.getD (k%bT) (.dead undef)).val:=by
      intro k hk;have hm:k%bT<zs.length:=by rw[hzl,hzs];exact tG _ h0
      have hm2:k%bT<v.cells.size:=by omega
      have e1:vs[k]=v.cells[k%v.cells.size]!:=by simp[vs,Builtin.zeroCells]
      rw[e1,hvs,hzs,getElem!_pos v.cells (k%bT) hm2];have:=dF (λt:List Value=>t[k%bT]?) Z.val;simp only[dm] at this;rw[cv hm] at this;rw[k6,cv hm];simp only[cq,Array.getElem?_toList,JS hm2,dX] at this;exact this.symm
     have hidx:∀k,k<(hi' - lo)*bT->k / bT<hi' - lo/\k=k / bT*bT+k%bT:=λk hk=>by refine⟨(Nat.div_lt_iff_lt_mul h0).2 hk,?_⟩;have:=Eh k bT;rw[qT] at this;omega
     have S0:∀k,k<(hi' - lo)*bT->o'+lo*bT+k=o'+(lo+k / bT)*bT+k%bT:=λk hk=>by have:=(hidx k hk).2;rw[fH];omega
     have hsome:∀j,j<vs.length->(w.cell? ⟨g,o'+lo*bT+j,none⟩).isSome=true:=λj hj=>by rw[hvl] at hj;rw[S0 j hj,hall _ _ (by have:=(hidx j hj).1;omega) (tG _ h0)];rfl
     have hst:=run_storeCells_cells (P:=P) g (o'+lo*bT) vs 0 w (by simpa using hsome) (λj hj=>by
      rw[hvl] at hj;refine ahB _ (by omega) ?_;rw[oa,S0 j hj];have h7:=(hidx j hj).1;have h8:(lo+j / bT+1)*bT<=cap*bT:=pI _ (by omega);have h9:=tG j h0;rw[fH,JJ] at h8;omega) (λu hu=>by
      obtain⟨k,hk,rfl⟩:=zN hu;rw[S6 k hk];exact Inv.rF (C.lQ (Z.all _ (A1 _ (tG _ h0))).1))
     have hE:=Ext.setCells g vs (o'+lo*bT) w;have ahi:=World.cell?_setCells_in g vs (o'+lo*bT) w hsome;simp only[oa] at hst;refine⟨w.setCells g (o'+lo*bT) vs,?_,hE.mono λb k hh _=>⟨o',by rw[b1,hh.1]⟩,λi j mE hj=>⟨g,o',b1,?_⟩⟩
     ·have AR:a.eval x'=.slice (some ⟨g,o'+lo*bT,none⟩) (hi' - lo) cap':=by rw[<-q2,C.val,hv,hAs];rfl
      refine mC _ _ _ _ _ AR ?_;obtain⟨m,hm⟩:∃m,hi' - lo=m+1:=⟨hi' - lo - 1,by omega⟩;have hzr:∀w,(zeroValue el).run P w=.ok v w:=by intro w;simp[zeroValue,typeInfo,hi,hz]
      simp only[vs,hm] at hst⊢;simp[Builtin.clear_,run_underlying hu,hzr,hst]
     ·by_cases hh:lo<=i/\i<hi'
      ·have hk:(i - lo)*bT+j<vs.length:=by rw[hvl];have:(i - lo+1)*bT<=(hi' - lo)*bT:=pI _ (by omega);rw[fH,JJ] at this;omega
       have:=ahi _ hk;rw[S6 _ hk,Nat.mul_add_mod_self_right,Nat.mod_eq_of_lt hj] at this;have hq:lo*bT+(i - lo)*bT=i*bT:=by rw[<-fH];congr 1;omega
       rw[show o'+lo*bT+((i - lo)*bT+j)=o'+i*bT+j by omega] at this;rw[he i j hh];exact this
      ·rw[hne i j hh,World.cell?_setCells_out,hall i j mE hj];intro _ _;simp only;rw[hvl];by_cases hl:i<lo;·left;have:(i+1)*bT<=lo*bT:=pI _ (by omega);rw[fH,JJ] at this;omega
       ·right;have t1:hi'*bT<=i*bT:=pI _ (by omega);have t2:lo*bT+(hi' - lo)*bT=hi'*bT:=by rw[<-fH];congr 1;omega
        omega
   obtain⟨w',hrun,hE,hcell⟩:=run;have rW:∀b k,(∃o',A=some (b,o',none))->(C.row .own bT A len cap e).fp b k:=λb k hh=>⟨rfl,.inl hh⟩;have SG:∀m b k,Zf zl c.zb m b k->¬(∃o',A=some (b,o',none)):=λm b k hz hh=>h.inv.zP r m b k hz (hin b k (rW b k hh))
   have LK:(C.row .own bT A len cap e').ok w' (Zf zl c.zb):=by
    refine⟨h1,λi j mE hj=>?_,λi j mE hj=>?_,λhm=>?_,λi j mE hj b k hf=>?_⟩;·obtain⟨g,o',c1,c2⟩:=hcell i j mE hj;exact⟨g,o',c1,c2,λhm=>(hm rfl).elim⟩
    ·obtain⟨a1,a2,a3,a4⟩:=h3 i j mE hj;by_cases hh:lo<=i/\i<hi';·rw[he i j hh];obtain⟨b1,b2,b3⟩:=Z.all _ (A1 j hj);exact⟨C.lQ b1,C.CF b1,by cases hq:zs.getD j (.dead undef)<;>first|trivial|exact .inl rfl,C.fM hE SG _ (λb k hf=>(b3 b k hf).elim) b2⟩
     ·rw[hne i j hh];exact⟨a1,a2,a3,C.fM hE SG _ (λb k hf hS=>by obtain⟨o',hA⟩:=hS;exact(h5 i j mE hj b k hf).1 rfl o' hA) a4⟩
    ·rcases h4 hm with hh|⟨g,o',arr,t,fz,d1,d2,d3,d4⟩;·exact .inl hh
     ·have hg:g<w.heap.size:=(kz.1 d2).1
      obtain⟨fZ,p6,hs'⟩:∃fZ,w'.heap[g]?=some (.cells fZ t fz)/\fZ.size=arr.size:=by
       rcases hE.block g hg with e'|⟨a1,a2,t',mA,q1,q2,q3,q4⟩;·exact⟨arr,e'.trans d2,rfl⟩
       ·rw[d2] at q1;injection q1 with q1
        injection q1 with b1 b2 b3
        subst b1;subst b2;subst b3;exact⟨a2,q2,q3⟩
      exact .inr ⟨g,o',fZ,t,fz,d1,p6,by omega,λk k1 k2=>(hE.frozen hg).trans (d4 k k1 k2)⟩
    ·by_cases hh:lo<=i/\i<hi';·rw[he i j hh] at hf;exact((Z.all _ (A1 j hj)).2.2 b k hf).elim
     ·rw[hne i j hh] at hf;obtain⟨a1,a2⟩:=h5 i j mE hj b k hf;refine⟨a1,λi' j' hi2 hj2 LY hf'=>?_⟩;by_cases p6:lo<=i'/\i'<hi';·rw[he i' j' p6] at hf';exact(Z.all _ (A1 j' hj2)).2.2 b k hf'
      ·rw[hne i' j' p6] at hf';exact a2 i' j' hi2 hj2 LY hf'
   have hk0:=h.inv.fA r p;have hs0:((G r).aB (C.belows r p)).sub p=some (C.row .own bT A len cap e):=C.jv _ p _ _ (h.inv.ok r) hs
   obtain⟨i1,i2,i3⟩:=hk0.Kb r p (λt=>C.gI _ _) hs0 (C.gx.row .own .own bT A len cap e e') ⟨rfl,λh=>h,λh=>h,λh=>h,λm h=>h⟩ ⟨trivial,trivial⟩ hE (λb k hs=>.inl (rW b k hs)) LK (λb k hz=>hz)
    (λb k hz=>⟨λhf=>(h.inv.fz r b k (hin b k (uv b k hf))).1 hz,kV (h.inv.cL b k (.inl hz)) hE.size,λt hf=>by rw[C.cR] at hf;exact((h.inv.fz t b k hf).1 hz).elim⟩) (λb k hf=>.inl (uv b k hf))
   have kI:(C.row .own bT A len cap e').er=.row .own bT (Fg lo hi' z ((List.range len).map λi=>(List.range bT).map λj=>(e i j).er)):=by
    simp only[C.er,Fg];congr 1;apply gP;intro i;rw[Eo,C.dn,C.dn];split
    ·simp only[cq,dX];by_cases hh:lo<=i/\i<hi';·rw[aA hh,<-Z.er,<-mM zs (.dead undef) C.er,hzl,hzs];exact cm λj _=>by rw[he i j hh]
     ·rw[aE hh];exact cm λj _=>by rw[hne i j hh]
    ·rfl
   rw[kI] at i1
   have hst:St c _ zl _ a w':=h.move i1 (λt=>(i2 t).trans (C.jw _ _)) hE (λb k hs=>h.tr.dom r b k (hin b k (rW b k hs))) (λt b k hf=>by
    rcases i3 t b k hf with hd|⟨hh,_⟩;·exact .inl ⟨r,hin b k (uv b k hd)⟩
    ·rw[C.cR] at hh;exact .inl ⟨t,hh⟩)
   exact⟨.tuple #[],w',.inl hrun,_,zl,_,hK,by rw[hd];exact hst⟩
  |sl=>exact hK.elim
  |af=>exact hK.elim
 |_=>exact hK.elim
end
end M
namespace M
open Go Go.RowKit
variable [Bs]
section
variable {P:Program}{c:Ctx}{G:Nat->C}{zl:Nat->Nat->Prop}{s:ah}{a:Act}{w:World}{o:Oper}{K:ah->Prop}
def Ns{x:C}(hc:x.cell)(hs:x.cZ):x.plain:=by cases x<;>first|exact hc|exact hs.elim|trivial
def Am{x:C}{m:Md}{z:Nat}{xs:List (List X)}(h:x.er=.row m z xs):∃A len cap e,x=.row m z A len cap e/\xs=dO z len e:=by
 cases x with
 |row m' z' A len cap e=>
  simp only[C.er] at h;injection h with h1 h2 h3
  subst h1;subst h2;exact⟨A,len,cap,e,rfl,h3.symm⟩
 |_=>simp[C.er] at h
def U2{z len:Nat}{e:Nat->Nat->C}(h:scalars (dO z len e)){i j:Nat}(hi:i<len)(hj:j<z):scalar (e i j).er=true:=
 h _ (bw.2 ⟨i,by simpa using hi,rfl⟩) _ (bw.2 ⟨j,by simpa using hj,rfl⟩)
def U3{x:C}(h:scalar x.er=true):x.plain/\∀b k,¬x.fp b k:=by cases x<;>first|exact⟨trivial,λ_ _ h=>h⟩|(simp[C.er,scalar] at h)
def alv{w:World}{zl zb:Nat->Nat->Prop}{G:Nat->C}{s:ah}(h:Inv w zl zb G s){v:Value}{r:Nat}{p:Path}{lo hi:Nat}(hr:(C.cut v r p lo hi).rf G){z:Nat}{xs:List (List X)}(hl:look s r p=some (.row .own z xs)):
  ∃A' cap' e2 G',v=.slice (Option.map (λq:Ad=>⟨q.1,q.2.1,q.2.2⟩) A') (hi - lo) cap'/\((xs.take hi).drop lo)=dO z (hi - lo) e2/\(∀i j,i<hi - lo->j<z->∃g o,A'=some (g,o,none)/\w.cell? ⟨g,o+i*z+j,none⟩=some (e2 i j).val)/\
   (∀i j,i<hi - lo->j<z->(e2 i j).plain)/\bM w zl zb G (cV (hi - lo) z e2).flatten G' (iJ r p (.row .own z (E5 lo hi xs)) s):=by
 obtain⟨m,sz,A,len,cap,e,A',cap',hs,hv,hlo,hhi,hcap,kG,-,-⟩:=hr;unfold look at hl;rw[<-h.er,C.gL,hs] at hl;simp only[cq,C.er,dX,X.row.injEq] at hl;obtain⟨rfl,rfl,rfl⟩:=hl;have hok:=C.iy p hs (h.ok r);have hin:∀b k,(C.row .own sz A len cap e).fp b k->(G r).fp b k:=λb k hf=>C.gM p hs (h.ok r) hf;obtain⟨h1,h2,h3,h4,h5⟩:=hok;let e':Nat->Nat->C:=λi j=>if lo<=i/\i<hi then .dead (e i j).val else e i j
 have he:∀i j,(lo<=i/\i<hi)->e' i j=.dead (e i j).val:=λi j hh=>aA hh;have hne:∀i j,¬(lo<=i/\i<hi)->e' i j=e i j:=λi j hh=>aE hh;have kK:∀i j,i<len->j<sz->∀b k,(e i j).fp b k->(C.row .own sz A len cap e).fp b k:=λi j hi hj b k hf=>⟨rfl,.inr ⟨i,j,hi,hj,hf⟩⟩
 have uv:∀b k,(C.row .own sz A len cap e').fp b k->(C.row .own sz A len cap e).fp b k:=λb k hf=>by
  obtain⟨_,hA|⟨i,j,hi',hj,hf⟩⟩:=hf;·exact⟨rfl,.inl hA⟩
  ·by_cases hh:lo<=i/\i<hi;·rw[he i j hh] at hf;exact hf.elim
   ·rw[hne i j hh] at hf;exact kK i j hi' hj b k hf
 have LK:(C.row .own sz A len cap e').ok w (Zf zl zb):=by
  refine⟨h1,λi j hi' hj=>?_,λi j hi' hj=>?_,h4,λi j hi' hj b k hf=>?_⟩
  ·obtain⟨g,o,a1,a2,a3⟩:=h2 i j hi' hj;refine⟨g,o,a1,?_,a3⟩;rw[a2];by_cases hh:lo<=i/\i<hi;·rw[he i j hh];rfl
   ·rw[hne i j hh]
  ·obtain⟨a1,a2,a3,a4⟩:=h3 i j hi' hj;by_cases hh:lo<=i/\i<hi;·rw[he i j hh];exact⟨Inv.rF a1,trivial,trivial,trivial⟩
   ·rw[hne i j hh];exact⟨a1,a2,a3,a4⟩
  ·by_cases hh:lo<=i/\i<hi;·rw[he i j hh] at hf;exact hf.elim
   ·rw[hne i j hh] at hf;obtain⟨a1,a2⟩:=h5 i j hi' hj b k hf;refine⟨a1,λi' j' hi2 hj2 LY hf'=>?_⟩;by_cases p6:lo<=i'/\i'<hi;·rw[he i' j' p6] at hf';exact hf'
    ·rw[hne i' j' p6] at hf';exact a2 i' j' hi2 hj2 LY hf'
 have h0:=h.fA r p;have hs0:((G r).aB (C.belows r p)).sub p=some (C.row .own sz A len cap e):=C.jv _ p _ _ (h.ok r) hs
 obtain⟨i1,i2,i3⟩:=h0.Kb r p (λt=>C.gI _ _) hs0 (C.gx.row .own .own sz A len cap e e') ⟨rfl,λh=>h,λh=>h,λh=>h,λm h=>h⟩ ⟨trivial,trivial⟩ (Ext.refl (λ_ _=>False) w) (λb k hs=>hs.elim) LK (λb k hz=>hz)
  (λb k hz=>⟨λhf=>(h.fz r b k (hin b k (uv b k hf))).1 hz,h.cL b k (.inl hz),λt hf=>by rw[C.cR] at hf;exact((h.fz t b k hf).1 hz).elim⟩) (λb k hf=>.inl (uv b k hf))
 have kI:(C.row .own sz A len cap e').er=.row .own sz (E5 lo hi ((List.range len).map λi=>(List.range sz).map λj=>(e i j).er)):=by
  simp only[C.er,E5];congr 1;apply gP;intro i;rw[Eo,C.dn,C.dn];split
  ·simp only[cq,dX];by_cases hh:lo<=i/\i<hi;·rw[aA hh,cS];exact cm λj _=>by rw[he i j hh];rfl
   ·rw[aE hh];exact cm λj _=>by rw[hne i j hh]
  ·rfl
 rw[kI] at i1;have hmem:∀x∈(cV (hi - lo) sz λi j=>e (i+lo) j).flatten,∃i j,i<hi - lo/\j<sz/\x=e (i+lo) j:=λx hx=>by obtain⟨i,j,hi',hj,rfl⟩:=nG hx;exact⟨i,j,hi',hj,rfl⟩
 have hlt:hi - lo≠0->A'=A.map λq=>jD (lo*sz) q:=λhne=>kG (by omega)
 have hrow:(((List.range len).map λi=>(List.range sz).map λj=>(e i j).er).take hi).drop lo=dO sz (hi - lo) λi j=>e (i+lo) j:=by
  unfold dO;rw[<-pH,<-lW,vT,kW hhi];apply gP;intro i;rw[C.dn,dm,pK];by_cases hh:i<hi - lo;·rw[aA hh,tK (by omega),qS];rfl
  ·rw[aE hh,k7 (by simp;omega)];rfl
 have Fy:∀i j,i<hi - lo->j<sz->(e (i+lo) j).plain:=λi j hi' hj=>Ns (h3 (i+lo) j (by omega) hj).1 (h3 (i+lo) j (by omega) hj).2.1;refine⟨A',cap',λi j=>e (i+lo) j,_,hv,hrow,λi j hi' hj=>?_,Fy,⟨i1,λx hx=>?_,?_,λt=>(i2 t).trans (C.jw _ _),λt b k hf=>?_⟩⟩;·obtain⟨g,o,a1,a2,a3⟩:=h2 (i+lo) j (by omega) hj;refine⟨g,o+lo*sz,by rw[hlt (by omega),a1,cq,pN],?_⟩;rw[show o+lo*sz+i*sz+j=o+(i+lo)*sz+j by rw[fH];omega];exact a2
 ·obtain⟨i,j,hi',hj,rfl⟩:=hmem x hx;have hj2:i+lo<len:=by omega
  refine⟨(h3 (i+lo) j hj2 hj).2.2.2,λt b k hf hf'=>?_,λb k hf=>h.fz r b k (hin b k (kK _ _ hj2 hj b k hf)),λb k hf=>⟨r,hin b k (kK _ _ hj2 hj b k hf)⟩⟩;rcases i3 t b k hf' with hd|⟨_,hn⟩
  ·obtain⟨_,⟨o,hA⟩|⟨i',j',hi2,ahE,jM⟩⟩:=hd;·exact(h5 _ j hj2 hj b k hf).1 rfl o hA
   ·by_cases hh:lo<=i'/\i'<hi;·rw[he i' j' hh] at jM;exact jM
    ·rw[hne i' j' hh] at jM;refine(h5 _ j hj2 hj b k hf).2 i' j' hi2 ahE (λe=>hh ?_) jM;injection e with e1 e2
     omega
  ·exact hn (kK _ _ hj2 hj b k hf)
 ·have hsub:(C.row .own sz (A.map λq=>jD (lo*sz) q) (hi - lo) (cap - lo) λi j=>e (i+lo) j).ok w (Zf zl zb):=(Rr ⟨h1,h2,h3,h4,h5⟩ hlo hhi (by omega) (by omega) (.inr rfl)).1;exact MB hsub
 ·by_cases ht:t=r
  ·subst ht;rcases i3 t b k hf with hd|⟨hh,_⟩;·exact hin b k (uv b k hd)
   ·rwa [C.cR] at hh
  ·rw[dz _ _ ht,C.cR] at hf;exact hf
def ajO(h:St c G zl s a w){d sz bytes:Nat}{tk:Tk}{ty ty' el E7:TypeId}{i:TypeInfo}{v:Value}{x y:AV}{x' y':Operand}
  (ho:o.op=.call {callee:=.builtin .append,args:= #[x',y'],argTypes:= #[ty,ty']})(hu:P.underlying ty=some (.slice el))(xg:P.underlying ty'=some (.slice E7))(hi:P.info? el=some i)(hz:i.zero=some v)(hsz:i.size=sz)(hb:i.bytes=bytes)(hb0:0<bytes)(h0:0<sz)(hvs:v.cells.size=sz)
  (hd:o.dst=some d)(hn:d<c.nt)(hx:aR x' x=true)(hy:aR y' y=true)(hK:aV P (.app d tk sz bytes x y) s K):Good P c o a w K:=by
 obtain⟨p,e1,e2,e3⟩:=cr h hx;obtain⟨y1,G1,f1,f2,f3,f4⟩:=qN .mv h.inv e3;simp only[aV] at hK;rw[e1] at f1 f4;rw[<-f1] at hK;have h1:=h.zk f4;have L4:=(f2.trans e2).symm;cases hE:y1.er with
 |row m z xs=>
  rw[hE] at hK;cases m with
  |own=>
   obtain⟨A,len,cap,e,rfl,rfl⟩:=Am hE;obtain⟨rfl,hK⟩:=hK;obtain⟨q,q1,q2,q3⟩:=cr h1 hy;have hk1:∀i j,i<len->j<z->(e i j).plain:=λi j hi hj=>Ns (f4.ok.2.2.1 i j hi hj).1 (f4.ok.2.2.1 i j hi hj).2.1;have hxl:(dO z len e).length=len:=by simp[dO]
   have other:(∃ys,rowAt (take .mv (ay s x) s).2 (ay (take .mv (ay s x) s).2 y)=some (z,ys)/\((dO z len e).length+ys.length)*bytes<=140737488355328/\scalars ys/\K (put d (.row .own z (dO z len e++ys)) (take .mv (ay s x) s).2))->Good P c o a w K:=by
    rintro ⟨ys,k1,k2,k3,k4⟩;rw[<-q1] at k1;obtain⟨A2,m,cap2,e2,rfl,hv⟩:=NI h1.inv q3 k1;have qa:(dO z m e2).length=m:=by simp[dO]
    refine J8 h (bM.one f4) ho hu xg hi hz hsz hb hb0 h0 hvs hd hn (fF.2 rfl) L4 (by rw[<-q2];exact hv.val) (λi j hi hj=>hv.cell i j hi hj) (λi j hi hj=>?_) (ry λx hx=>?_) (by rw[hxl,qa] at k2;exact k2) hk1 k4;·obtain⟨s1,s2⟩:=U3 (U2 k3 hi hj);exact⟨s1,(hv.kid i j hi hj).2.2,λb k hf=>(s2 b k hf).elim⟩
    ·obtain⟨i,j,hi,hj,rfl⟩:=nG hx;exact(U3 (U2 k3 hi hj)).2
   cases tk with
   |al=>exact other hK
   |aQ=>exact other hK
   |mv=>
    simp only at hK;by_cases hcut:∃v r p lo hi,q=.cut v r p lo hi
    ·obtain⟨vv,r,pp,lo,hi',rfl⟩:=hcut;rw[<-q1] at hK;simp only[C.er,cM] at hK;split at hK
     ·rename_i hh;split at hh
      ·rename_i z2 xs hl;simp only[X.row.injEq,true_and] at hh;obtain⟨rfl,rfl⟩:=hh;obtain⟨rfl,k2,k4⟩:=hK;obtain⟨A2,cap2,e3,G3,c1,c2,c3,c4,c5⟩:=alv h1.inv q3.rf hl;rw[c2] at k2 k4;have qa:(dO z2 (hi' - lo) e3).length=hi' - lo:=by simp[dO]
       simp only[hl] at k4;refine J8 h (bM.cons f4 c5) ho hu xg hi hz hsz hb hb0 h0 hvs hd hn (bH ..) L4 (A2:=A2) (m:=hi' - lo) (cap2:=cap2) (e2:=e3) (by rw[<-q2];exact c1) c3 (λi j hi hj=>?_) c5.apart (by rw[hxl,qa] at k2;exact k2) hk1 k4;have hm:e3 i j∈(cV (hi' - lo) z2 e3).flatten:=JF.2 ⟨_,bw.2 ⟨i,by simpa using hi,rfl⟩,bw.2 ⟨j,by simpa using hj,rfl⟩⟩;refine⟨c4 i j hi hj,(c5.all _ hm).1,λb k hf=>⟨λhf'=>?_,_,cl _ hm,hf⟩⟩;obtain⟨t,ht⟩:=(c5.all _ hm).2.2.2 b k hf;exact f4.sep t b k hf' ht
      ·cases hh
     ·exact hK.elim
    have hte:cM q.er (take .mv (ay s x) s).2=take .mv q.er (take .mv (ay s x) s).2:=by
     cases q with
     |cut v r p lo hi=>exact(hcut ⟨v,r,p,lo,hi,rfl⟩).elim
     |_=>rfl
    rw[<-q1,hte,q1] at hK;obtain⟨y2,G2,g1,g2,g3,g4⟩:=qN .mv h1.inv q3;rw[q1] at g1 g4;rw[<-g1] at hK;cases LC:y2.er with
    |row m2 z2 xs2=>
     rw[LC] at hK;cases m2 with
     |own=>
      obtain⟨A2,m,cap2,e2,rfl,rfl⟩:=Am LC;obtain⟨rfl,k2,k4⟩:=hK;have qa:(dO z2 m e2).length=m:=by simp[dO]
      obtain⟨r1,r2,r3,r4,r5⟩:=g4.ok;refine J8 h (bM.cons f4 (bM.one g4)) ho hu xg hi hz hsz hb hb0 h0 hvs hd hn (bH ..) L4 (A2:=A2) (m:=m) (cap2:=cap2) (e2:=e2) (by rw[<-q2,<-g2];rfl) (λi j hi hj=>?_) (λi j hi hj=>?_) (MB g4.ok) (by rw[hxl,qa] at k2;exact k2) hk1 k4;·obtain⟨g,o2,a1,a2,_⟩:=r2 i j hi hj;exact⟨g,o2,a1,a2⟩
      ·obtain⟨a1,a2,a3,a4⟩:=r3 i j hi hj;refine⟨Ns a1 a2,a4,λb k hf=>?_⟩;have hin:(C.row .own z2 A2 m cap2 e2).fp b k:=C.ke a1 a3 hi hj hf;refine⟨λhf'=>?_,_,cl _ (fF.2 rfl),hin⟩;obtain⟨t,ht⟩:=g4.dom b k hin;exact f4.sep t b k hf' ht
     |_=>exact hK.elim
    |_=>rw[LC] at hK;exact hK.elim
  |_=>exact hK.elim
 |_=>rw[hE] at hK;exact hK.elim
end
end M
namespace M
open Go Go.RowKit
variable [Bs]
namespace X
def nP(m:Md){α:Type}(f:α->X):∀l:List α,ey m (l.map f)=l.map λa=>(f a).md m
 |[]=>rfl
 |a::l=>by simp only[bE,ey,nP m f l]
def HG(m:Md){α β:Type}(g:α->List β)(f:α->β->X):∀l:List α,cg m (l.map λa=>(g a).map (f a))=l.map λa=>(g a).map λb=>(f a b).md m
 |[]=>rfl
 |a::l=>by simp only[bE,cg,nP,HG m g f l]
end X
namespace C
def dW:C->C
 |.row _ sz A len cap e=>.row .af sz A len cap λi j=>(e i j).dW
 |.ptr _ g o n c=>.ptr .af g o n λj=>(c j).dW
 |.agg n c=>.agg n λj=>(c j).dW
 |.av n c=>.av n λj=>(c j).dW
 |.fn f n c=>.fn f n λj=>(c j).dW
 |.ref v _ _=>.dead v
 |.az v _ _ _ _=>.dead v
 |.cut v _ _ _ _=>.dead v
 |.dead v=>.dead v
 |.int k n=>.int k n
 |.bool b=>.bool b
 |.str s=>.str s
def sP:∀c:C,c.dW.er=c.er.md .af
 |.row m sz A len cap e=>by simp only[dW,er,X.md];rw[X.HG .af (λ_=>List.range sz) (λi j=>(e i j).er)];congr 1;exact cm λi _=>cm λj _=>sP (e i j)
 |.ptr m g o n c=>by simp only[dW,er,X.md,X.nP];congr 1;exact cm λj _=>sP (c j)
 |.agg n c=>by simp only[dW,er,X.md,X.nP];congr 1;exact cm λj _=>sP (c j)
 |.av n c=>by simp only[dW,er,X.md,X.nP];congr 1;exact cm λj _=>sP (c j)
 |.fn f n c=>by simp only[dW,er,X.md,X.nP];congr 1;exact cm λj _=>sP (c j)
 |.ref _ _ _=>by simp only[dW,er,X.md]
 |.az _ _ _ _ _=>by simp only[dW,er,X.md]
 |.cut _ _ _ _ _=>by simp only[dW,er,X.md]
 |.dead _=>by simp only[dW,er,X.md]
 |.int _ _=>by simp only[dW,er,X.md]
 |.bool _=>by simp only[dW,er,X.md]
 |.str _=>by simp only[dW,er,X.md]
def vb:∀c:C,c.dW.val=c.val
 |.row m sz A len cap e=>rfl
 |.ptr m g o n c=>rfl
 |.agg n c=>by simp only[dW,val];congr 2;exact cm λj _=>vb (c j)
 |.av n c=>by simp only[dW,val];congr 2;exact cm λj _=>vb (c j)
 |.fn f n c=>by simp only[dW,val];congr 2;exact cm λj _=>vb (c j)
 |.ref _ _ _=>rfl
 |.az _ _ _ _ _=>rfl
 |.cut _ _ _ _ _=>rfl
 |.dead _=>rfl
 |.int _ _=>rfl
 |.bool _=>rfl
 |.str _=>rfl
def Cq:∀c:C,c.dW.bare
 |.row m sz A len cap e=>trivial
 |.ptr m g o n c=>λj _=>Cq (c j)
 |.agg n c=>λj _=>Cq (c j)
 |.av n c=>λj _=>Cq (c j)
 |.fn f n c=>λj _=>Cq (c j)
 |.ref _ _ _=>trivial
 |.az _ _ _ _ _=>trivial
 |.cut _ _ _ _ _=>trivial
 |.dead _=>trivial
 |.int _ _=>trivial
 |.bool _=>trivial
 |.str _=>trivial
def qv:∀(c:C) (b k:Nat),¬c.dW.fp b k
 |.row m sz A len cap e,b,k=>λh=>by cases h.1
 |.ptr m g o n c,b,k=>λh=>by cases h.1
 |.agg n c,b,k=>λ⟨j,_,hf⟩=>qv (c j) b k hf
 |.av n c,b,k=>λ⟨j,_,hf⟩=>qv (c j) b k hf
 |.fn f n c,b,k=>λh=>h
 |.ref _ _ _,b,k=>λh=>h
 |.az _ _ _ _ _,b,k=>λh=>h
 |.cut _ _ _ _ _,b,k=>λh=>h
 |.dead _,b,k=>λh=>h
 |.int _ _,b,k=>λh=>h
 |.bool _,b,k=>λh=>h
 |.str _,b,k=>λh=>h
def HH{c:C}(h:c.cell):c.dW.cell:=by cases c<;>first|exact h|exact h.elim|trivial
def TV{c:C}(h:c.gj):c.dW.gj:=by cases c<;>first|exact h|exact h.elim|trivial
def ai2{c:C}(h:c.cZ):c.dW.cZ:=by cases c<;>first|exact h|exact h.elim|trivial
def Nd(c:C):c.dW.fits .af:=by cases c<;>first|trivial|exact .inr (.inl rfl)
variable {w:World}{zl zb bJ:Nat->Nat->Prop}
def yh(hb:∀b k,zb b k->bJ b k):∀c:C,(∀b k,c.fp b k->bJ b k)->c.ok w (Zf zl zb)->c.dW.ok w (Zf zl bJ)
 |.row m sz A len cap e,hf,h=>by
  obtain⟨h1,h2,h3,h4,h5⟩:=h;refine⟨h1,λi j hi hj=>?_,λi j hi hj=>?_,λhm=>by (cases hm),λi j hi hj b k hh=>(qv _ b k hh).elim⟩
  ·obtain⟨g,o,hA,hc,hz⟩:=h2 i j hi hj;refine⟨g,o,hA,by rw[vb];exact hc,λ_=>?_⟩;cases m with
   |own=>exact .inr (hf _ _ ⟨rfl,.inl ⟨o,hA⟩⟩)
   |sl=>exact .inl (hz (by simp))
   |af=>exact(hz (by simp)).imp id (hb _ _)
  ·obtain⟨a1,a2,a3,a4⟩:=h3 i j hi hj;exact⟨HH a1,ai2 a2,Nd _,yh hb (e i j) (λb k hk=>hf b k (ke a1 a3 hi hj hk)) a4⟩
 |.ptr m g o n c,hf,h=>by
  obtain⟨h1,h2,h3,h4⟩:=h;refine⟨λj hj=>?_,h2,λj hj=>?_,λj hj b k hh=>(qv _ b k hh).elim⟩
  ·obtain⟨a1,a2,a3⟩:=h1 j hj;refine⟨by rw[vb];exact a1,λ_=>?_,λhm=>by (cases hm)⟩;cases m with
   |own=>exact .inr (hf _ _ ⟨rfl,.inl ⟨rfl,by omega,by omega⟩⟩)
   |sl=>exact .inl (a2 (by simp))
   |af=>exact(a2 (by simp)).imp id (hb _ _)
  ·obtain⟨a1,a2,a3⟩:=h3 j hj;exact⟨HH a1,Nd _,yh hb (c j) (λb k hk=>hf b k (kO a1 a2 hj hk)) a3⟩
 |.agg n c,hf,h=>⟨λj hj=>⟨HH (h.1 j hj).1,yh hb (c j) (λb k hk=>hf b k ⟨j,hj,hk⟩) (h.1 j hj).2⟩,λj hj b k hh=>(qv _ b k hh).elim⟩
 |.av n c,hf,h=>⟨λj hj=>⟨TV (h.1 j hj).1,yh hb (c j) (λb k hk=>hf b k ⟨j,hj,hk⟩) (h.1 j hj).2⟩,λj hj b k hh=>(qv _ b k hh).elim⟩
 |.fn f n c,hf,h=>λj hj=>⟨yh hb (c j) (λb k hk=>((h j hj).2 b k hk).elim) (h j hj).1,λb k hh=>qv _ b k hh⟩
 |.ref _ _ _,_,_=>trivial
 |.az _ _ _ _ _,_,_=>trivial
 |.cut _ _ _ _ _,_,_=>trivial
 |.dead _,_,_=>trivial
 |.int _ _,_,_=>trivial
 |.bool _,_,_=>trivial
 |.str _,_,h=>h
end C
structure fY (w:World) (zl zb:Nat->Nat->Prop) (x:C):Prop where
 ok:x.ok w (Zf zl zb)
 bare:x.bare
 cY:∀b k,¬x.fp b k
section
variable {w:World}{zl zb bJ:Nat->Nat->Prop}{G:Nat->C}{s:ah}
def M7(hb:∀b k,zb b k->bJ b k){y:C}(hy:y.ok w (Zf zl zb))(hf:∀b k,y.fp b k->bJ b k):fY w zl bJ y.dW:=⟨C.yh hb y hf hy,C.Cq y,C.qv y⟩
def Cg(v:Value):fY w zl bJ (.dead v):=⟨trivial,trivial,λ_ _ h=>h⟩
def HX(h:Inv w zl zb G s)(hb:∀b k,zb b k->bJ b k)(hG:∀t b k,(G t).fp b k->bJ b k){y:C}(hy:eL w zl zb G y):∃x:C,x.er=lR s y.er/\x.val=y.val/\fY w zl bJ x/\(y.cell->x.cell)/\(y.gj->x.gj)/\x.fits .af:=by
 have jx:lR s y.er=y.er.md .af->∃x:C,x.er=lR s y.er/\x.val=y.val/\fY w zl bJ x/\(y.cell->x.cell)/\(y.gj->x.gj)/\x.fits .af:=λe=>
  ⟨y.dW,by rw[C.sP,e],C.vb y,M7 hb hy.ok λb k hf=>(hy.cY b k hf).elim,C.HH,C.TV,C.Nd _⟩
 cases y with
 |ref v r p=>
  obtain⟨y',z',hs,hF,hv,m,z1,A,len,cap,e,rfl⟩:=hy.rf;cases hF with
  |row m m' sz' A len cap e e'=>refine⟨(C.row m' z1 A len cap e').dW,?_,by rw[C.vb];exact hv,M7 hb (C.iy p hs (h.ok r)) λb k hf=>hG r b k (C.gM p hs (h.ok r) hf),λ_=>trivial,λ_=>trivial,.inr (.inl rfl)⟩;rw[C.sP];simp only[C.er,lR,look];rw[<-h.er,C.gL,hs];rfl
 |cut v r p lo hi=>
  obtain⟨m,sz,A,len,cap,e,A',cap',hs,hv,hlo,hhi,hcap,kG,-,-⟩:=hy.rf;have hok:=C.iy p hs (h.ok r);obtain⟨h1,h2,h3,h4,h5⟩:=(M7 hb hok λb k hf=>hG r b k (C.gM p hs (h.ok r) hf)).ok;refine⟨.row .af sz A' (hi - lo) cap' λi j=>(e (i+lo) j).dW,?_,hv.symm,⟨⟨hcap,λi j hi' hj=>?_,λi j hi' hj=>h3 (i+lo) j (by omega) hj,λhm=>by (cases hm),λi j hi' hj b k hh=>(C.qv _ b k hh).elim⟩,trivial,λb k hh=>by cases hh.1⟩,λ_=>trivial,λ_=>trivial,.inr (.inl rfl)⟩;·simp only[C.er,lR,look];rw[<-h.er,C.gL,hs];simp only[cq,C.er,X.md];rw[<-pH,<-lW,vT,kW hhi,oV,cS];show _=X.row .af sz (X.cg .af ((List.range (hi - lo)).map λi=>(List.range sz).map λj=>(e (i+lo) j).er));rw[X.HG .af (λ_=>List.range sz) (λi j=>(e (i+lo) j).er) (List.range (hi - lo))];congr 1;exact cm λi _=>cm λj _=>C.sP _
  ·obtain⟨g,o,q1,q2,q3⟩:=h2 (i+lo) j (by omega) hj;refine⟨g,o+lo*sz,by rw[kG (by omega),q1,cq,pN],?_,λhm=>?_⟩;·rw[show o+lo*sz+i*sz+j=o+(i+lo)*sz+j by rw[fH];omega];exact q2
   ·rw[show o+lo*sz+i*sz+j=o+(i+lo)*sz+j by rw[fH];omega];exact q3 hm
 |_=>exact jx rfl
def aiG(h:Inv w zl zb G s){y:C}(hy:eL w zl zb G y){cs:List X}(hc:gB s y.er=some cs):∃g k,y.val=.pointer (some ⟨g,k,none⟩)/\∀j,j<cs.length->zl g (k+j)\/zb g (k+j)\/∃t,(G t).fp g (k+j):=by
 have zs:∀{m:Md} {b k:Nat},m≠.own->Zf zl zb m b k->zl b k\/zb b k\/∃t,(G t).fp b k:=λ{m b k} hm hz=>by
  cases m with
  |own=>exact(hm rfl).elim
  |sl=>exact .inl hz
  |af=>exact hz.imp id .inl
 cases y with
 |ptr m g o n f=>
  simp only[C.er,gB] at hc;injection hc with hc
  refine⟨g,o,rfl,λj hj=>?_⟩;have hj:j<n:=by rw[<-hc] at hj;simpa using hj
  obtain⟨h1,h2,h3,h4⟩:=hy.ok;by_cases hm:m=.own;·exact(hy.cY g (o+j) ⟨hm,.inl ⟨rfl,by omega,by omega⟩⟩).elim
  ·exact zs hm ((h1 j hj).2.1 hm)
 |az v r p i k0=>
  obtain⟨z,hz,hp⟩:=hy.rf;have sw:=C.iy p hz (h.ok r);simp only[C.er,gB,look] at hc;rw[<-h.er,C.gL,hz] at hc;simp only[cq] at hc;rcases hp with ⟨m,sz,g,o,len,cap,e,rfl,rfl⟩|⟨m,g,o,n,f,rfl,rfl,rfl⟩
  ·simp only[C.er,C.dn] at hc;by_cases hi:i<len
   ·rw[aA hi] at hc;simp only[cq,dX] at hc;refine⟨g,o+i*sz+k0,rfl,λj hj=>?_⟩;have hj:k0+j<sz:=by rw[<-hc] at hj;rw[<-lW,oV,C.wu r p i ((List.range (sz - k0)).map (· +k0)) k0 (λj=>e i j) (by simp)] at hj;simp at hj;omega
    by_cases hm:m=.own;·subst hm;exact .inr (.inr ⟨r,C.gM p hz (h.ok r) ⟨rfl,.inl ⟨o,rfl⟩⟩⟩)
    ·obtain⟨g',o',hA,hcell,uF⟩:=sw.2.1 i (k0+j) hi hj;injection hA with hA
     injection hA with e1 e2
     injection e2 with e2
     subst e1;subst e2;rw[tF];exact zs hm (uF hm)
   ·rw[aE hi] at hc;cases hc
  ·simp only[C.er,dX] at hc;refine⟨g,o+k0,rfl,λj hj=>?_⟩;have hj:k0+j<n:=by rw[<-hc] at hj;rw[<-lW,oV,C.wu r p 0 ((List.range (n - k0)).map (· +k0)) k0 f (by simp)] at hj;simp at hj;omega
   by_cases hm:m=.own;·subst hm;exact .inr (.inr ⟨r,C.gM p hz (h.ok r) ⟨rfl,.inl ⟨rfl,by omega,by omega⟩⟩⟩)
   ·have:=(sw.1 (k0+j) hj).2.1 hm;rw[tF];exact zs hm this
 |_=>simp[C.er,gB] at hc
def NB(h:Inv w zl zb G s)(hb:∀b k,zb b k->bJ b k)(hG:∀t b k,(G t).fp b k->bJ b k):∀l:List C,(∀x∈l,eL w zl zb G x/\x.cell)->∃l':List C,l'.map C.er=oW s (l.map C.er)/\l'.map C.val=l.map C.val/\∀x∈l',fY w zl bJ x/\x.cell/\x.fits .af
 |[],hl=>⟨[],rfl,rfl,λ_ hx=>(by cases hx)⟩
 |y::l,hl=>by
  obtain⟨x,x1,x2,x3,x4,_,x6⟩:=HX h hb hG (hl y (bH ..)).1;obtain⟨l',l1,l2,l3⟩:=NB h hb hG l λx hx=>hl x (cl _ hx);refine⟨x::l',by simp[oW,x1,l1],by simp[x2,l2],λz hz=>?_⟩;rcases ck.1 hz with rfl|hz;·exact⟨x3,x4 (hl y (bH ..)).2,x6⟩
  ·exact l3 z hz
def UI(F:List X->List X)(hF:∀l:List C,(∀x∈l,eL w zl zb G x/\x.cell)->∃l':List C,l'.map C.er=F (l.map C.er)/\l'.map C.val=l.map C.val/\∀x∈l',fY w zl bJ x/\x.cell/\x.fits .af)(h:Inv w zl zb G s)(hb:∀b k,zb b k->bJ b k)(hG:∀t b k,(G t).fp b k->bJ b k){y:C}(hy:eL w zl zb G y){cs:List X}(hc:gB s y.er=some cs)(hne:cs≠[])(n:Nat)(hn:0<n):
  ∃x:C,x.er=.ptr .af (F (cs.take n))/\x.val=y.val/\fY w zl bJ x:=by
 obtain⟨l,l1,⟨g,k,hv,hcell⟩,l3⟩:=TF h hy hc;obtain⟨g',k',eM,hmem⟩:=aiG h hy hc;rw[hv] at eM;injection eM with eM;injection eM with eM;injection eM with e1 e2 e3
 subst e1;subst e2;have uy:l.length=cs.length:=by rw[<-l1];simp
 obtain⟨l',m1,m2,m3⟩:=hF (l.take n) λx hx=>l3 x (Pa hx);have hl':l'.length=min n l.length:=by have:=dF List.length m2;simpa using this
 have hpos:0<l.length:=by rw[uy];exact List.length_pos_iff.2 hne
 refine⟨.ptr .af g k l'.length λj=>l'.getD j (.dead undef),?_,hv.symm,⟨⟨λj hj=>⟨?_,λ_=>?_,λhm=>by (cases hm)⟩,?_,λj hj=>⟨(m3 _ (cT hj _)).2.1,(m3 _ (cT hj _)).2.2,(m3 _ (cT hj _)).1.ok⟩,λj hj b k hh=>((m3 _ (cT hj _)).1.cY b k hh).elim⟩,λj hj=>(m3 _ (cT hj _)).1.bare,λb k hh=>by cases hh.1⟩⟩;·simp only[C.er,mM];rw[m1,pH,l1]
 ·have hj':j<l.length:=by omega
  have uB:(l'.getD j (.dead undef)).val=(l[j]).val:=by have:=dF (λt:List Value=>t[j]?) m2;simp only[dm,cv hj,cq] at this;rw[PB (by omega),cv hj'] at this;rw[pU (cv hj)];simpa using this
  rw[uB];exact hcell j hj'
 ·rcases hmem j (by omega) with hz|hz|⟨t,ht⟩;·exact .inl hz
  ·exact .inr (hb _ _ hz)
  ·exact .inr (hG t _ _ ht)
 ·have:=hcell 0 hpos;rcases iL g w.heap.size with hg|hg;·exact hg
  ·simp[World.cell?,l9 hg] at this
def UJ(h:Inv w zl zb G s)(hb:∀b k,zb b k->bJ b k)(hG:∀t b k,(G t).fp b k->bJ b k){y:C}(hy:eL w zl zb G y){cs:List X}(hc:gB s y.er=some cs)(hne:cs≠[])(n:Nat)(hn:0<n):
  ∃x:C,x.er=.ptr .af (oW s (cs.take n))/\x.val=y.val/\fY w zl bJ x:=UI (oW s) (NB h hb hG) h hb hG hy hc hne n hn
def akE(h:Inv w zl zb G s)(hb:∀b k,zb b k->bJ b k)(hG:∀t b k,(G t).fp b k->bJ b k){y:C}(hy:eL w zl zb G y)(mG:y.cell):∃x:C,x.er=gK s y.er/\x.val=y.val/\fY w zl bJ x/\x.cell/\x.fits .af:=by
 have jx:gK s y.er=lR s y.er->∃x:C,x.er=gK s y.er/\x.val=y.val/\fY w zl bJ x/\x.cell/\x.fits .af:=λe=>by obtain⟨x,x1,x2,x3,x4,_,x6⟩:=HX h hb hG hy;exact⟨x,by rw[e,x1],x2,x3,x4 mG,x6⟩
 cases y with
 |az v r p i k=>
  have dead:gK s (C.az v r p i k).er=.dead->∃x:C,x.er=gK s (C.az v r p i k).er/\x.val=(C.az v r p i k).val/\fY w zl bJ x/\x.cell/\x.fits .af:=λe=>⟨.dead v,e.symm,rfl,Cg v,mG,trivial⟩;cases hc:gB s (.az r p i k) with
  |none=>exact dead (by simp only[C.er,gK,hc])
  |some cs=>
   cases cs with
   |nil=>exact dead (by simp only[C.er,gK,hc])
   |cons a cs=>
    obtain⟨x,x1,x2,x3⟩:=UJ h hb hG hy hc (by simp) (a::cs).length (by simp);rw[qR] at x1;have he:gK s (C.az v r p i k).er=.ptr .af (oW s (a::cs)):=by simp only[C.er,gK,hc]
    rw[he];refine⟨x,x1,x2,x3,?_,?_⟩;·cases x<;>first|trivial|(simp[C.er] at x1)
    ·cases x with
     |ptr m g o n f=>simp only[C.er,X.ptr.injEq] at x1;exact .inr (.inl x1.1)
     |_=>simp[C.er] at x1
 |_=>exact jx rfl
def UH(h:Inv w zl zb G s)(hb:∀b k,zb b k->bJ b k)(hG:∀t b k,(G t).fp b k->bJ b k):∀l:List C,(∀x∈l,eL w zl zb G x/\x.cell)->∃l':List C,l'.map C.er=jT s (l.map C.er)/\l'.map C.val=l.map C.val/\∀x∈l',fY w zl bJ x/\x.cell/\x.fits .af
 |[],hl=>⟨[],rfl,rfl,λ_ hx=>(by cases hx)⟩
 |y::l,hl=>by
  obtain⟨x,x1,x2,x3⟩:=akE h hb hG (hl y (bH ..)).1 (hl y (bH ..)).2;obtain⟨l',l1,l2,l3⟩:=UH h hb hG l λx hx=>hl x (cl _ hx);refine⟨x::l',by simp[jT,x1,l1],by simp[x2,l2],λz hz=>?_⟩;rcases ck.1 hz with rfl|hz;·exact x3
  ·exact l3 z hz
end
end M
namespace M
open Go Go.RowKit
variable [Bs]
section
variable {w:World}{zl zb bJ:Nat->Nat->Prop}{G:Nat->C}{s:ah}
def NA(h:Inv w zl zb G s)(hb:∀b k,zb b k->bJ b k)(hG:∀t b k,(G t).fp b k->bJ b k):∀l:List C,(∀x∈l,eL w zl zb G x)->∃l':List C,l'.map C.er=fO s (l.map C.er)/\l'.map C.val=l.map C.val/\∀x∈l',fY w zl bJ x
 |[],hl=>⟨[],rfl,rfl,λ_ hx=>(by cases hx)⟩
 |y::l,hl=>by
  obtain⟨l',l1,l2,l3⟩:=NA h hb hG l λx hx=>hl x (cl _ hx);have hy:=hl y (bH ..)
  have done:∀x:C,x.val=y.val->fY w zl bJ x->(fO s ((y::l).map C.er))=x.er::fO s (l.map C.er)->∃l':List C,l'.map C.er=fO s ((y::l).map C.er)/\l'.map C.val=(y::l).map C.val/\∀x∈l',fY w zl bJ x:=λx x1 x2 x3=>
   ⟨x::l',by rw[x3,bE,l1],by simp[x1,l2],λz hz=>(ck.1 hz).elim (λe=>e▸x2) (l3 z)⟩
  have jx:(fO s ((y::l).map C.er))=lR s y.er::fO s (l.map C.er)->∃l':List C,l'.map C.er=fO s ((y::l).map C.er)/\l'.map C.val=(y::l).map C.val/\∀x∈l',fY w zl bJ x:=λe=>by obtain⟨x,x1,x2,x3,_⟩:=HX h hb hG hy;exact done x x2 x3 (by rw[e,x1])
  cases y with
  |az v r p i k=>
   cases hc:gB s (.az r p i k) with
   |none=>exact done (.dead v) rfl (Cg v) (by simp only[bE,C.er,fO,hc])
   |some cs=>
    cases cs with
    |nil=>exact done (.dead v) rfl (Cg v) (by simp only[bE,C.er,fO,hc])
    |cons a cs=>obtain⟨x,x1,x2,x3⟩:=UI (jT s) (UH h hb hG) h hb hG hy hc (by simp) (a::cs).length (by simp);refine done x x2 x3 ?_;rw[x1,qR];simp only[bE,C.er,fO,hc]
  |_=>exact jx rfl
def akG(h:Inv w zl zb G s)(hb:∀b k,zb b k->bJ b k)(hG:∀t b k,(G t).fp b k->bJ b k){y:C}(hy:eL w zl zb G y):∃x:C,x.er=res s y.er/\x.val=y.val/\fY w zl bJ x:=by
 have jx:res s y.er=lR s y.er->∃x:C,x.er=res s y.er/\x.val=y.val/\fY w zl bJ x:=λe=>by obtain⟨x,x1,x2,x3,_⟩:=HX h hb hG hy;exact⟨x,by rw[x1,e],x2,x3⟩
 cases y with
 |agg n f=>
  obtain⟨l',l1,l2,l3⟩:=NB h hb hG ((List.range n).map f) λx hx=>by
   obtain⟨j,hj,rfl⟩:=bw.1 hx;have hj':j<n:=by simpa using hj
   exact⟨PZ hy hj',(hy.ok.1 j hj').1⟩
  refine⟨gQ l',?_,?_,⟨⟨λj hj=>⟨(l3 _ (cT hj _)).2.1,(l3 _ (cT hj _)).1.ok⟩,λj hj b k hf=>((l3 _ (cT hj _)).1.cY b k hf).elim⟩,λj hj=>(l3 _ (cT hj _)).1.bare,λb k hf=>?_⟩⟩;·rw[wq,l1,cS];rfl
  ·rw[zV,l2,cS];rfl
  ·obtain⟨x,hx,hf⟩:=(rq _ _ _).1 hf;exact(l3 x hx).1.cY b k hf
 |fn g n f=>
  obtain⟨l',l1,l2,l3⟩:=NA h hb hG ((List.range n).map f) λx hx=>by
   obtain⟨j,hj,rfl⟩:=bw.1 hx;have hj':j<n:=by simpa using hj
   exact⟨(hy.ok j hj').1,hy.rf j hj',(hy.ok j hj').2⟩
  refine⟨.fn g l'.length λj=>l'.getD j (.dead undef),?_,?_,⟨λj hj=>⟨(l3 _ (cT hj _)).ok,(l3 _ (cT hj _)).cY⟩,λj hj=>(l3 _ (cT hj _)).bare,λb k hf=>hf⟩⟩;·show X.fn _ _=_;rw[mM l' _ C.er,l1,cS];rfl
  ·show Value.func _ _ _=_;rw[mM l' _ C.val,l2,cS];rfl
 |_=>exact jx rfl
def akF(h:Inv w zl zb G s)(hb:∀b k,zb b k->bJ b k)(hG:∀t b k,(G t).fp b k->bJ b k){y:C}(hy:eL w zl zb G y)(n:Nat)(hn:0<n):∃x:C,x.er=yG n s y.er/\x.val=y.val/\fY w zl bJ x:=by
 cases hc:gB s y.er with
 |none=>exact⟨.dead y.val,by simp only[yG,hc,C.er],rfl,Cg _⟩
 |some cs=>
  cases cs with
  |nil=>exact⟨.dead y.val,by simp only[yG,hc,C.er],rfl,Cg _⟩
  |cons a cs=>obtain⟨x,x1,x2,x3⟩:=UJ h hb hG hy hc (by simp) n hn;exact⟨x,by rw[x1];simp only[yG,hc],x2,x3⟩
end
section
variable {P:Program}{c:Ctx}{G:Nat->C}{zl:Nat->Nat->Prop}{s:ah}{a:Act}{w:World}{o:Oper}{K:ah->Prop}
def gT:List Operand->List (AV×PM)->Bool
 |[],[]=>true
 |x'::l',(x,m)::l=>aR x' x && (match m with|.gS n=>decide (0<n)|.mut _=>(ei l).isNone|_=>true) && gT l' l
 |_,_=>false
def MV(a:Act):List Operand->List (AV×PM)->List C->Prop
 |[],[],[]=>True
 |x'::l',(_,.mv)::l,m::ms=>m.val=a.eval x'/\MV a l' l ms
 |_::l',(_,.af)::l,_::ms=>MV a l' l ms
 |_::l',(_,.gS _)::l,_::ms=>MV a l' l ms
 |_::l',(_,.mut _)::l,_::ms=>MV a l' l ms
 |_,_,_=>False
def HK:∀{l':List Operand} {l:List (AV×PM)},gT l' l=true->∀{G:Nat->C} {s:ah},St c G zl s a w->
  ∃ms G',ms.map C.er=(bX l s).1/\MV a l' l ms/\bM w zl c.zb G ms G' (bX l s).2
 |[],[],_,G,s,h=>⟨[],G,rfl,trivial,bM.nil h.inv⟩
 |x'::l',(x,pm)::l,hc,G,s,h=>by
  simp only[gT,aC] at hc;have other:(bX ((x,pm)::l) s=(.dead::(bX l s).1,(bX l s).2))->(∀m ms,MV a l' l ms->MV a (x'::l') ((x,pm)::l) (m::ms))->∃ms G',ms.map C.er=(bX ((x,pm)::l) s).1/\MV a (x'::l') ((x,pm)::l) ms/\bM w zl c.zb G ms G' (bX ((x,pm)::l) s).2:=λe hm=>by obtain⟨ms,G',g1,g2,g3⟩:=HK hc.2 h;rw[e];exact⟨.dead undef::ms,G',by simp[C.er,g1],hm _ _ g2,bM.cons (fI.self h.inv trivial trivial λ_ _ h=>h) g3⟩
  cases pm with
  |mv=>obtain⟨p,p1,p2,p3⟩:=cr h hc.1.1;obtain⟨y,G1,f1,f2,f3,f4⟩:=qN .mv h.inv p3;obtain⟨ms,G',g1,g2,g3⟩:=HK hc.2 (h.zk f4);rw[p1] at f1 g1 g3 f4;exact⟨y::ms,G',by simp[bX,f1,g1],⟨by rw[f2,p2],g2⟩,bM.cons f4 g3⟩
  |af=>exact other rfl λ_ _ h=>h
  |gS n=>exact other rfl λ_ _ h=>h
  | «mut» n=>exact other rfl λ_ _ h=>h
 |[],_::_,hc,_,_,_=>by cases hc
 |_::_,[],hc,_,_,_=>by cases hc
def ED{G2:Nat->C}{s2:ah}{bJ:Nat->Nat->Prop}(h:St c G2 zl s2 a w)(hb:∀b k,c.zb b k->bJ b k)(hG:∀t b k,(G2 t).fp b k->bJ b k){y:C}(hy:y.ok w (Zf zl bJ))(FQ:y.bare):∀{l':List Operand} {l:List (AV×PM)},gT l' l=true->∀{ms:List C},MV a l' l ms->
  (∀x∈ms,x.ok w (Zf zl bJ)/\x.bare/\∀b k,x.fp b k->¬y.fp b k)->(ms.Pairwise λa b=>∀x k,a.fp x k->¬b.fp x k)->(∀(i:Nat) (x:AV) (n:Nat) (x':Operand),l[i]?=some (x,PM.mut n)->l'[i]?=some x'->y.val=a.eval x')->
  ∃cs:List C,cs.map C.er=gy s2 y.er l (ms.map C.er)/\cs.map C.val=l'.map a.eval/\(∀x∈cs,x.ok w (Zf zl bJ)/\x.bare/\∀b k,x.fp b k->(∃m∈ms,m.fp b k)\/((ei l).isSome=true/\y.fp b k))/\cs.Pairwise λa b=>∀x k,a.fp x k->¬b.fp x k
 |[],[],_,[],_,_,_,_=>⟨[],rfl,rfl,λ_ hx=>(by cases hx),List.Pairwise.nil⟩
 |x'::l',(x,pm)::l,hc,[],hm,_,_,_=>by cases pm<;>exact hm.elim
 |x'::l',(x,pm)::l,hc,m::ms,hm,uA,gZ,oB=>by
  simp only[gT,aC] at hc;have xd:=fG.1 gZ;have ih:=λ(hm:MV a l' l ms)=>ED h hb hG hy FQ hc.2 hm (λx hx=>uA x (cl _ hx)) xd.2 (λi x n x' h1 h2=>oB (i+1) x n x' (by simpa using h1) (by simpa using h2))
  have TE:∀z:C,z.val=a.eval x'->fY w zl bJ z->MV a l' l ms->gy s2 y.er ((x,pm)::l) ((m::ms).map C.er)=z.er::gy s2 y.er l (ms.map C.er)->((ei l).isSome=true->(ei ((x,pm)::l)).isSome=true)->∃cs:List C,cs.map C.er=gy s2 y.er ((x,pm)::l) ((m::ms).map C.er)/\cs.map C.val=(x'::l').map a.eval/\
    (∀z∈cs,z.ok w (Zf zl bJ)/\z.bare/\∀b k,z.fp b k->(∃m'∈m::ms,m'.fp b k)\/((ei ((x,pm)::l)).isSome=true/\y.fp b k))/\cs.Pairwise λa b=>∀x k,a.fp x k->¬b.fp x k:=λz z1 z2 hm' he hmo=>by
   obtain⟨cs,c1,c2,c3,c4⟩:=ih hm';refine⟨z::cs,by rw[he,bE,c1],by simp[z1,c2],λu hu=>?_,fG.2 ⟨λu _ b k hf=>(z2.cY b k hf).elim,c4⟩⟩;rcases ck.1 hu with rfl|hu;·exact⟨z2.ok,z2.bare,λb k hf=>(z2.cY b k hf).elim⟩
   ·obtain⟨u1,u2,u3⟩:=c3 u hu;exact⟨u1,u2,λb k hf=>(u3 b k hf).imp (λ⟨m',hm',hf⟩=>⟨m',cl _ hm',hf⟩) λhh=>⟨hmo hh.1,hh.2⟩⟩
  obtain⟨p,p1,p2,p3⟩:=cr h hc.1.1;cases pm with
  |af=>obtain⟨z,z1,z2,z3⟩:=akG h.inv hb hG p3;rw[p1] at z1;exact TE z (by rw[z2,p2]) z3 hm (by simp only[bE,gy,z1]) λhh=>hh
  |gS n=>obtain⟨z,z1,z2,z3⟩:=akF h.inv hb hG p3 n (by simpa using hc.1.2);rw[p1] at z1;exact TE z (by rw[z2,p2]) z3 hm (by simp only[bE,gy,z1]) λhh=>hh
  |mv=>
   obtain⟨hv,hm⟩:=hm;obtain⟨cs,c1,c2,c3,c4⟩:=ih hm;obtain⟨m1,m2,m3⟩:=uA m (bH ..);refine⟨m::cs,by simp only[bE,gy,c1],by simp[hv,c2],λu hu=>?_,fG.2 ⟨λu hu b k hf hf'=>?_,c4⟩⟩
   ·rcases ck.1 hu with rfl|hu;·exact⟨m1,m2,λb k hf=>.inl ⟨u,bH ..,hf⟩⟩
    ·obtain⟨u1,u2,u3⟩:=c3 u hu;exact⟨u1,u2,λb k hf=>(u3 b k hf).imp (λ⟨m',hm',hf⟩=>⟨m',cl _ hm',hf⟩) id⟩
   ·rcases(c3 u hu).2.2 b k hf' with ⟨m',hm',jM⟩|⟨_,jM⟩;·exact xd.1 m' hm' b k hf jM
    ·exact m3 b k hf jM
  | «mut» n=>
   obtain⟨cs,c1,c2,c3,c4⟩:=ih hm;have hno:ei l=none:=by simpa using hc.1.2
   have hv:=oB 0 x n x' rfl rfl;refine⟨y::cs,by simp only[bE,gy,c1],by simp[hv,c2],λu hu=>?_,fG.2 ⟨λu hu b k hf hf'=>?_,c4⟩⟩
   ·rcases ck.1 hu with rfl|hu;·exact⟨hy,FQ,λb k hf=>.inr ⟨rfl,hf⟩⟩
    ·obtain⟨u1,u2,u3⟩:=c3 u hu;refine⟨u1,u2,λb k hf=>(u3 b k hf).imp (λ⟨m',hm',hf⟩=>⟨m',cl _ hm',hf⟩) λhh=>⟨rfl,hh.2⟩⟩
   ·rcases(c3 u hu).2.2 b k hf' with ⟨m',hm',jM⟩|⟨hh,_⟩;·exact(uA m' (cl _ hm')).2.2 b k jM hf
    ·rw[hno] at hh;cases hh
 |[],_::_,hc,_,_,_,_,_=>by cases hc
 |_::_,[],hc,_,_,_,_,_=>by cases hc
 |[],[],_,_::_,hm,_,_,_=>hm.elim
def abS{G2:Nat->C}{s2:ah}{bJ:Nat->Nat->Prop}(h:St c G2 zl s2 a w)(hb:∀b k,c.zb b k->bJ b k)(hG:∀t b k,(G2 t).fp b k->bJ b k){x:AV}{x':Operand}(hx:aR x' x=true){f:FuncId}{cs:List X}(he:ay s2 x=.fn f cs):
  ∃l:List C,l.map C.er=oq s2 (some x)/\a.eval x'=.func (.func f) #[] (l.map C.val).toArray/\∀x∈l,fY w zl bJ x:=by
 obtain⟨p,p1,p2,p3⟩:=cr h hx;rw[he] at p1;cases p with
 |fn g n fc=>
  simp only[C.er,X.fn.injEq] at p1;obtain⟨rfl,p1⟩:=p1
  obtain⟨l',l1,l2,l3⟩:=NA h.inv hb hG ((List.range n).map fc) λx hx=>by
   obtain⟨j,hj,rfl⟩:=bw.1 hx;have hj':j<n:=by simpa using hj
   exact⟨(p3.ok j hj').1,p3.rf j hj',(p3.ok j hj').2⟩
  refine⟨l',?_,?_,l3⟩;·rw[l1,oq,he,<-p1,cS];rfl
  ·rw[<-p2,l2,cS];rfl
 |_=>simp[C.er] at p1
end
end M
namespace M
open Go Go.RowKit
variable [Bs]
def jZ{l:List X}:X.clean.cJ l=true↔∀x∈l,x.clean=true:=by
 induction l with
 |nil=>simp[X.clean.cJ]
 |cons a l ih=>simp[X.clean.cJ,ih]
def Q8{l:List (List X)}:X.clean.bK l=true↔∀x∈l,∀y∈x,y.clean=true:=by
 induction l with
 |nil=>simp[X.clean.bK]
 |cons a l ih=>simp[X.clean.bK,ih,jZ]
namespace C
def ez:C->C
 |.row _ sz A len cap e=>.row .sl sz A len cap λi j=>(e i j).ez
 |.ptr _ g o n c=>.ptr .sl g o n λj=>(c j).ez
 |.agg n c=>.agg n λj=>(c j).ez
 |.av n c=>.av n λj=>(c j).ez
 |.fn f n c=>.fn f n λj=>(c j).ez
 |.ref v _ _=>.dead v
 |.az v _ _ _ _=>.dead v
 |.cut v _ _ _ _=>.dead v
 |.dead v=>.dead v
 |.int k n=>.int k n
 |.bool b=>.bool b
 |.str s=>.str s
def yj:∀c:C,c.ez.er=c.er.md .sl
 |.row m sz A len cap e=>by simp only[ez,er,X.md];rw[X.HG .sl (λ_=>List.range sz) (λi j=>(e i j).er)];congr 1;exact cm λi _=>cm λj _=>yj (e i j)
 |.ptr m g o n c=>by simp only[ez,er,X.md,X.nP];congr 1;exact cm λj _=>yj (c j)
 |.agg n c=>by simp only[ez,er,X.md,X.nP];congr 1;exact cm λj _=>yj (c j)
 |.av n c=>by simp only[ez,er,X.md,X.nP];congr 1;exact cm λj _=>yj (c j)
 |.fn f n c=>by simp only[ez,er,X.md,X.nP];congr 1;exact cm λj _=>yj (c j)
 |.ref _ _ _=>by simp only[ez,er,X.md]
 |.az _ _ _ _ _=>by simp only[ez,er,X.md]
 |.cut _ _ _ _ _=>by simp only[ez,er,X.md]
 |.dead _=>by simp only[ez,er,X.md]
 |.int _ _=>by simp only[ez,er,X.md]
 |.bool _=>by simp only[ez,er,X.md]
 |.str _=>by simp only[ez,er,X.md]
def ym:∀c:C,c.ez.val=c.val
 |.row m sz A len cap e=>rfl
 |.ptr m g o n c=>rfl
 |.agg n c=>by simp only[ez,val];congr 2;exact cm λj _=>ym (c j)
 |.av n c=>by simp only[ez,val];congr 2;exact cm λj _=>ym (c j)
 |.fn f n c=>by simp only[ez,val];congr 2;exact cm λj _=>ym (c j)
 |.ref _ _ _=>rfl
 |.az _ _ _ _ _=>rfl
 |.cut _ _ _ _ _=>rfl
 |.dead _=>rfl
 |.int _ _=>rfl
 |.bool _=>rfl
 |.str _=>rfl
def sQ:∀(c:C) (b k:Nat),¬c.ez.fp b k
 |.row m sz A len cap e,b,k=>λh=>by cases h.1
 |.ptr m g o n c,b,k=>λh=>by cases h.1
 |.agg n c,b,k=>λ⟨j,_,hf⟩=>sQ (c j) b k hf
 |.av n c,b,k=>λ⟨j,_,hf⟩=>sQ (c j) b k hf
 |.fn f n c,b,k=>λh=>h
 |.ref _ _ _,b,k=>λh=>h
 |.az _ _ _ _ _,b,k=>λh=>h
 |.cut _ _ _ _ _,b,k=>λh=>h
 |.dead _,b,k=>λh=>h
 |.int _ _,b,k=>λh=>h
 |.bool _,b,k=>λh=>h
 |.str _,b,k=>λh=>h
def Nf{c:C}(h:c.cell):c.ez.cell:=by cases c<;>first|exact h|exact h.elim|trivial
def ai3{c:C}(h:c.gj):c.ez.gj:=by cases c<;>first|exact h|exact h.elim|trivial
def ai5{c:C}(h:c.cZ):c.ez.cZ:=by cases c<;>first|exact h|exact h.elim|trivial
def TW(c:C):c.ez.fits .sl:=by cases c<;>first|trivial|exact .inr (.inl rfl)
def ai4{c:C}(h:c.plain):c.ez.plain:=by cases c<;>first|exact h|exact h.elim|trivial
variable {w:World}{zl aM zb:Nat->Nat->Prop}
def yl(hz:∀b k,zl b k->aM b k):∀c:C,c.er.clean=true->(∀b k,c.fp b k->aM b k)->c.ok w (Zf zl zb)->c.ez.ok w (Zf aM zb)
 |.row m sz A len cap e,hcl,hf,h=>by
  obtain⟨h1,h2,h3,h4,h5⟩:=h;simp only[er,X.clean,aC] at hcl;refine⟨h1,λi j hi hj=>?_,λi j hi hj=>?_,λhm=>by (cases hm),λi j hi hj b k hh=>(sQ _ b k hh).elim⟩
  ·obtain⟨g,o,hA,hc,uF⟩:=h2 i j hi hj;refine⟨g,o,hA,by rw[ym];exact hc,λ_=>?_⟩;cases m with
   |own=>exact hf _ _ ⟨rfl,.inl ⟨o,hA⟩⟩
   |sl=>exact hz _ _ (uF (by simp))
   |af=>simp at hcl
  ·obtain⟨a1,a2,a3,a4⟩:=h3 i j hi hj;exact⟨Nf a1,ai5 a2,TW _,yl hz (e i j) (Q8.1 hcl.2 _ (bw.2 ⟨i,by simpa using hi,rfl⟩) _ (bw.2 ⟨j,by simpa using hj,rfl⟩)) (λb k hk=>hf b k (ke a1 a3 hi hj hk)) a4⟩
 |.ptr m g o n c,hcl,hf,h=>by
  obtain⟨h1,h2,h3,h4⟩:=h;simp only[er,X.clean,aC] at hcl;refine⟨λj hj=>?_,h2,λj hj=>?_,λj hj b k hh=>(sQ _ b k hh).elim⟩
  ·obtain⟨a1,a2,a3⟩:=h1 j hj;refine⟨by rw[ym];exact a1,λ_=>?_,λhm=>by (cases hm)⟩;cases m with
   |own=>exact hf _ _ ⟨rfl,.inl ⟨rfl,by omega,by omega⟩⟩
   |sl=>exact hz _ _ (a2 (by simp))
   |af=>simp at hcl
  ·obtain⟨a1,a2,a3⟩:=h3 j hj;exact⟨Nf a1,TW _,yl hz (c j) (jZ.1 hcl.2 _ (bw.2 ⟨j,by simpa using hj,rfl⟩)) (λb k hk=>hf b k (kO a1 a2 hj hk)) a3⟩
 |.agg n c,hcl,hf,h=>by simp only[er,X.clean] at hcl;exact⟨λj hj=>⟨Nf (h.1 j hj).1,yl hz (c j) (jZ.1 hcl _ (bw.2 ⟨j,by simpa using hj,rfl⟩)) (λb k hk=>hf b k ⟨j,hj,hk⟩) (h.1 j hj).2⟩,λj hj b k hh=>(sQ _ b k hh).elim⟩
 |.av n c,hcl,hf,h=>by simp only[er,X.clean] at hcl;exact⟨λj hj=>⟨ai3 (h.1 j hj).1,yl hz (c j) (jZ.1 hcl _ (bw.2 ⟨j,by simpa using hj,rfl⟩)) (λb k hk=>hf b k ⟨j,hj,hk⟩) (h.1 j hj).2⟩,λj hj b k hh=>(sQ _ b k hh).elim⟩
 |.fn f n c,hcl,hf,h=>by simp only[er,X.clean] at hcl;exact λj hj=>⟨yl hz (c j) (jZ.1 hcl _ (bw.2 ⟨j,by simpa using hj,rfl⟩)) (λb k hk=>((h j hj).2 b k hk).elim) (h j hj).1,λb k hh=>sQ _ b k hh⟩
 |.ref _ _ _,_,_,_=>trivial
 |.az _ _ _ _ _,_,_,_=>trivial
 |.cut _ _ _ _ _,_,_,_=>trivial
 |.dead _,_,_,_=>trivial
 |.int _ _,_,_,_=>trivial
 |.bool _,_,_,_=>trivial
 |.str _,_,_,h=>h
end C
variable {w:World}{zl zb:Nat->Nat->Prop}{G:Nat->C}{s:ah}
def Inv.more{aM:Nat->Nat->Prop}(h:Inv w zl zb G s)(h1:∀b k,zl b k->aM b k)(h2:∀b k,aM b k->(zl b k\/∀t,¬(G t).fp b k)/\b<w.heap.size):Inv w aM zb G s where
 er:=h.er
 ok:=λt=>C.gJ (λm b k hz=>by
  cases m with
  |own=>exact hz
  |sl=>exact h1 b k hz
  |af=>exact hz.imp (h1 b k) id) _ (h.ok t)
 sep:=h.sep
 fz:=λt b k hf=>⟨λhz=>by
  rcases(h2 b k hz).1 with hh|hh;·exact(h.fz t b k hf).1 hh
  ·exact hh t hf,(h.fz t b k hf).2⟩
 rf:=h.rf
 cL:=λb k hz=>hz.elim (λhz=>(h2 b k hz).2) λhz=>h.cL b k (.inr hz)
section
variable {P:Program}{c:Ctx}{a:Act}{o:Oper}{K:ah->Prop}
def St.more{aM:Nat->Nat->Prop}(h:St c G zl s a w)(h1:∀b k,zl b k->aM b k)(h2:∀b k,aM b k->(zl b k\/∀t,¬(G t).fp b k)/\b<w.heap.size)(h3:∀b k,aM b k->zl b k\/c.F0 b k\/c.w0.heap.size<=b):St c G aM s a w where
 inv:=h.inv.more h1 h2
 val:=h.val
 size:=h.size
 small:=h.small
 defers:=h.defers
 tr:=⟨h.tr.ext,h.tr.dom,λb k hz=>h1 b k (h.tr.pL b k hz),λb k hz=>(h3 b k hz).elim (h.tr.zl b k) .inr,h.tr.gl,h.tr.Av⟩
 args:=h.args
def UB{d:Nat}{v:Value}(hd:a.tmps.getD d undef=v)(hn:d<a.tmps.size):a.put (some d) v=a:=by
 unfold Act.put;simp only;congr 1;apply JN;intro i;by_cases e:d=i;·subst e;rw[Wf hn,<-hd,vY,JS hn];rfl
 ·rw[PI e]
def Sc{d:Nat}{s':ah}(h:St c G zl s a w)(hn:d<c.nt)(cs:List C)(hcs:∀x∈cs,zT w zl c.zb G x)(k:List C->C)(kx:List X->X)(hk:∀l:List C,l.length=cs.length->(k l).er=kx (l.map C.er))
  (hkv:∀l:List C,l.map C.val=cs.map C.val->(k l).val=a.tmps.getD d undef)(hko:∀{aM:Nat->Nat->Prop},∀l:List C,l.length=cs.length->(∀x∈l,x.plain/\x.ok w (Zf aM c.zb)/\∀b k,¬x.fp b k)->(k l).ok w (Zf aM c.zb)/\(∀b q,¬(k l).fp b q)/\∀G,(k l).rf G)
  (hg:Au d (cs.map C.er) kx s=some s'):∃G' aM,St c G' aM s' a w:=by
 obtain⟨l,G1,e1,e2,e3,e4,e5⟩:=DJ cs G s h.inv hcs;unfold Au at hg;rw[<-e1] at hg;cases hcl:X.clean.cJ (l.map C.er) with
 |false=>rw[hcl] at hg;cases hg
 |true=>
  rw[hcl,lY] at hg;have hlen:l.length=cs.length:=by have:=dF List.length e2;simpa using this
  let aM:Nat->Nat->Prop:=λb k=>zl b k\/∃y∈l,y.fp b k;have h1:St c G1 zl (bY (cs.map C.er) s).2 a w:=h.move e4.inv e4.val (Ext.refl (λ_ _=>False) w) (λ_ _ hs=>hs.elim) (λt b k hf=>.inl ⟨t,e4.mono t b k hf⟩)
  have h2:St c G1 aM (bY (cs.map C.er) s).2 a w:=h1.more (λb k hz=>.inl hz) (λb k hz=>by
   rcases hz with hz|⟨y,hy,hf⟩;·exact⟨.inl hz,h1.inv.cL b k (.inl hz)⟩
   ·exact⟨.inr λt=>(e4.all y hy).2.1 t b k hf,C.fK _ (e4.all y hy).1 b k hf⟩) (λb k hz=>by
   rcases hz with hz|⟨y,hy,hf⟩;·exact .inl hz
   ·obtain⟨t,ht⟩:=(e4.all y hy).2.2.2 b k hf;exact .inr (h.tr.dom t b k ht))
  let m:=l.map C.ez;have hml:m.length=cs.length:=by simp[m,hlen]
  have ahJ:m.map C.er=X.ey .sl (l.map C.er):=by rw[X.nP];simp only[m,cS];exact cm λx _=>C.yj x
  have SX:m.map C.val=cs.map C.val:=by rw[<-e2];simp only[m,cS];exact cm λx _=>C.ym x
  have hmem:∀x∈m,x.plain/\x.ok w (Zf aM c.zb)/\∀b k,¬x.fp b k:=λx hx=>by obtain⟨y,hy,rfl⟩:=bw.1 hx;exact⟨C.ai4 (e3 y hy),C.yl (λb k hz=>.inl hz) y (jZ.1 hcl _ (fR hy)) (λb k hf=>.inr ⟨y,hy,hf⟩) (e4.all y hy).1,C.sQ y⟩
  rw[<-ahJ] at hg;cases hb:mY (cs.map C.er) (m.map C.er) (bY (cs.map C.er) s).2 with
  |none=>rw[hb] at hg;cases hg
  |some s3=>
   rw[hb] at hg;simp only[cq,dX] at hg;subst hg;obtain⟨G2,g1,g2,g3⟩:=EF cs m h2.inv hml (λv r p hm=>e5 v r p ((hcs _ hm).weak v r p rfl)) (λi x y hx hy=>by have hy':=hmem y (lX hy);refine⟨hy'.1,?_,hy'.2.1⟩;have:=dF (λt:List Value=>t[i]?) SX;simpa [dm,hx,hy] using this) (λy hy=>⟨λt b k hf=>((hmem y hy).2.2 b k hf).elim,λb k hf=>((hmem y hy).2.2 b k hf).elim⟩) (ry λx hx=>(hmem x hx).2.2) hb
   have h3:St c G2 aM s3 a w:=h2.move g1 g2 (Ext.refl (λ_ _=>False) w) (λ_ _ hs=>hs.elim) (λt b k hf=>by
    rcases g3 t b k hf with hh|⟨y,hy,hh⟩;·exact .inl ⟨t,hh⟩
    ·exact((hmem y hy).2.2 b k hh).elim)
   obtain⟨o1,o2,o3⟩:=hko m hml hmem;obtain⟨G3,h4⟩:=h3.put hn o1 (λt _ b k hf=>(o2 b k hf).elim) (λb k hf=>(o2 b k hf).elim) (o3 G2) (λb k hf=>(o2 b k hf).elim);rw[hk m hml,UB (hkv m SX).symm (by rw[h.size];exact hn)] at h4;exact⟨G3,aM,h4⟩
def ag1{fz:Bool}{d:Nat}{s':ah}(h:St c G zl s a w)(hn:d<c.nt)(hg:ghost fz d s=some s'):∃G' aM,St c G' aM s' a w:=by
 obtain⟨e1,e2,e3⟩:=Ul h d;have hd:d<base:=kV hn h.small;have hval:a.tmps.getD d undef=(G d).val:=(h.val d hd).symm;unfold ghost at hg;cases fz with
 |false=>
  obtain⟨y,G1,f1,f2,f3,f4⟩:=qN .mv h.inv e3;rw[e1] at f1 f4;have oD:y.val=a.tmps.getD d undef:=by rw[f2,e2,hval]
  simp only[qU,dX] at hg;subst hg;obtain⟨G2,h2⟩:=h.OI f4 hn;rw[f1,UB oD.symm (by rw[h.size];exact hn)] at h2;exact⟨G2,zl,h2⟩
 |true=>
  simp only[lY] at hg;rw[<-e1] at hg;cases hx:(G d).alias d [] with
  |agg n f=>
   rw[hx] at hg e2 e3;have er:(C.agg n f).er=.agg (((List.range n).map f).map C.er):=by simp only[C.er,cS];rfl
   rw[er] at hg;have hlen:((List.range n).map f).length=n:=by simp
   refine Sc h hn ((List.range n).map f) (λx hx=>?_) gQ .agg (λl _=>wq l) (λl hl=>?_) (λl hl hm=>⟨⟨λj hj=>⟨C.lQ (hm _ (cT hj _)).1,(hm _ (cT hj _)).2.1⟩,λj hj b q hf=>((hm _ (cT hj _)).2.2 b q hf).elim⟩,λb q hf=>?_,λG j hj=>C.oU (hm _ (cT hj _)).1 G⟩) hg
   ·obtain⟨j,hj,rfl⟩:=bw.1 hx;have hj':j<n:=by simpa using hj
    exact⟨(e3.ok.1 j hj').1,(e3.ok.1 j hj').2,λb k hf=>e3.cY b k ⟨j,hj',hf⟩,λv r p e=>DQ (by rw[<-e];exact e3.rf j hj')⟩
   ·rw[zV,hl,hval,<-e2];simp only[C.val,cS];rfl
   ·obtain⟨x,hx,hf⟩:=(rq _ _ _).1 hf;exact(hm x hx).2.2 b q hf
  |ref v r p=>
   rw[hx] at hg e2 e3;refine Sc h hn [.ref v r p] (λx hx=>?_) (λl=>l.headD (.dead undef)) (λl=>l.headD .dead) (λl hl=>?_) (λl hl=>?_) (λl hl hm=>?_) hg;·obtain rfl:=fF.1 hx;exact⟨NG e3.rf,trivial,λb k hf=>hf,λv' r' p' e=>by cases e;exact DQ e3.rf⟩
   ·cases l with
    |nil=>simp at hl
    |cons x l=>rfl
   ·cases l with
    |nil=>simp at hl
    |cons x l=>
     have:x.val=v:=by have:=dF List.head? hl;simpa [C.val] using this
     show x.val=_;rw[this,hval,<-e2];rfl
   ·cases l with
    |nil=>simp at hl
    |cons x l=>obtain⟨a1,a2,a3⟩:=hm x (bH ..);exact⟨a2,a3,λG=>C.oU a1 G⟩
  |_=>rw[hx] at hg;simp only[C.er,dX] at hg;subst hg;exact⟨G,zl,h⟩
def aj7(h:St c G zl s a w){d sz:Nat}{fz agg:Bool}{ty:TypeId}{x:AV}{x':Operand}(ho:o.op=.load ty x')(hsz:∃i,P.info? ty=some i/\i.size=sz)(nu:∃dd,P.underlying ty=some dd/\(match dd with|.struct _=>true|.array _ _=>true|_=>false)=agg)
  (h1:agg=true\/sz=1)(hd:o.dst=some d)(hn:d<c.nt)(hx:aR x' x=true)
  (hK:aV P (.nK d fz sz agg x) s K):dQ P c o a w K:=by obtain⟨cs,k1,k2,s',k3,k4⟩:=hK;obtain⟨v,hr,G1,tL,s1,q1,q2⟩:=Uj (K:=λt=>t=put d (bif agg then .agg (cs.take sz) else cs.headD .dead) s) h ho hsz nu h1 hd hn hx ⟨cs,k1,k2,rfl⟩;subst q1;obtain⟨G2,tM,h2⟩:=ag1 q2 hn k3;exact⟨v,hr,G2,tM,s',k4,h2⟩
end
end M
namespace M
open Go Go.RowKit
variable [Bs]
section
variable {P:Program}{c:Ctx}{G:Nat->C}{zl:Nat->Nat->Prop}{s:ah}{a:Act}{w:World}{o:Oper}{K:ah->Prop}
def q9(P:Program)(c:Ctx)(o:Oper)(a:Act)(w:World)(K:ah->Prop)(q:Bool):Prop:=
 ∃f args,(execOp a.eval o).run P w=.ok (.enter f args) w/\Calls P f args w λe w'=>∃v,e=.returned v/\Rel q w w'/\∃G' aM s',K s'/\St c G' aM s' (a.put o.dst v) w'
def NM{f:FuncId}{fn:Func}(hf:P.funcs[f]?=some fn)(hname:(fn.name== "runtime.NumGoroutine")=false) (hb:fn.body.isNone=false) (args:Array Value) (w:World):(callFunc f args).run P w=.ok (.enter f args) w:=by simp only[callFunc,Sem.run_bind,run_program,Result.andThen_ok,hf,hname,hb,fS,di,Sem.run_pure]
def St.result{aM:Nat->Nat->Prop}(h:St c G aM s a w){x:C}(d:Option Nat)(hn:∀n,d=some n->n<c.nt)(hok:x.ok w (Zf aM λ_ _=>False))(hb:x.bare)(hsep:∀t b k,x.fp b k->¬(G t).fp b k)(hfz:∀b k,x.fp b k->¬aM b k/\¬c.zb b k)
  (hdom:∀b k,x.fp b k->c.F0 b k\/c.w0.heap.size<=b):∃G',St c G' aM (fV d x.er s) (a.put d x.val) w:=by
 cases d with
 |none=>exact⟨G,h⟩
 |some n=>
  refine h.put (hn n rfl) (C.gJ (λm b k hz=>?_) _ hok) (λt _=>hsep t) hfz (C.rB G _ hb) hdom;cases m with
  |own=>exact hz
  |sl=>exact hz
  |af=>exact hz.imp id λh=>h.elim
def St.after{aM:Nat->Nat->Prop}{w':World}{G1:Nat->C}{s1:ah}{S:Nat->Nat->Prop}(h:St c G zl s a w)(hi:Inv w' aM c.zb G1 s1)(hv:∀t,(G1 t).val=(G t).val)(hE:Ext S w w')(hS:∀b k,S b k->∃t,(G t).fp b k)
  (hd:∀t b k,(G1 t).fp b k->(∃u,(G u).fp b k)\/w.heap.size<=b)(hz1:∀b k,zl b k->aM b k)(hz2:∀b k,aM b k->zl b k\/(∃t,(G t).fp b k)\/w.heap.size<=b):St c G1 aM s1 a w' where
 inv:=hi
 val:=λt ht=>(hv t).trans (h.val t ht)
 size:=h.size
 small:=h.small
 defers:=h.defers
 tr:=⟨h.tr.ext.trans hE (λb k hs hb=>by
   obtain⟨t,ht⟩:=hS b k hs;rcases h.tr.dom t b k ht with hh|hh;·exact hh
   ·omega),λt b k hf=>by
   rcases hd t b k hf with ⟨u,hu⟩|hb;·exact h.tr.dom u b k hu
   ·exact .inr (e8 h.tr.ext.size hb),λb k hz=>hz1 b k (h.tr.pL b k hz),λb k hz=>by
   rcases hz2 b k hz with hz|⟨t,ht⟩|hb;·exact h.tr.zl b k hz
   ·exact .inr (h.tr.dom t b k ht)
   ·exact .inr (.inr (e8 h.tr.ext.size hb)),h.tr.gl,h.tr.Av⟩
 args:=λi v hi=>(hv _).trans (h.args i v hi)
def St.Lx(h:St c G zl s a w)(bJ:Nat->Nat->Prop)(hz:∀b k,c.zb b k->bJ b k):Ev w zl bJ:=λb hb=>by
 obtain⟨h1,h2⟩:=h.tr.gl b hb;refine⟨?_,λk=>(h2 k).imp (h.tr.pL b k) (hz b k)⟩;rw[<-h1]
 have hlt:b<c.w0.heap.size:=by
  rcases iL b c.w0.heap.size with h|h;·exact h
  ·rw[l9 h] at h1;have:=Array.getElem?_eq_none_iff.1 h1.symm;omega
 rcases h.tr.ext.block b hlt with e|⟨arr,fZ,t,fz,e1,e2,e3,e4⟩;·exact e
 ·have:fZ=arr:=by apply JN;intro i;exact e4 i (h.tr.Av b i hb)
  rw[e1,e2,this]
def Jm{G1:Nat->C}{s1:ah}{l:List C}(h:St c G zl s a w)(hT:bM w zl c.zb G l G1 s1):St c G1 zl s1 a w:=
 h.move hT.inv hT.val (Ext.refl (λ_ _=>False) w) (λ_ _ hs=>hs.elim) (λt b k hf=>.inl ⟨t,hT.mono t b k hf⟩)
structure tN (P:Program) (c:Ctx) (zl:Nat->Nat->Prop) (o:Oper) (a:Act) (w:World) (l':List Operand) (f:FuncId) (fv:Option AV):Prop where
 run:∃pQ:List Value,(execOp a.eval o).run P w=.ok (.enter f ((l'.map a.eval)++pQ).toArray) w/\
  ∀{G2:Nat->C} {s2:ah} {bJ:Nat->Nat->Prop},St c G2 zl s2 a w->(∀b k,c.zb b k->bJ b k)->(∀t b k,(G2 t).fp b k->bJ b k)->rE s2 fv f->∃l:List C,l.map C.er=oq s2 fv/\l.map C.val=pQ/\∀x∈l,fY w zl bJ x
def jA:List (AV×PM)->Bool
 |[]=>true
 |(_,.af)::l=>jA l
 |(_,.gS _)::l=>jA l
 |_::_=>false
def Nh:∀{l:List (AV×PM)} (s:ah),jA l=true->∀x∈(bX l s).1,x=.dead
 |[],s,_,x,hx=>by cases hx
 |(_,.af)::l,s,h,x,hx=>(ck.1 hx).elim id (Nh (l:=l) s h x)
 |(_,.gS _)::l,s,h,x,hx=>(ck.1 hx).elim id (Nh (l:=l) s h x)
 |(_,.mv)::l,s,h,x,hx=>by cases h
 |(_,.mut _)::l,s,h,x,hx=>by cases h
def yq:∀{l:List (AV×PM)},jA l=true->ei l=none
 |[],_=>rfl
 |(_,.af)::l,h=>yq (l:=l) h
 |(_,.gS _)::l,h=>yq (l:=l) h
 |(_,.mv)::l,h=>by cases h
 |(_,.mut _)::l,h=>by cases h
def Q0(q:Bool)(h:St c G zl s a w){l':List Operand}{as:List (AV×PM)}(hc:gT l' as=true)(hno:ei as=none){f:FuncId}{fv:Option AV}(hop:tN P c zl o a w l' f fv)(hq:q=true->jA as=true)(hn:∀n,o.dst=some n->n<c.nt)(hK:ua P f o.dst as fv s K):q9 P c o a w K q:=by
 obtain⟨k1,k2⟩:=hK;rw[hno] at k2;obtain⟨k2,k3⟩:=k2;obtain⟨ms,G1,g1,g2,hT⟩:=HK hc h;obtain⟨pQ,hrun,AD⟩:=hop.run;have h1:=Jm h hT;rw[<-g1] at k1 k3;have jN:∀b k,c.zb b k->(c.zb b k\/∃t,(G1 t).fp b k):=λb k hz=>.inl hz;have su:∀t b k,(G1 t).fp b k->(c.zb b k\/∃t,(G1 t).fp b k):=λt b k hf=>.inr ⟨t,hf⟩;obtain⟨l,l1,l2,l3⟩:=AD (bJ:=λb k=>c.zb b k\/∃t,(G1 t).fp b k) h1 jN su k2
 have ahK:∀x∈ms,x.ok w (Zf zl λb k=>c.zb b k\/∃t,(G1 t).fp b k)/\x.bare/\∀b k,x.fp b k->¬(C.dead undef).fp b k:=λx hx=>by
  refine⟨C.gJ (λm b k hz=>?_) _ (hT.all x hx).1,(C.me x).1 (C.wF.1 k1 _ (fR hx)),λ_ _ _ h=>h⟩;cases m with
  |own=>exact hz
  |sl=>exact hz
  |af=>exact hz.imp id .inl
 obtain⟨cs,c1,c2,c3,c4⟩:=ED (bJ:=λb k=>c.zb b k\/∃t,(G1 t).fp b k) h1 jN su (y:=.dead undef) trivial trivial hc g2 ahK hT.apart (λi x n x' hi _=>by
  exfalso
  have:∀{l:List (AV×PM)} {i:Nat},l[i]?=some (x,PM.mut n)->ei l≠none:=by
   intro l;induction l with
   |nil=>intro i hi;simp at hi
   |cons p l ih=>
    intro i hi;obtain⟨y,pm⟩:=p;cases i with
    |zero=>simp only[zL,dX,jW] at hi;obtain⟨_,rfl⟩:=hi;simp[ei]
    |succ i=>have:=ih (by simpa using hi);cases pm<;>simp[ei]<;>first|exact this|skip
  exact this hi hno)
 have cx:∀x∈cs++l,∀b k,x.fp b k->∃m∈ms,m.fp b k:=λx hx b k hf=>by
  rcases gO.1 hx with hx|hx
  ·rcases(c3 x hx).2.2 b k hf with hh|hh;·exact hh
   ·exact hh.2.elim
  ·exact((l3 x hx).cY b k hf).elim
 have hA:qX w zl (λb k=>c.zb b k\/∃t,(G1 t).fp b k) (cs++l):={
  ok:=λx hx=>(gO.1 hx).elim (λhx=>(c3 x hx).1) λhx=>(l3 x hx).ok
  bare:=λx hx=>(gO.1 hx).elim (λhx=>(c3 x hx).2.1) λhx=>(l3 x hx).bare
  fz:=λx hx b k hf=>by obtain⟨m,hm,hf⟩:=cx x hx b k hf;exact⟨((hT.all m hm).2.2.1 b k hf).1,λhz=>hz.elim ((hT.all m hm).2.2.1 b k hf).2 λ⟨t,ht⟩=>(hT.all m hm).2.1 t b k hf ht⟩
  cL:=λb k hz=>by
   rcases hz with hz|hz|⟨t,ht⟩;·exact hT.inv.cL b k (.inl hz)
   ·exact hT.inv.cL b k (.inr hz)
   ·exact C.fK _ (hT.inv.ok t) b k ht
  apart:=vQ.2 ⟨c4,ry λx hx=>(l3 x hx).cY,λx _ y hy b k _ hf=>(l3 y hy).cY b k hf⟩}
 have rZ:=k3 w zl _ (cs++l) (by rw[jC,c1,l1];rfl) hA (h.Lx _ λb k hz=>.inl hz);have uE:(cs++l).map C.val=l'.map a.eval++pQ:=by rw[jC,c2,l2]
 rw[uE] at rZ;refine⟨f,_,hrun,rZ.mono ?_⟩;rintro e w' ⟨r,ps,aM,hD,hk⟩;have hin:∀b k,aM b k->b<w'.heap.size:=λb k hz=>hD.all.cL b k (.inl hz);have kL:∀b k,(∃m∈ms,m.fp b k)->(∀t,¬(G1 t).fp b k)/\¬zl b k/\¬c.zb b k:=λb k ⟨m,hm,hf⟩=>⟨λt=>(hT.all m hm).2.1 t b k hf,(hT.all m hm).2.2.1 b k hf⟩;have lp:∀b k,(∃x∈cs++l,x.fp b k)->∃m∈ms,m.fp b k:=λb k ⟨x,hx,hf⟩=>cx x hx b k hf;have A0:∀b k,aM b k->zl b k\/(∃m∈ms,m.fp b k)\/w.heap.size<=b:=λb k hz=>(hD.tM b k hz).imp id λhh=>hh.imp (lp b k) id
 have hi:=hT.inv.Qa hD.ext (λb k hs=>kL b k (lp b k hs)) hD.tL (λb k hz=>⟨hin b k hz,λt hf=>by
  rcases A0 b k hz with hz|hm|hb;·exact(hT.inv.fz t b k hf).1 hz
  ·exact(kL b k hm).1 t hf
  ·have:=C.fK _ (hT.inv.ok t) b k hf;omega⟩)
 have kM:∀b k,(∃m∈ms,m.fp b k)->∃t,(G t).fp b k:=λb k ⟨m,hm,hf⟩=>(hT.all m hm).2.2.2 b k hf;have h2:St c G1 aM (bX as s).2 a w':=h.after hi hT.val hD.ext (λb k hs=>kM b k (lp b k hs)) (λt b k hf=>.inl ⟨t,hT.mono t b k hf⟩) hD.tL (λb k hz=>(A0 b k hz).imp id λhh=>hh.imp (kM b k) id);have hrd:∀b k,r.fp b k->(∃m∈ms,m.fp b k)\/w.heap.size<=b:=λb k hf=>(hD.dom r (bH ..) b k hf).imp (lp b k) id
 obtain⟨G3,h3⟩:=h2.result (x:=r) o.dst hn (hD.all.ok r (bH ..)) (hD.all.bare r (bH ..)) (λt b k hf hf'=>by
   rcases hrd b k hf with hm|hb;·exact(kL b k hm).1 t hf'
   ·have:=C.fK _ (hT.inv.ok t) b k hf';omega) (λb k hf=>⟨(hD.all.fz r (bH ..) b k hf).1,λhz=>by
   rcases hrd b k hf with hm|hb;·exact(kL b k hm).2.2 hz
   ·have:=hT.inv.cL b k (.inr hz);omega⟩) (λb k hf=>by
   rcases hrd b k hf with hm|hb;·obtain⟨t,ht⟩:=kM b k hm;exact h.tr.dom t b k ht
   ·exact .inr (e8 h.tr.ext.size hb))
 refine⟨r.val,hD.ends,λL1=>hD.ext.mono λb k hs _=>?_,G3,aM,_,hk,h3⟩;obtain⟨m,hm,hf⟩:=lp b k hs;have hd:=Nh s (hq L1) m.er (by rw[<-g1];exact fR hm);cases m<;>first|exact hf|(simp[C.er] at hd)
end
end M
namespace M
open Go Go.RowKit
variable [Bs]
structure fq (w w':World) (zl aM zb:Nat->Nat->Prop) (G:Nat->C) (r:Nat) (p:Path) (D y q:C) (S M:Nat->Nat->Prop):Prop where
 sub:(G r).sub p=some D
 yD:∀b k,y.fp b k->D.fp b k
 ext:Ext S w w'
 sC:∀b k,S b k->M b k\/y.fp b k
 yA:∀b k,M b k->(∀t,¬(G t).fp b k)/\¬zl b k/\¬zb b k
 HS:q.ok w' (Zf aM zb)
 bare:q.bare
 val:q.val=y.val
 fp:∀b k,q.fp b k->S b k\/w.heap.size<=b
 qz:∀b k,q.fp b k->¬aM b k
 z1:∀b k,zl b k->aM b k
 z2:∀b k,aM b k->zl b k\/S b k\/w.heap.size<=b
 cL:∀b k,aM b k->b<w'.heap.size
section
variable {w w':World}{zl aM zb:Nat->Nat->Prop}{G:Nat->C}{s:ah}{r:Nat}{p:Path}{D y q:C}{S M:Nat->Nat->Prop}
def fq.DG(h:fq w w' zl aM zb G r p D y q S M)(hi:Inv w zl zb G s){b k:Nat}(hf:D.fp b k):(G r).fp b k:=C.gM p h.sub (hi.ok r) hf
def fq.notM(h:fq w w' zl aM zb G r p D y q S M)(hi:Inv w zl zb G s){b k:Nat}(hf:D.fp b k):¬M b k:=λhm=>(h.yA b k hm).1 r (h.DG hi hf)
def fq.T3(h:fq w w' zl aM zb G r p D y q S M)(hi:Inv w zl zb G s){b k:Nat}(hf:D.fp b k):¬w.heap.size<=b:=λhb=>by have:=C.fK _ (hi.ok r) b k (h.DG hi hf);omega
def fq.qD(h:fq w w' zl aM zb G r p D y q S M)(hi:Inv w zl zb G s){b k:Nat}(hq:q.fp b k)(hf:D.fp b k):y.fp b k:=by
 rcases h.fp b k hq with hs|hb;·exact(h.sC b k hs).resolve_left (h.notM hi hf)
 ·exact(h.T3 hi hf hb).elim
def fq.zD(h:fq w w' zl aM zb G r p D y q S M)(hi:Inv w zl zb G s){b k:Nat}(hz:aM b k)(hf:D.fp b k):y.fp b k:=by
 rcases h.z2 b k hz with hz|hs|hb;·exact((hi.fz r b k (h.DG hi hf)).1 hz).elim
 ·exact(h.sC b k hs).resolve_left (h.notM hi hf)
 ·exact(h.T3 hi hf hb).elim
def fq.SD(h:fq w w' zl aM zb G r p D y q S M)(hi:Inv w zl zb G s){b k:Nat}(hs:S b k)(hf:D.fp b k):y.fp b k:=(h.sC b k hs).resolve_left (h.notM hi hf)
def fq.Z(h:fq w w' zl aM zb G r p D y q S M)(hi:Inv w zl zb G s):∀m b k,Zf zl zb m b k->¬S b k:=λm b k hz hs=>by
 rcases h.sC b k hs with hm|hy
 ·obtain⟨_,a1,a2⟩:=h.yA b k hm;cases m with
  |own=>exact hz
  |sl=>exact a1 hz
  |af=>exact hz.elim a1 a2
 ·exact hi.zP r m b k hz (h.DG hi (h.yD b k hy))
def fq.mono(h:fq w w' zl aM zb G r p D y q S M):∀m b k,Zf zl zb m b k->Zf aM zb m b k:=λm b k hz=>by
 cases m with
 |own=>exact hz
 |sl=>exact h.z1 b k hz
 |af=>exact hz.imp (h.z1 b k) id
def fq.back(h:fq w w' zl aM zb G r p D y q S M)(hi:Inv w zl zb G s){d0:C}(hok:d0.ok w' (Zf aM zb))(hF:C.gx D d0)(hl:C.iA D d0)(hrf:(d0.aB (C.belows r p)).rf λt=>(G t).aB (C.belows r p))(cx:∀b k,d0.fp b k->q.fp b k\/(D.fp b k/\¬y.fp b k))(hz:∀b k,d0.fp b k->¬aM b k):
  ∃G',Inv w' aM zb G' (iJ r p d0.er s)/\(∀t,(G' t).val=(G t).val)/\∀t b k,(G' t).fp b k->q.fp b k\/((∃u,(G u).fp b k)/\¬y.fp b k):=by
 have h1:=hi.fA r p;have hs1:((G r).aB (C.belows r p)).sub p=some (D.aB (C.belows r p)):=C.jv _ p _ _ (hi.ok r) h.sub;have AH:∀t b k,((G t).aB (C.belows r p)).fp b k↔(G t).fp b k:=λt b k=>C.cR _ _ b k
 have hFB:C.gx (D.aB (C.belows r p)) (d0.aB (C.belows r p)):=by
  cases hF with
  |row=>exact .row ..
  |ptr=>exact .ptr ..
 have sg:C.iA (D.aB (C.belows r p)) (d0.aB (C.belows r p)):=by
  cases hF with
  |row m m' sz A len cap e e'=>exact⟨rfl,λh=>h,λh=>h,λh=>h,hl.fits⟩
  |ptr m m' g o n c c'=>exact⟨rfl,λh=>h,λh=>h,λh=>h,hl.fits⟩
 obtain⟨i1,i2,i3⟩:=h1.Kb r p (λt=>C.gI _ _) hs1 hFB sg ⟨hrf,C.gI _ _⟩ h.ext (λb k hs=>by
   rcases h.sC b k hs with hm|hy;·obtain⟨a1,a2,a3⟩:=h.yA b k hm;exact .inr ⟨λt hf=>a1 t ((AH t b k).1 hf),a2,a3⟩
   ·exact .inl ((C.cR _ D b k).2 (h.yD b k hy))) (C.mL _ _ hok) h.z1 (λb k uF=>⟨λhf=>hz b k ((C.cR _ d0 b k).1 hf) uF,h.cL b k uF,λt hf=>by
   refine(C.cR _ D b k).2 ?_;have hf:=(AH t b k).1 hf;rcases h.z2 b k uF with fL|hs|hb;·exact((hi.fz t b k hf).1 fL).elim
   ·rcases h.sC b k hs with hm|hy;·exact((h.yA b k hm).1 t hf).elim
    ·exact h.yD b k hy
   ·have:=C.fK _ (hi.ok t) b k hf;omega⟩) (λb k hf=>by
   rcases(cx b k ((C.cR _ d0 b k).1 hf)).symm with hf|hf;·exact .inl ((C.cR _ D b k).2 hf.1)
   ·rcases h.fp b k hf with hs|hb
    ·rcases h.sC b k hs with hm|hy;·obtain⟨a1,a2,a3⟩:=h.yA b k hm;exact .inr ⟨λt hf=>a1 t ((AH t b k).1 hf),a3⟩
     ·exact .inl ((C.cR _ D b k).2 (h.yD b k hy))
    ·exact .inr ⟨λt hf=>by have:=C.fK _ (hi.ok t) b k ((AH t b k).1 hf);omega,λhz=>by have:=hi.cL b k (.inr hz);omega⟩)
 rw[C.xO] at i1;refine⟨_,i1,λt=>(i2 t).trans (C.jw _ _),λt b k hf=>?_⟩;rcases i3 t b k hf with hf|hf
 ·rcases cx b k ((C.cR _ d0 b k).1 hf) with hf|hf;·exact .inl hf
  ·exact .inr ⟨⟨r,h.DG hi hf.1⟩,hf.2⟩
 ·exact .inr ⟨⟨t,(AH t b k).1 hf.1⟩,λhy=>hf.2 ((C.cR _ D b k).2 (h.yD b k hy))⟩
end
end M
namespace M
open Go Go.RowKit
variable [Bs]
def Ve{α:Type}(f g:Nat->α){nn c n:Nat}(h:c+n<=nn):((List.range nn).map λj=>if c<=j/\j<c+n then g (j - c) else f j)=((List.range nn).map f).take c++(List.range n).map g++((List.range nn).map f).drop (c+n):=by
 apply gP;intro i;rw[C.dn];have uw:(((List.range nn).map f).take c).length=c:=by simp;omega
 have nv:(((List.range nn).map f).take c++(List.range n).map g).length=c+n:=by rw[iN,uw];simp
 by_cases h0:i<nn
 ·rw[aA h0];by_cases h1:i<c;·rw[aE (by omega),og (by omega),og (by omega),PB h1,C.dn,aA h0]
  ·by_cases h2:i<c+n;·rw[aA ⟨by omega,h2⟩,og (by omega),iM (by omega),uw,C.dn,aA (by omega)]
   ·rw[aE (by omega),iM (by omega),nv,pK,C.dn,show c+n+(i - (c+n))=i by omega,aA h0]
 ·rw[aE h0,iM (by omega),nv,pK,C.dn,aE (by omega)]
section
variable {w w':World}{zl aM zb:Nat->Nat->Prop}{G:Nat->C}{s:ah}{r:Nat}{p:Path}{S M:Nat->Nat->Prop}
def fq.ptr{g o nn n c:Nat}{f qf:Nat->C}(h:fq w w' zl aM zb G r p (.ptr .own g o nn f) (.ptr .own g (o+c) n λj=>f (j+c)) (.ptr .own g (o+c) n qf) S M)(hi:Inv w zl zb G s)(hn:c+n<=nn):
  ∃G',Inv w' aM zb G' (iJ r p (.ptr .own (((List.range nn).map λj=>(f j).er).take c++((List.range n).map λj=>(qf j).er)++((List.range nn).map λj=>(f j).er).drop (c+n))) s)/\(∀t,(G' t).val=(G t).val)/\∀t b k,(G' t).fp b k->(C.ptr .own g (o+c) n qf).fp b k\/((∃u,(G u).fp b k)/\¬(C.ptr .own g (o+c) n λj=>f (j+c)).fp b k):=by
 obtain⟨D1,D2,D3,D4⟩:=C.iy p h.sub (hi.ok r);obtain⟨q1,q2,q3,q4⟩:=h.HS;have nw:∀j,j<n->∀b k,(qf j).fp b k->(C.ptr .own g (o+c) n qf).fp b k:=λj hj b k hf=>C.kO (q3 j hj).1 (q3 j hj).2.1 hj hf;have nr:∀j,j<nn->∀b k,(f j).fp b k->(C.ptr .own g o nn f).fp b k:=λj hj b k hf=>C.kO (D3 j hj).1 (D3 j hj).2.1 hj hf;have pX:∀k,o<=k->k<o+nn->(C.ptr .own g o nn f).fp g k:=λk h1 h2=>⟨rfl,.inl ⟨rfl,h1,h2⟩⟩
 have mG:∀k,o<=k->k<o+nn->(C.ptr .own g (o+c) n λj=>f (j+c)).fp g k->o+c<=k/\k<o+c+n:=λk h1 h2 ⟨_,hf⟩=>by
  rcases hf with hf|⟨j,hj,hf⟩;·exact hf.2
  ·exact((D4 (j+c) (by omega) g k hf).1 rfl ⟨rfl,h1,h2⟩).elim
 have nA:∀j,j<nn->¬(c<=j/\j<c+n)->∀b k,(f j).fp b k->¬(C.ptr .own g (o+c) n λj=>f (j+c)).fp b k:=λj hj hne b k hf ⟨_,hf'⟩=>by
  rcases hf' with hf'|⟨j',hj',hf'⟩;·exact(D4 j hj b k hf).1 rfl ⟨hf'.1,by omega,by omega⟩
  ·exact(D4 j hj b k hf).2 (j'+c) (by omega) (by omega) hf'
 let d:Nat->C:=λj=>if c<=j/\j<c+n then qf (j - c) else f j
 have iQ:∀j,c<=j/\j<c+n->d j=qf (j - c):=λj hj=>aA hj;have iR:∀j,¬(c<=j/\j<c+n)->d j=f j:=λj hj=>aE hj
 have hok:(C.ptr .own g o nn d).ok w' (Zf aM zb):=by
  refine⟨λj hj=>⟨?_,λhm=>(hm rfl).elim,λ_=>(h.ext.frozen D2).trans ((D1 j hj).2.2 rfl)⟩,kV D2 h.ext.size,λj hj=>?_,λj hj b k hf=>⟨λ_ hb=>?_,λj' hj' hne=>?_⟩⟩
  ·by_cases hr:c<=j/\j<c+n;·rw[iQ j hr];have:=(q1 (j - c) (by omega)).1;rwa [show o+c+(j - c)=o+j by omega] at this
   ·rw[iR j hr];exact h.ext.cell (λhs=>hr (by have:=mG (o+j) (by omega) (by omega) (h.SD hi hs (pX _ (by omega) (by omega)));omega)) (D1 j hj).1
  ·by_cases hr:c<=j/\j<c+n;·rw[iQ j hr];obtain⟨a1,a2,a3⟩:=q3 (j - c) (by omega);exact⟨a1,a2,a3⟩
   ·rw[iR j hr];obtain⟨a1,a2,a3⟩:=D3 j hj;exact⟨a1,a2,C.gJ h.mono _ (C.fM h.ext (h.Z hi) _ (λb k hf hs=>nA j hj hr b k hf (h.SD hi hs (nr j hj b k hf))) a3)⟩
  ·obtain⟨rfl,dZ,gW⟩:=hb;by_cases hr:c<=j/\j<c+n;·rw[iQ j hr] at hf;have:=mG k dZ gW (h.qD hi (nw _ (by omega) _ _ hf) (pX k dZ gW));exact(q4 (j - c) (by omega) _ k hf).1 rfl ⟨rfl,this.1,this.2⟩
   ·rw[iR j hr] at hf;exact(D4 j hj _ k hf).1 rfl ⟨rfl,dZ,gW⟩
  ·by_cases hr:c<=j/\j<c+n
   ·rw[iQ j hr] at hf;by_cases hr':c<=j'/\j'<c+n;·rw[iQ j' hr'];exact(q4 (j - c) (by omega) b k hf).2 (j' - c) (by omega) (by omega)
    ·rw[iR j' hr'];exact λhf'=>nA j' hj' hr' b k hf' (h.qD hi (nw _ (by omega) _ _ hf) (nr j' hj' b k hf'))
   ·rw[iR j hr] at hf;by_cases hr':c<=j'/\j'<c+n;·rw[iQ j' hr'];exact λhf'=>nA j hj hr b k hf (h.qD hi (nw _ (by omega) _ _ hf') (nr j hj b k hf))
    ·rw[iR j' hr'];exact(D4 j hj b k hf).2 j' hj' hne
 have ahd:=Inv.vL.DH p ((hi.fA r p).ok r) (C.jv (C.belows r p) p _ _ (hi.ok r) h.sub) ((hi.fA r p).rf r)
 obtain⟨G',i1,i2,i3⟩:=h.back hi (d0:=.ptr .own g o nn d) hok (.ptr ..) ⟨rfl,λh=>h,λh=>h,λh=>h,λ_ h=>h⟩ (λj hj=>by
   by_cases hr:c<=j/\j<c+n;·show ((d j).aB _).rf _;rw[iQ j hr];exact C.nS _ _ (C.rB _ _ (h.bare (j - c) (by omega)))
   ·show ((d j).aB _).rf _;rw[iR j hr];exact ahd j hj) (λb k hf=>by
   obtain⟨_,hf|⟨j,hj,hf⟩⟩:=hf
   ·obtain⟨rfl,h1,h2⟩:=hf;by_cases hr:o+c<=k/\k<o+c+n;·exact .inl ⟨rfl,.inl ⟨rfl,hr.1,hr.2⟩⟩
    ·exact .inr ⟨pX k h1 h2,λhy=>hr (mG k h1 h2 hy)⟩
   ·by_cases hr:c<=j/\j<c+n;·rw[iQ j hr] at hf;exact .inl (nw _ (by omega) _ _ hf)
    ·rw[iR j hr] at hf;exact .inr ⟨nr j hj b k hf,nA j hj hr b k hf⟩) (λb k hf hz=>by
   obtain⟨_,hf|⟨j,hj,hf⟩⟩:=hf;·obtain⟨rfl,h1,h2⟩:=hf;have:=mG k h1 h2 (h.zD hi hz (pX k h1 h2));exact h.qz _ k ⟨rfl,.inl ⟨rfl,this.1,this.2⟩⟩ hz
   ·by_cases hr:c<=j/\j<c+n;·rw[iQ j hr] at hf;exact h.qz b k (nw _ (by omega) _ _ hf) hz
    ·rw[iR j hr] at hf;exact nA j hj hr b k hf (h.zD hi hz (nr j hj b k hf)))
 have kI:(C.ptr .own g o nn d).er=.ptr .own (((List.range nn).map λj=>(f j).er).take c++((List.range n).map λj=>(qf j).er)++((List.range nn).map λj=>(f j).er).drop (c+n)):=by rw[<-Ve (λj=>(f j).er) (λj=>(qf j).er) hn];simp only[C.er];congr 1;refine cm λj _=>?_;show (if _ then _ else _:C).er=_;split<;>rfl
 rw[kI] at i1;exact⟨G',i1,i2,i3⟩
def fq.row{z len cap:Nat}{A:Option Ad}{e qe:Nat->Nat->C}(h:fq w w' zl aM zb G r p (.row .own z A len cap e) (.row .own z A len cap e) (.row .own z A len cap qe) S M)(hi:Inv w zl zb G s):
  ∃G',Inv w' aM zb G' (iJ r p (.row .own z (dO z len qe)) s)/\(∀t,(G' t).val=(G t).val)/\∀t b k,(G' t).fp b k->(C.row .own z A len cap qe).fp b k\/((∃u,(G u).fp b k)/\¬(C.row .own z A len cap e).fp b k):=
 h.back hi (d0:=.row .own z A len cap qe) h.HS (.row ..) ⟨rfl,λh=>h,λh=>h,λh=>h,λ_ h=>h⟩ trivial (λb k hf=>.inl hf) (λb k hf=>h.qz b k hf)
def fq.elem{z g o len cap n c i:Nat}{e:Nat->Nat->C}{qf:Nat->C}(h:fq w w' zl aM zb G r p (.row .own z (some (g,o,none)) len cap e) (.ptr .own g (o+i*z+c) n λj=>e i (j+c)) (.ptr .own g (o+i*z+c) n qf) S M)(hi:Inv w zl zb G s)(AK:i<len)(hn:c+n<=z)(hqs:∀j,j<n->(qf j).cZ):
  ∃G',Inv w' aM zb G' (iJ r p (.row .own z ((dO z len e).set i (((List.range z).map λj=>(e i j).er).take c++((List.range n).map λj=>(qf j).er)++((List.range z).map λj=>(e i j).er).drop (c+n)))) s)/\(∀t,(G' t).val=(G t).val)/\∀t b k,(G' t).fp b k->(C.ptr .own g (o+i*z+c) n qf).fp b k\/((∃u,(G u).fp b k)/\¬(C.ptr .own g (o+i*z+c) n λj=>e i (j+c)).fp b k):=by
 obtain⟨D1,D2,D3,D4,D5⟩:=C.iy p h.sub (hi.ok r);obtain⟨q1,q2,q3,q4⟩:=h.HS;have nw:∀j,j<n->∀b k,(qf j).fp b k->(C.ptr .own g (o+i*z+c) n qf).fp b k:=λj hj b k hf=>C.kO (q3 j hj).1 (q3 j hj).2.1 hj hf;have nr:∀i' j,i'<len->j<z->∀b k,(e i' j).fp b k->(C.row .own z (some (g,o,none)) len cap e).fp b k:=λi' j hi' hj b k hf=>C.ke (D3 i' j hi' hj).1 (D3 i' j hi' hj).2.2.1 hi' hj hf;have pX:∀k,(C.row .own z (some (g,o,none)) len cap e).fp g k:=λk=>⟨rfl,.inl ⟨o,rfl⟩⟩
 have mG:∀k,(C.ptr .own g (o+i*z+c) n λj=>e i (j+c)).fp g k->o+i*z+c<=k/\k<o+i*z+c+n:=λk ⟨_,hf⟩=>by
  rcases hf with hf|⟨j,hj,hf⟩;·exact hf.2
  ·exact((D5 i (j+c) AK (by omega) g k hf).1 rfl o rfl).elim
 have nA:∀i' j,i'<len->j<z->¬(i'=i/\c<=j/\j<c+n)->∀b k,(e i' j).fp b k->¬(C.ptr .own g (o+i*z+c) n λj=>e i (j+c)).fp b k:=λi' j hi' hj hne b k hf ⟨_,hf'⟩=>by
  rcases hf' with hf'|⟨j',hj',hf'⟩;·exact(D5 i' j hi' hj b k hf).1 rfl o (by rw[hf'.1])
  ·exact(D5 i' j hi' hj b k hf).2 i (j'+c) AK (by omega) (λe=>by simp only[jW] at e;exact hne ⟨e.1,by omega,by omega⟩) hf'
 let d:Nat->Nat->C:=λi' j=>if i'=i/\c<=j/\j<c+n then qf (j - c) else e i' j
 have iQ:∀i' j,i'=i/\c<=j/\j<c+n->d i' j=qf (j - c):=λi' j hj=>aA hj;have iR:∀i' j,¬(i'=i/\c<=j/\j<c+n)->d i' j=e i' j:=λi' j hj=>aE hj
 have hok:(C.row .own z (some (g,o,none)) len cap d).ok w' (Zf aM zb):=by
  refine⟨D1,λi' j hi' hj=>⟨g,o,rfl,?_,λhm=>(hm rfl).elim⟩,λi' j hi' hj=>?_,λ_=>?_,λi' j hi' hj b k hf=>⟨λ_ o' hA=>?_,λi2 j2 hi2 hj2 hne=>?_⟩⟩
  ·by_cases hr:i'=i/\c<=j/\j<c+n;·rw[iQ i' j hr];obtain⟨rfl,h1,h2⟩:=hr;have:=(q1 (j - c) (by omega)).1;rwa [show o+i'*z+c+(j - c)=o+i'*z+j by omega] at this
   ·rw[iR i' j hr];obtain⟨g',o',hA,hcl,_⟩:=D2 i' j hi' hj;injection hA with hA
    injection hA with e1 e2
    injection e2 with e2
    subst e1;subst e2;refine h.ext.cell (λhs=>hr ?_) hcl;have:=mG _ (h.SD hi hs (pX _));have hj0:o+i'*z+j - (o+i*z)<z:=by omega
    have:=Nr hj hj0 (show i'*z+j=i*z+(o+i'*z+j - (o+i*z)) by omega);exact⟨this.1,by omega,by omega⟩
  ·by_cases hr:i'=i/\c<=j/\j<c+n;·rw[iQ i' j hr];obtain⟨a1,a2,a3⟩:=q3 (j - c) (by omega);exact⟨a1,hqs _ (by omega),a2,a3⟩
   ·rw[iR i' j hr];obtain⟨a1,a2,a3,a4⟩:=D3 i' j hi' hj;exact⟨a1,a2,a3,C.gJ h.mono _ (C.fM h.ext (h.Z hi) _ (λb k hf hs=>nA i' j hi' hj hr b k hf (h.SD hi hs (nr i' j hi' hj b k hf))) a4)⟩
  ·rcases D4 rfl with ⟨hA,_⟩|⟨g',o',arr,t,fz,hA,hh,hsz,hfr⟩;·cases hA
   ·injection hA with hA
    injection hA with e1 e2
    injection e2 with e2
    subst e1;subst e2;have hg:g<w.heap.size:=(kz.1 hh).1;rcases h.ext.block g hg with e'|⟨a1,a2,t',mA,r1,r2,r3,r4⟩;·exact .inr ⟨g,o,arr,t,fz,rfl,e'.trans hh,hsz,λk hk hk'=>(h.ext.frozen hg).trans (hfr k hk hk')⟩
    ·rw[hh] at r1;injection r1 with r1
     injection r1 with s1 s2 s3
     subst s1;exact .inr ⟨g,o,a2,t',mA,rfl,r2,by omega,λk hk hk'=>(h.ext.frozen hg).trans (hfr k hk hk')⟩
  ·injection hA with hA
   injection hA with e1 e2
   subst e1;by_cases hr:i'=i/\c<=j/\j<c+n;·rw[iQ i' j hr] at hf;have:=mG k (h.qD hi (nw _ (by omega) _ _ hf) (pX k));exact(q4 (j - c) (by omega) _ k hf).1 rfl ⟨rfl,this.1,this.2⟩
   ·rw[iR i' j hr] at hf;exact(D5 i' j hi' hj _ k hf).1 rfl o rfl
  ·by_cases hr:i'=i/\c<=j/\j<c+n
   ·rw[iQ i' j hr] at hf;by_cases hr':i2=i/\c<=j2/\j2<c+n;·rw[iQ i2 j2 hr'];exact(q4 (j - c) (by omega) b k hf).2 (j2 - c) (by omega) (λe=>hne (by simp only[jW];exact⟨by rw[hr.1,hr'.1],by omega⟩))
    ·rw[iR i2 j2 hr'];exact λhf'=>nA i2 j2 hi2 hj2 hr' b k hf' (h.qD hi (nw _ (by omega) _ _ hf) (nr i2 j2 hi2 hj2 b k hf'))
   ·rw[iR i' j hr] at hf;by_cases hr':i2=i/\c<=j2/\j2<c+n;·rw[iQ i2 j2 hr'];exact λhf'=>nA i' j hi' hj hr b k hf (h.qD hi (nw _ (by omega) _ _ hf') (nr i' j hi' hj b k hf))
    ·rw[iR i2 j2 hr'];exact(D5 i' j hi' hj b k hf).2 i2 j2 hi2 hj2 hne
 obtain⟨G',i1,i2,i3⟩:=h.back hi (d0:=.row .own z (some (g,o,none)) len cap d) hok (.row ..) ⟨rfl,λh=>h,λh=>h,λh=>h,λ_ h=>h⟩ trivial (λb k hf=>by
   obtain⟨_,hf|⟨i',j,hi',hj,hf⟩⟩:=hf
   ·obtain⟨o',hA⟩:=hf;injection hA with hA
    injection hA with e1 e2
    subst e1;by_cases hr:o+i*z+c<=k/\k<o+i*z+c+n;·exact .inl ⟨rfl,.inl ⟨rfl,hr.1,hr.2⟩⟩
    ·exact .inr ⟨pX k,λhy=>hr (mG k hy)⟩
   ·by_cases hr:i'=i/\c<=j/\j<c+n;·rw[iQ i' j hr] at hf;exact .inl (nw _ (by omega) _ _ hf)
    ·rw[iR i' j hr] at hf;exact .inr ⟨nr i' j hi' hj b k hf,nA i' j hi' hj hr b k hf⟩) (λb k hf hz=>by
   obtain⟨_,⟨o',hA⟩|⟨i',j,hi',hj,hf⟩⟩:=hf
   ·injection hA with hA
    injection hA with e1 e2
    subst e1;have:=mG k (h.zD hi hz (pX k));exact h.qz _ k ⟨rfl,.inl ⟨rfl,this.1,this.2⟩⟩ hz
   ·by_cases hr:i'=i/\c<=j/\j<c+n;·rw[iQ i' j hr] at hf;exact h.qz b k (nw _ (by omega) _ _ hf) hz
    ·rw[iR i' j hr] at hf;exact nA i' j hi' hj hr b k hf (h.zD hi hz (nr i' j hi' hj b k hf)))
 have kI:(C.row .own z (some (g,o,none)) len cap d).er=.row .own z ((dO z len e).set i (((List.range z).map λj=>(e i j).er).take c++((List.range n).map λj=>(qf j).er)++((List.range z).map λj=>(e i j).er).drop (c+n))):=by
  rw[<-Ve (λj=>(e i j).er) (λj=>(qf j).er) hn];simp only[C.er];congr 1;symm;refine C.Cm _ _ len i _ λi' hi'=>?_;split;·rename_i hii;subst hii;refine cm λj _=>?_;show (if _ then _ else _:C).er=_;simp only[true_and];split<;>rfl
  ·rename_i hii;refine cm λj _=>?_;show (if _ then _ else _:C).er=_;rw[aE (λhh=>hii hh.1)]
 rw[kI] at i1;exact⟨G',i1,i2,i3⟩
end
end M
namespace M
open Go Go.RowKit
variable [Bs]
section
variable {P:Program}{c:Ctx}{G:Nat->C}{zl:Nat->Nat->Prop}{s:ah}{a:Act}{w:World}{o:Oper}{K:ah->Prop}
def Ni:∀{l':List Operand} {l:List (AV×PM)} {x:AV} {n:Nat},gT l' l=true->ei l=some (x,n)->∃i x',l[i]?=some (x,PM.mut n)/\l'[i]?=some x'/\aR x' x=true/\(∀(j:Nat) (x2:AV) (n2:Nat),l[j]?=some (x2,PM.mut n2)->j=i)/\∀ps:List X,kQ l ps=ps.getD i .dead
 |[],[],x,n,_,h=>by cases h
 |VV::l',(x0,pm)::l,x,n,hc,h=>by
  simp only[gT,aC] at hc
  have other:ei l=some (x,n)->(∀n2,pm≠PM.mut n2)->(∀(y:X) ps,kQ ((x0,pm)::l) (y::ps)=kQ l ps)->(kQ ((x0,pm)::l) []=.dead)->∃i x',((x0,pm)::l)[i]?=some (x,PM.mut n)/\(VV::l')[i]?=some x'/\aR x' x=true/\(∀(j:Nat) (x2:AV) (n2:Nat),((x0,pm)::l)[j]?=some (x2,PM.mut n2)->j=i)/\∀ps:List X,kQ ((x0,pm)::l) ps=ps.getD i .dead:=λhm hpm h1 h2=>by
   obtain⟨i,x',i1,i2,i3,i4,i5⟩:=Ni hc.2 hm;refine⟨i+1,x',by simpa using i1,by simpa using i2,i3,λj x2 n2 hj=>?_,λps=>?_⟩
   ·cases j with
    |zero=>simp only[zL,dX,jW] at hj;exact(hpm n2 hj.2).elim
    |succ j=>rw[i4 j x2 n2 (by simpa using hj)]
   ·cases ps with
    |nil=>rw[h2];rfl
    |cons y ps=>rw[h1,i5];rfl
  cases pm with
  |mv=>exact other h (λ_ e=>by cases e) (λ_ _=>rfl) rfl
  |af=>exact other h (λ_ e=>by cases e) (λ_ _=>rfl) rfl
  |gS m=>exact other h (λ_ e=>by cases e) (λ_ _=>rfl) rfl
  | «mut» m=>
   simp only[ei,dX,jW] at h;obtain⟨rfl,rfl⟩:=h;refine⟨0,VV,rfl,rfl,hc.1.1,λj x2 n2 hj=>?_,λps=>?_⟩
   ·cases j with
    |zero=>rfl
    |succ j=>
     exfalso;have hno:ei l=none:=by simpa using hc.1.2
     have:∀{l:List (AV×PM)} {i:Nat},l[i]?=some (x2,PM.mut n2)->ei l≠none:=by
      intro l;induction l with
      |nil=>intro i hi;simp at hi
      |cons p l ih=>
       intro i hi;obtain⟨y,pm⟩:=p;cases i with
       |zero=>simp only[zL,dX,jW] at hi;obtain⟨_,rfl⟩:=hi;simp[ei]
       |succ i=>have:=ih (by simpa using hi);cases pm<;>simp[ei]<;>first|exact this|skip
     exact this (by simpa using hj) hno
   ·cases ps<;>rfl
 |[],_::_,_,_,hc,_=>by cases hc
 |_::_,[],_,_,hc,_=>by cases hc
def Nj(h:St c G zl s a w){l':List Operand}{as:List (AV×PM)}(hc:gT l' as=true){x:AV}{n:Nat}(oB:ei as=some (x,n)){f:FuncId}{fv:Option AV}(hop:tN P c zl o a w l' f fv)(hn:∀n,o.dst=some n->n<c.nt)
  {ms:List C}{G1:Nat->C}{sm:ah}(hT:bM w zl c.zb G ms G1 sm)(g2:MV a l' as ms)(hmb:∀m∈ms,m.bare){r:Nat}{p:Path}{D y:C}(hsub:(G1 r).sub p=some D)(qb:y.ok w (Zf zl c.zb))(FQ:y.bare)(oD:∀(i:Nat) (x':Operand),as[i]?=some (x,PM.mut n)->l'[i]?=some x'->y.val=a.eval x')(L5:∀b k,y.fp b k->D.fp b k)
  (AD:rE (iX r p .dead sm) fv f){back:X->(ah->Prop)->Prop}(hk:AC P f (gy (iX r p .dead sm) y.er as (ms.map C.er)++oq (iX r p .dead sm) fv) λq ps=>back (kQ as ps) λs'=>K (fV o.dst q s'))
  (ahl:∀{w':World} {aM:Nat->Nat->Prop} {S M:Nat->Nat->Prop} {q:C},fq w w' zl aM c.zb G1 r p D y q S M->∀Kx,back q.er Kx->∃s',Kx s'/\∃G',Inv w' aM c.zb G' s'/\(∀t,(G' t).val=(G1 t).val)/\∀t b k,(G' t).fp b k->q.fp b k\/((∃u,(G1 u).fp b k)/\¬y.fp b k)):q9 P c o a w K false:=by
 obtain⟨pQ,hrun,ahp⟩:=hop.run;have h1:=Jm h hT;obtain⟨D',G2,t1,t2,t3,t4,t5,t6,t7,t8,t9,t10,t11,t12⟩:=h1.inv.vL r p D hsub;have h2:St c G2 zl (iX r p .dead sm) a w:=h1.move t3 t10 (Ext.refl (λ_ _=>False) w) (λ_ _ hs=>hs.elim) (λt b k hf=>.inl ⟨t,t11 t b k hf⟩);have ah5:∀b k,y.fp b k->∀t,¬(G2 t).fp b k:=λb k hf t=>t8 t b k ((t12 b k).2 (L5 b k hf));have FP:∀b k,y.fp b k->(G1 r).fp b k:=λb k hf=>C.gM p hsub (hT.inv.ok r) (L5 b k hf);have jN:∀b k,c.zb b k->(c.zb b k\/∃t,(G2 t).fp b k):=λb k hz=>.inl hz;have su:∀t b k,(G2 t).fp b k->(c.zb b k\/∃t,(G2 t).fp b k):=λt b k hf=>.inr ⟨t,hf⟩;obtain⟨l,l1,l2,l3⟩:=ahp (bJ:=λb k=>c.zb b k\/∃t,(G2 t).fp b k) h2 jN su AD
 have S5:∀m b k,Zf zl c.zb m b k->Zf zl (λb k=>c.zb b k\/∃t,(G2 t).fp b k) m b k:=λm b k hz=>by
  cases m with
  |own=>exact hz
  |sl=>exact hz
  |af=>exact hz.imp id .inl
 obtain⟨i,x',i1,i2,i3,i4,i5⟩:=Ni hc oB;have Tc:=oD i x' i1 i2
 obtain⟨cs,c1,c2,c3,c4⟩:=ED (bJ:=λb k=>c.zb b k\/∃t,(G2 t).fp b k) h2 jN su (y:=y) (C.gJ S5 _ qb) FQ hc g2 (λx hx=>⟨C.gJ S5 _ (hT.all x hx).1,hmb x hx,λb k hf hf'=>(hT.all x hx).2.1 r b k hf (FP b k hf')⟩) hT.apart (λj x2 n2 x2' hj hj'=>by
  have:=i4 j x2 n2 hj;subst this;rw[i2] at hj';injection hj' with hj'
  rw[<-hj'];exact Tc)
 have cx:∀x∈cs++l,∀b k,x.fp b k->(∃m∈ms,m.fp b k)\/y.fp b k:=λx hx b k hf=>by
  rcases gO.1 hx with hx|hx;·exact((c3 x hx).2.2 b k hf).imp id λhh=>hh.2
  ·exact((l3 x hx).cY b k hf).elim
 have kL:∀b k,(∃m∈ms,m.fp b k)->(∀t,¬(G1 t).fp b k)/\¬zl b k/\¬c.zb b k:=λb k ⟨m,hm,hf⟩=>⟨λt=>(hT.all m hm).2.1 t b k hf,(hT.all m hm).2.2.1 b k hf⟩
 have hA:qX w zl (λb k=>c.zb b k\/∃t,(G2 t).fp b k) (cs++l):={
  ok:=λx hx=>(gO.1 hx).elim (λhx=>(c3 x hx).1) λhx=>(l3 x hx).ok
  bare:=λx hx=>(gO.1 hx).elim (λhx=>(c3 x hx).2.1) λhx=>(l3 x hx).bare
  fz:=λx hx b k hf=>by
   rcases cx x hx b k hf with hm|hy;·obtain⟨a1,a2,a3⟩:=kL b k hm;exact⟨a2,λhz=>hz.elim a3 λ⟨t,ht⟩=>a1 t (t11 t b k ht)⟩
   ·have:=hT.inv.fz r b k (FP b k hy);exact⟨this.1,λhz=>hz.elim this.2 λ⟨t,ht⟩=>ah5 b k hy t ht⟩
  cL:=λb k hz=>by
   rcases hz with hz|hz|⟨t,ht⟩;·exact hT.inv.cL b k (.inl hz)
   ·exact hT.inv.cL b k (.inr hz)
   ·exact C.fK _ (t3.ok t) b k ht
  apart:=vQ.2 ⟨c4,ry λx hx=>(l3 x hx).cY,λx _ y hy b k _ hf=>(l3 y hy).cY b k hf⟩}
 have rZ:=hk w zl _ (cs++l) (by rw[jC,c1,l1]) hA (h.Lx _ λb k hz=>.inl hz);have uE:(cs++l).map C.val=l'.map a.eval++pQ:=by rw[jC,c2,l2]
 rw[uE] at rZ;refine⟨f,_,hrun,rZ.mono ?_⟩;rintro e w' ⟨r0,ps,aM,hD,hkk⟩;have AK:i<ps.length:=by have h1:=dF List.length hD.vals;have h2:=dF List.length uE;simp only[dH,iN] at h1 h2;have h3:=(aK.1 i2).1;omega
 have hq:ps[i]?=some ps[i]:=cv AK;have S2:ps[i]∈ps:=bh AK
 have hqv:(ps[i]).val=y.val:=by
  have:(ps.map C.val)[i]?=(l'.map a.eval++pQ)[i]?:=by rw[hD.vals,uE]
  rw[dm,hq,og (by simpa using (aK.1 i2).1),dm,i2] at this;simp only[cq,dX] at this;rw[this,Tc]
 have hmp:kQ as (ps.map C.er)=(ps[i]).er:=by rw[i5];exact pU (by rw[dm,hq];rfl) _
 rw[hmp] at hkk;have FM:=cl r0 S2
 have SF:fq w w' zl aM c.zb G1 r p D y ps[i] (λb k=>∃x∈cs++l,x.fp b k) (λb k=>∃m∈ms,m.fp b k):={
  sub:=hsub
  yD:=L5
  ext:=hD.ext
  sC:=λb k ⟨x,hx,hf⟩=>cx x hx b k hf
  yA:=kL
  HS:=C.gJ (λm b k hz=>by
   cases m with
   |own=>exact hz
   |sl=>exact hz
   |af=>exact hz.imp id λh=>h.elim) _ (hD.all.ok _ FM)
  bare:=hD.all.bare _ FM
  val:=hqv
  fp:=λb k hf=>hD.dom _ FM b k hf
  qz:=λb k hf=>(hD.all.fz _ FM b k hf).1
  z1:=hD.tL
  z2:=hD.tM
  cL:=λb k hz=>hD.all.cL b k (.inl hz)}
 obtain⟨s',hKs,G',j1,j2,j3⟩:=ahl SF _ hkk;have kM:∀b k,(∃m∈ms,m.fp b k)->∃t,(G t).fp b k:=λb k ⟨m,hm,hf⟩=>(hT.all m hm).2.2.2 b k hf
 have rW:∀b k,(∃x∈cs++l,x.fp b k)->∃t,(G t).fp b k:=λb k ⟨x,hx,hf⟩=>by
  rcases cx x hx b k hf with hm|hy;·exact kM b k hm
  ·exact⟨r,hT.mono r b k (FP b k hy)⟩
 have h3:St c G' aM s' a w':=h.after j1 (λt=>(j2 t).trans (hT.val t)) hD.ext rW (λt b k hf=>by
   rcases j3 t b k hf with hq|⟨⟨u,hu⟩,_⟩;·exact(SF.fp b k hq).imp (rW b k) id
   ·exact .inl ⟨u,hT.mono u b k hu⟩) hD.tL (λb k hz=>(hD.tM b k hz).imp id λhh=>hh.imp (rW b k) id)
 have hrm:=bH (a:=r0) (l:=ps)
 obtain⟨G3,h4⟩:=h3.result (x:=r0) o.dst hn (hD.all.ok r0 hrm) (hD.all.bare r0 hrm) (λt b k hf hf'=>by
   rcases j3 t b k hf' with hq|⟨⟨u,hu⟩,hny⟩;·exact(fG.1 hD.all.apart).1 _ S2 b k hf hq
   ·rcases hD.dom r0 hrm b k hf with ⟨x,hx,hf⟩|hb
    ·rcases cx x hx b k hf with hm|hy;·exact(kL b k hm).1 u hu
     ·exact hny hy
    ·have:=C.fK _ (hT.inv.ok u) b k hu;omega) (λb k hf=>⟨(hD.all.fz r0 hrm b k hf).1,λhz=>by
   rcases hD.dom r0 hrm b k hf with ⟨x,hx,hf⟩|hb
   ·rcases cx x hx b k hf with hm|hy;·exact(kL b k hm).2.2 hz
    ·exact(hT.inv.fz r b k (FP b k hy)).2 hz
   ·have:=hT.inv.cL b k (.inr hz);omega⟩) (λb k hf=>by
   rcases hD.dom r0 hrm b k hf with hs|hb;·obtain⟨t,ht⟩:=rW b k hs;exact h.tr.dom t b k ht
   ·exact .inr (e8 h.tr.ext.size hb))
 exact⟨r0.val,hD.ends,(λh=>by cases h),G3,aM,_,hKs,h4⟩
end
end M
namespace M
open Go Go.RowKit
variable [Bs]
section
variable {P:Program}{c:Ctx}{G:Nat->C}{zl:Nat->Nat->Prop}{s:ah}{a:Act}{w:World}{o:Oper}{K:ah->Prop}
def Lf{x:C}{m:Md}{xs:List X}(h:x.er=.ptr m xs):∃g o n f,x=.ptr m g o n f/\xs=(List.range n).map λj=>(f j).er:=by
 cases x with
 |ptr m' g o n f=>
  simp only[C.er] at h;injection h with h1 h2
  subst h1;exact⟨g,o,n,f,rfl,h2.symm⟩
 |_=>simp[C.er] at h
def akO{m m':Md}{z z' len len' cap cap':Nat}{A A':Option Ad}{e e':Nat->Nat->C}(h:(C.row m z A len cap e).val=(C.row m' z' A' len' cap' e').val):A=A'/\len=len'/\cap=cap':=by
 simp only[C.val] at h;injection h with h1 h2 h3
 refine⟨?_,h2,h3⟩;cases A with
 |none=>cases A' with
  |none=>rfl
  |some q=>simp at h1
 |some q=>cases A' with
  |none=>simp at h1
  |some q'=>
   simp only[cq,dX,Addr.mk.injEq,and_true] at h1
   rw[show q=q' from Prod.ext h1.1 (Prod.ext h1.2.1 h1.2.2)]
def Uv(n:Nat)(f:Nat->C){k sz:Nat}(h:k+sz<=n):((List.range sz).map λj=>(f (j+k)).er)=(((List.range n).map λj=>(f j).er).drop k).take sz:=by rw[<-lW,oV,<-pH,<-pH,vT,kW (by omega),cS];rfl
def QZ(h:St c G zl s a w){l':List Operand}{as:List (AV×PM)}(hc:gT l' as=true){x:AV}{n:Nat}(oB:ei as=some (x,n)){f:FuncId}{fv:Option AV}(hop:tN P c zl o a w l' f fv)(hn:∀n,o.dst=some n->n<c.nt)(hK:ua P f o.dst as fv s K):q9 P c o a w K false:=by
 obtain⟨k1,k2⟩:=hK;rw[oB] at k2;simp only at k2;obtain⟨ms,G1,g1,g2,hT⟩:=HK hc h;have h1:=Jm h hT;rw[<-g1] at k1 k2;have hmb:∀m∈ms,m.bare:=λm hm=>(C.me m).1 (C.wF.1 k1 _ (fR hm));obtain⟨i,x',i1,i2,i3,i4,i5⟩:=Ni hc oB;obtain⟨u,u1,u2,u3⟩:=cr h1 i3;rw[<-u1] at k2
 have hval:∀y:C,y.val=u.val->∀(j:Nat) (x2:Operand),as[j]?=some (x,PM.mut n)->l'[j]?=some x2->y.val=a.eval x2:=λy hy j x2 hj hj'=>by
  have:=i4 j x n hj;subst this;rw[i2] at hj';injection hj' with hj'
  rw[hy,u2,hj']
 cases u with
 |ref v r p=>
  obtain⟨y',z',hs,hF,hv,m,z1,A,len,cap,e,rfl⟩:=u3.rf;cases hF with
  |row m m' sz' A len cap e e'=>
   simp only[C.er,placeOf,yp] at k2;split at k2
   ·rename_i z xs hlk;obtain⟨k2,k3,k4⟩:=k2;simp only[look] at hlk;rw[<-h1.inv.er,C.gL,hs] at hlk;simp only[cq,dX] at hlk;obtain⟨A2,asy,cap2,e2,he,rfl⟩:=Am hlk;injection he with b1 b2 b3 b4 b5 b6
    subst b1;subst b2;subst b3;subst b4;subst b5;subst b6;have hok:=C.iy p hs (h1.inv.ok r)
    refine Nj h hc oB hop hn hT g2 hmb hs (y:=.row .own z1 A len cap e') (back:=λy Kx=>match y with
     |.row .own z' ys=>z'=z1/\Kx (iJ r p (.row .own z1 ys) (bX as s).2)
     |_=>False) hok trivial (hval _ hv) (λb k hf=>hf) k3 (by rw[hlk];exact k4) λ{w' aM S M q} hM Kx hb=>?_
    split at hb;·rename_i z' ys hq;obtain⟨rfl,hb⟩:=hb;obtain⟨A3,asz,aqQ,e3,rfl,rfl⟩:=Am hq;obtain⟨c1,c2,c3⟩:=akO hM.val;subst c1;subst c2;subst c3;obtain⟨G',j1,j2,j3⟩:=hM.row h1.inv;exact⟨_,hb,G',j1,j2,j3⟩
    ·exact hb.elim
   ·exact k2.elim
 |az v r p i k=>
  obtain⟨D,hs,hp⟩:=u3.rf;have hok:=C.iy p hs (h1.inv.ok r);simp only[C.er,placeOf,yp] at k2;have hlk:look (bX as s).2 r p=some D.er:=by simp only[look];rw[<-h1.inv.er,C.gL,hs];rfl
  rw[hlk] at k2;rcases hp with ⟨m,z,g,o',len,cap,e,rfl,rfl⟩|⟨m,g,o',nn,f',rfl,rfl,rfl⟩
  ·simp only[C.er] at k2;cases m with
   |own=>
    simp only[C.dn] at k2;split at k2
    ·rename_i e0 lz;split at lz
     ·rename_i hi;injection lz with lz
      obtain⟨k0,k2,k3,k4⟩:=k2;have hkn:k+n<=z:=by rw[<-lz] at k0;simpa using k0
      obtain⟨D1,D2,D3,D4,D5⟩:=hok;have AY:(C.ptr .own g (o'+i*z+k) n λj=>e i (j+k)).er=.ptr .own ((e0.drop k).take n):=by rw[<-lz,<-Uv z (λj=>e i j) hkn];rfl
      have hfr:∀j,j<z->w.frozen? ⟨g,o'+i*z+j,none⟩=false/\g<w.heap.size:=λj hj=>by
       rcases D4 rfl with ⟨hA,_⟩|⟨g',o2,arr,t,fz,hA,hh,hsz,hfr⟩;·cases hA
       ·injection hA with hA
        injection hA with e1 e2
        injection e2 with e2
        subst e1;subst e2;refine⟨hfr _ (by omega) ?_,(kz.1 hh).1⟩;have:(i+1)*z<=cap*z:=pI _ (by omega);rw[fH] at this;omega
      have mD:g<w.heap.size:=by
       rcases D4 rfl with ⟨hA,_⟩|⟨g',o2,arr,t,fz,hA,hh,hsz,hfr⟩;·cases hA
       ·injection hA with hA
        injection hA with e1 e2
        subst e1;exact(kz.1 hh).1
      have qb:(C.ptr .own g (o'+i*z+k) n λj=>e i (j+k)).ok w (Zf zl c.zb):=by
       refine⟨λj hj=>⟨?_,λhm=>(hm rfl).elim,λ_=>?_⟩,mD,λj hj=>?_,λj hj b k' hf=>⟨λ_ hb=>?_,λj' hj' hne=>?_⟩⟩
       ·obtain⟨g',o2,hA,hcl,_⟩:=D2 i (j+k) hi (by omega);injection hA with hA
        injection hA with e1 e2
        injection e2 with e2
        subst e1;subst e2;rw[show o'+i*z+k+j=o'+i*z+(j+k) by omega];exact hcl
       ·rw[show o'+i*z+k+j=o'+i*z+(j+k) by omega];exact(hfr (j+k) (by omega)).1
       ·obtain⟨a1,a2,a3,a4⟩:=D3 i (j+k) hi (by omega);exact⟨a1,a3,a4⟩
       ·exact(D5 i (j+k) hi (by omega) b k' hf).1 rfl o' (by rw[hb.1])
       ·exact(D5 i (j+k) hi (by omega) b k' hf).2 i (j'+k) hi (by omega) (λe=>by simp only[jW] at e;omega)
      refine Nj h hc oB hop hn hT g2 hmb hs (back:=λy Kx=>match y with
       |.ptr .own ys=>ys.length=n/\iu ys=true/\Kx (iJ r p (.row .own z ((dO z len e).set i (e0.take k++ys++e0.drop (k+n)))) (bX as s).2)
       |_=>False) qb ((C.me _).1 (by rw[AY];exact k2)) (hval _ rfl) (λb k' hf=>?_) k3 (by rw[AY];exact k4) λ{w' aM S M q} hM Kx hb=>?_
      ·obtain⟨_,hf|⟨j,hj,hf⟩⟩:=hf;·exact⟨rfl,.inl ⟨o',by rw[hf.1]⟩⟩
       ·exact⟨rfl,.inr ⟨i,j+k,hi,by omega,hf⟩⟩
      ·split at hb
       ·rename_i ys hq;obtain⟨dZ,gW,LG⟩:=hb;obtain⟨g3,o3,n3,f3,rfl,rfl⟩:=Lf hq;have lE:=hM.val;simp only[C.val] at lE;injection lE with lE
        injection lE with lE
        injection lE with c1 c2 c3
        subst c1;subst c2;have w9:n3=n:=by simpa using dZ
        subst w9;obtain⟨G',j1,j2,j3⟩:=hM.elem h1.inv hi hkn (λj hj=>Vc (I9 gW _ (bw.2 ⟨j,by simpa using hj,rfl⟩)));rw[lz] at j1;exact⟨_,LG,G',j1,j2,j3⟩
       ·exact hb.elim
     ·cases lz
    ·exact k2.elim
   |sl=>exact k2.elim
   |af=>exact k2.elim
  ·simp only[C.er] at k2;cases m with
   |own=>
    obtain⟨k0,k2,k3,k4⟩:=k2;have hkn:k+n<=nn:=by simpa using k0
    obtain⟨D1,D2,D3,D4⟩:=hok;have AY:(C.ptr .own g (o'+k) n λj=>f' (j+k)).er=.ptr .own ((((List.range nn).map λj=>(f' j).er).drop k).take n):=by rw[<-Uv nn f' hkn];rfl
    have qb:(C.ptr .own g (o'+k) n λj=>f' (j+k)).ok w (Zf zl c.zb):=by
     refine⟨λj hj=>⟨?_,λhm=>(hm rfl).elim,λ_=>?_⟩,D2,λj hj=>D3 (j+k) (by omega),λj hj b k' hf=>⟨λ_ hb=>?_,λj' hj' hne=>?_⟩⟩;·rw[show o'+k+j=o'+(j+k) by omega];exact(D1 (j+k) (by omega)).1
     ·rw[show o'+k+j=o'+(j+k) by omega];exact(D1 (j+k) (by omega)).2.2 rfl
     ·exact(D4 (j+k) (by omega) b k' hf).1 rfl ⟨hb.1,by omega,by omega⟩
     ·exact(D4 (j+k) (by omega) b k' hf).2 (j'+k) (by omega) (by omega)
    refine Nj h hc oB hop hn hT g2 hmb hs (back:=λy Kx=>match y with
     |.ptr .own ys=>ys.length=n/\Kx (iJ r p (.ptr .own (((List.range nn).map λj=>(f' j).er).take k++ys++((List.range nn).map λj=>(f' j).er).drop (k+n))) (bX as s).2)
     |_=>False) qb ((C.me _).1 (by rw[AY];exact k2)) (hval _ rfl) (λb k' hf=>?_) k3 (by rw[AY];exact k4) λ{w' aM S M q} hM Kx hb=>?_
    ·obtain⟨_,hf|⟨j,hj,hf⟩⟩:=hf;·exact⟨rfl,.inl ⟨hf.1,by omega,by omega⟩⟩
     ·exact⟨rfl,.inr ⟨j+k,by omega,hf⟩⟩
    ·split at hb
     ·rename_i ys hq;obtain⟨dZ,LG⟩:=hb;obtain⟨g3,o3,n3,f3,rfl,rfl⟩:=Lf hq;have lE:=hM.val;simp only[C.val] at lE;injection lE with lE
      injection lE with lE
      injection lE with c1 c2 c3
      subst c1;subst c2;have w9:n3=n:=by simpa using dZ
      subst w9;obtain⟨G',j1,j2,j3⟩:=hM.ptr h1.inv hkn;exact⟨_,LG,G',j1,j2,j3⟩
     ·exact hb.elim
   |sl=>exact k2.elim
   |af=>exact k2.elim
 |_=>exact k2.elim
def Lp{f:FuncId}(h:ak P f=true):∃fn,P.funcs[f]?=some fn/\(fn.name== "runtime.NumGoroutine")=false/\fn.body.isNone=false:=by
 unfold ak at h;split at h;·rename_i fn hf;simp only[aC,zG] at h;exact⟨fn,hf,h.1,h.2⟩
 ·cases h
def ajV(h:St c G zl s a w){f:FuncId}{fn:Func}{as':Array Operand}{as:List (AV×PM)}{ts:Array TypeId}(ho:o.op=.call {callee:=.value (.func f),args:=as',argTypes:=ts})(hf:P.funcs[f]?=some fn)(hname:(fn.name== "runtime.NumGoroutine")=false) (hb:fn.body.isNone=false)
  (hn:∀n,o.dst=some n->n<c.nt) (hc:gT as'.toList as=true) (hK:aV P (.call o.dst f as) s K):q9 P c o a w K (jA as):=by
 have hop:tN P c zl o a w as'.toList f none:=⟨[],by simp only[execOp,ho,resolve,Act.eval,Deferred.ofValue,Sem.run_bind,Sem.run_pure,Result.andThen_ok,invoke,NM hf hname hb];congr 2;apply pG;simp,λ_ _ _ _=>⟨[],rfl,rfl,λ_ hx=>(by cases hx)⟩⟩
 cases hm:ei as with
 |none=>exact Q0 _ h hc hm hop (λh=>h) hn hK
 |some q=>
  have hq:jA as=false:=by
   cases hq:jA as with
   |false=>rfl
   |true=>rw[yq hq] at hm;cases hm
  rw[hq];exact QZ h hc hm hop hn hK
def ajX(h:St c G zl s a w){x:AV}{x':Operand}{as':Array Operand}{as:List (AV×PM)}{ts:Array TypeId}(ho:o.op=.call {callee:=.value x',args:=as',argTypes:=ts})(hx:aR x' x=true)
  (hn:∀n,o.dst=some n->n<c.nt)(hc:gT as'.toList as=true)(hK:aV P (.kC o.dst x as) s K):q9 P c o a w K (jA as):=by
 simp only[aV] at hK;split at hK
 ·rename_i f cs he;obtain⟨hf,hK⟩:=hK;obtain⟨fn,hf1,jM,hf3⟩:=Lp hf;obtain⟨p,p1,p2,p3⟩:=cr h hx;rw[he] at p1;cases p with
  |fn g n fc=>
   simp only[C.er,X.fn.injEq] at p1;obtain⟨rfl,p1⟩:=p1
   have hop:tN P c zl o a w as'.toList g (some x):=⟨(List.range n).map λj=>(fc j).val,by
    simp only[execOp,ho,resolve,<-p2,C.val,Deferred.ofValue,Sem.run_bind,Sem.run_pure,Result.andThen_ok,invoke,NM hf1 jM hf3];congr 2;apply pG;simp,λ{G2 s2 bJ} h2 hb hG hi=>by
    simp only[rE] at hi;split at hi;·rename_i g' cs' he';subst hi;obtain⟨l,l1,l2,l3⟩:=abS h2 hb hG hx he';refine⟨l,l1,?_,l3⟩;rw[<-p2] at l2;simp only[C.val,Value.func.injEq,true_and] at l2;exact(Array.mk.injEq _ _▸l2:_).symm
    ·exact hi.elim⟩
   cases hm:ei as with
   |none=>exact Q0 _ h hc hm hop (λh=>h) hn hK
   |some q=>
    have hq:jA as=false:=by
     cases hq:jA as with
     |false=>rfl
     |true=>rw[yq hq] at hm;cases hm
    rw[hq];exact QZ h hc hm hop hn hK
  |_=>simp[C.er] at p1
 ·exact hK.elim
end
end M
namespace M
open Go Go.RowKit
variable [Bs]
section
variable {P:Program}{c:Ctx}{G:Nat->C}{zl:Nat->Nat->Prop}{s:ah}{a:Act}{w:World}{o:Oper}{K:ah->Prop}
def ak7{x:C}(hc:x.cell)(hs:M.cZ x.er=true):x.plain:=by cases x<;>first|trivial|exact hc|(simp[C.er,M.cZ] at hs)
def akq{x:C}(h:x.plain):x.bare:=by cases x<;>first|trivial|exact h.elim
def ak6{l:List X}(h:iu l=true):∀x∈l,M.cZ x=true:=by
 induction l with
 |nil=>intro x hx;cases hx
 |cons a l ih=>
  simp only[iu,aC] at h;intro x hx;rcases ck.1 hx with rfl|hx;·exact h.1
  ·exact ih h.2 x hx
def JZ:∀{l':List Operand} {l:List (AV×PM)},gT l' l=true->jA l=true->MV a l' l (l.map λ_=>.dead undef)
 |[],[],_,_=>trivial
 |x'::l',(x,.af)::l,hc,hq=>JZ (l':=l') (l:=l) (by simp only[gT,aC] at hc;exact hc.2) hq
 |x'::l',(x,.gS n)::l,hc,hq=>JZ (l':=l') (l:=l) (by simp only[gT,aC] at hc;exact hc.2) hq
 |x'::l',(x,.mv)::l,hc,hq=>by cases hq
 |x'::l',(x,.mut _)::l,hc,hq=>by cases hq
 |[],_::_,hc,_=>by cases hc
 |_::_,[],hc,_=>by cases hc
def abR(h:St c G zl s a w){x':Operand}{l':List Operand}{x:AV}{as:List (AV×PM)}(hx:aR x' x=true)(hc:gT l' as=true)(hq:jA as=true){f:FuncId}(hop:tN P c zl o a w (x'::l') f none)(hn:∀n,o.dst=some n->n<c.nt)(hK:aV P (.rC o.dst f x as) s K):q9 P c o a w K false:=by
 obtain⟨p,p1,p2,p3⟩:=cr h hx;simp only[aV] at hK;rw[<-p1] at hK;cases p with
 |agg n f0=>
  have per:(C.agg n f0).er=.agg (((List.range n).map f0).map C.er):=by simp only[C.er,cS];rfl
  rw[per] at hK;simp only at hK;obtain⟨k1,k3⟩:=hK
  have hcells:∀c'∈(List.range n).map f0,zT w zl c.zb G c':=λc' j8=>by
   obtain⟨j,hj,rfl⟩:=bw.1 j8;have hj':j<n:=by simpa using hj
   exact⟨(p3.ok.1 j hj').1,(p3.ok.1 j hj').2,λb k hf=>p3.cY b k ⟨j,hj',hf⟩,λv r p e=>DQ (by rw[<-e];exact p3.rf j hj')⟩
  obtain⟨l0,G1,e1,e2,e3,e4,e5⟩:=DJ _ G s h.inv hcells;obtain⟨pQ,hrun,AD⟩:=hop.run;have h1:=Jm h e4;rw[<-e1] at k1 k3;have jN:∀b k,c.zb b k->(c.zb b k\/∃t,(G1 t).fp b k):=λb k hz=>.inl hz;have su:∀t b k,(G1 t).fp b k->(c.zb b k\/∃t,(G1 t).fp b k):=λt b k hf=>.inr ⟨t,hf⟩;obtain⟨l,q1,q2,q3⟩:=AD h1 jN su trivial;have hl0:l=[]:=by simpa [oq] using q1
  subst hl0;have hcap:pQ=[]:=by simpa using q2.symm
  subst hcap
  obtain⟨Ag,r1,r2,r3,r4⟩:=ED h1 jN su (y:=.dead undef) trivial trivial hc (JZ hc hq) (λx hx=>by
   obtain⟨_,_,rfl⟩:=bw.1 hx;exact⟨trivial,trivial,λb k hf=>hf.elim⟩) (ry λx hx=>by
   obtain⟨_,_,rfl⟩:=bw.1 hx
   exact λb k hf=>hf) (λi x n x' hi _=>by
    exfalso;have hno:=yq hq
    have:∀{l:List (AV×PM)} {i:Nat},l[i]?=some (x,PM.mut n)->ei l≠none:=by
     intro l;induction l with
     |nil=>intro i hi;simp at hi
     |cons y l ih=>
      intro i hi;obtain⟨y,pm⟩:=y;cases i with
      |zero=>simp only[zL,dX,jW] at hi;obtain⟨_,rfl⟩:=hi;simp[ei]
      |succ i=>have:=ih (by simpa using hi);cases pm<;>simp[ei]<;>first|exact this|skip
    exact this hi hno)
  have FI:∀x∈Ag,∀b k,¬x.fp b k:=λx hx b k hf=>by
   rcases(r3 x hx).2.2 b k hf with ⟨m,hm,hh⟩|⟨hh,_⟩;·obtain⟨_,_,rfl⟩:=bw.1 hm;exact hh
   ·rw[yq hq] at hh;cases hh
  have qa:l0.length=n:=by have:=dF List.length e2;simpa using this
  have Tb:∀b k,(gQ l0).fp b k->∃m∈l0,m.fp b k:=λb k hf=>(rq _ _ _).1 hf
  have hpl:∀x∈l0,x.ok w (Zf zl λb k=>c.zb b k\/∃t,(G1 t).fp b k):=λx hx=>C.gJ (λm b k hz=>by
   cases m with
   |own=>exact hz
   |sl=>exact hz
   |af=>exact hz.imp id .inl) _ (e4.all x hx).1
  have hA:qX w zl (λb k=>c.zb b k\/∃t,(G1 t).fp b k) (gQ l0::Ag):={
   ok:=λx hx=>by
    rcases ck.1 hx with rfl|hx;·exact⟨λj hj=>⟨C.lQ (e3 _ (cT hj _)),hpl _ (cT hj _)⟩,λj hj b k hf j' hj' hne=>yC e4.apart _ hj hj' hne hf⟩
    ·exact(r3 x hx).1
   bare:=λx hx=>by
    rcases ck.1 hx with rfl|hx;·exact λj hj=>akq (e3 _ (cT hj (C.dead undef)))
    ·exact(r3 x hx).2.1
   fz:=λx hx b k hf=>by
    rcases ck.1 hx with rfl|hx;·obtain⟨m,hm,hf⟩:=Tb b k hf;exact⟨((e4.all m hm).2.2.1 b k hf).1,λhz=>hz.elim ((e4.all m hm).2.2.1 b k hf).2 λ⟨t,ht⟩=>(e4.all m hm).2.1 t b k hf ht⟩
    ·exact(FI x hx b k hf).elim
   cL:=λb k hz=>by
    rcases hz with hz|hz|⟨t,ht⟩;·exact e4.inv.cL b k (.inl hz)
    ·exact e4.inv.cL b k (.inr hz)
    ·exact C.fK _ (e4.inv.ok t) b k ht
   apart:=fG.2 ⟨λx hx b k _ hf=>FI x hx b k hf,ry FI⟩}
  have rZ:=k3 w zl _ (gQ l0::Ag) (by rw[bE,r1,wq];simp only[cS];rfl) hA (h1.Lx _ λb k hz=>.inl hz)
  have Td:(gQ l0).val=a.eval x':=by rw[zV,e2,<-p2];simp only[C.val,cS];rfl
  have uE:(gQ l0::Ag).map C.val=(x'::l').map a.eval++[]:=by rw[bE,Td,r2];simp
  rw[uE] at rZ;refine⟨f,_,hrun,rZ.mono ?_⟩;rintro e w' ⟨r,ps,aM,hD,hk⟩;have hin:∀b k,aM b k->b<w'.heap.size:=λb k hz=>hD.all.cL b k (.inl hz);have kL:∀b k,(∃m∈l0,m.fp b k)->(∀t,¬(G1 t).fp b k)/\¬zl b k/\¬c.zb b k:=λb k ⟨m,hm,hf⟩=>⟨λt=>(e4.all m hm).2.1 t b k hf,(e4.all m hm).2.2.1 b k hf⟩
  have lp:∀b k,(∃x∈gQ l0::Ag,x.fp b k)->∃m∈l0,m.fp b k:=λb k ⟨x,hx,hf⟩=>by
   rcases ck.1 hx with rfl|hx;·exact Tb b k hf
   ·exact(FI x hx b k hf).elim
  have A0:∀b k,aM b k->zl b k\/(∃m∈l0,m.fp b k)\/w.heap.size<=b:=λb k hz=>(hD.tM b k hz).imp id λhh=>hh.imp (lp b k) id
  have hi:=e4.inv.Qa hD.ext (λb k hs=>kL b k (lp b k hs)) hD.tL (λb k hz=>⟨hin b k hz,λt hf=>by
   rcases A0 b k hz with hz|hm|hb;·exact(e4.inv.fz t b k hf).1 hz
   ·exact(kL b k hm).1 t hf
   ·have:=C.fK _ (e4.inv.ok t) b k hf;omega⟩)
  have kM:∀b k,(∃m∈l0,m.fp b k)->∃t,(G t).fp b k:=λb k ⟨m,hm,hf⟩=>(e4.all m hm).2.2.2 b k hf;have FK:∀x∈r::ps,∀b k,x.fp b k->(∃m∈l0,m.fp b k)\/w.heap.size<=b:=λx hx b k hf=>(hD.dom x hx b k hf).imp (lp b k) id
  have SZ:∀x∈r::ps,∀t b k,x.fp b k->¬(G1 t).fp b k:=λx hx t b k hf hf'=>by
   rcases FK x hx b k hf with hm|hb;·exact(kL b k hm).1 t hf'
   ·have:=C.fK _ (e4.inv.ok t) b k hf';omega
  have S1:∀x∈r::ps,∀b k,x.fp b k->¬aM b k/\¬c.zb b k:=λx hx b k hf=>⟨(hD.all.fz x hx b k hf).1,λhz=>by
   rcases FK x hx b k hf with hm|hb;·exact(kL b k hm).2.2 hz
   ·have:=e4.inv.cL b k (.inr hz);omega⟩
  cases ps with
  |nil=>exact hk.elim
  |cons p0 ps=>
   cases p0 with
   |agg n0 g0=>
    simp only[bE,C.er] at hk;obtain⟨j1,s',j2,j3⟩:=hk;have FJ:(C.agg n0 g0)∈r::C.agg n0 g0::ps:=cl _ (bH ..);have hv0:(C.agg n0 g0).val=(C.agg n f0).val:=by have:=dF List.head? hD.vals;simp only[bE,List.head?_cons,dX] at this;rw[this,Td,p2]
    simp only[C.val,Value.agg.injEq,Array.mk.injEq,List.toArray_inj] at hv0;have jt:n0=n:=by have:=dF List.length hv0;simpa using this
    subst jt;have L0:=hD.all.ok _ FJ;have FF:∀y∈(List.range n0).map g0,∀b k,y.fp b k->(C.agg n0 g0).fp b k:=λy hy b k hf=>by obtain⟨j,hj,rfl⟩:=bw.1 hy;exact⟨j,by simpa using hj,hf⟩
    rw[show ((List.range n0).map λj=>(g0 j).er)=((List.range n0).map g0).map C.er by simp only[cS];rfl] at j1 j2
    obtain⟨G2,g1,g2,g3⟩:=EF ((List.range n0).map f0) ((List.range n0).map g0) hi (by simp) (λv r p hm=>e5 v r p ((hcells _ hm).weak v r p rfl)) (λi cc y hi1 hi2=>by
     have hy:y∈(List.range n0).map g0:=lX hi2;obtain⟨j,hj,rfl⟩:=bw.1 hy;have hj':j<n0:=by simpa using hj
     refine⟨ak7 (L0.1 j hj').1 (ak6 j1 _ (fR hy)),?_,C.gJ (λm b k hz=>by
      cases m with
      |own=>exact hz
      |sl=>exact hz
      |af=>exact hz.imp id λh=>h.elim) _ (L0.1 j hj').2⟩
     have:=dF (λt:List Value=>t[i]?) hv0;rw[show ((List.range n0).map λj=>(g0 j).val)=((List.range n0).map g0).map C.val by simp only[cS];rfl,show ((List.range n0).map λj=>(f0 j).val)=((List.range n0).map f0).map C.val by simp only[cS];rfl,dm (l:=(List.range n0).map g0),dm (l:=(List.range n0).map f0),hi1,hi2] at this;simpa using this) (λy hy=>⟨λt b k hf=>SZ _ FJ t b k (FF y hy b k hf),λb k hf=>S1 _ FJ b k (FF y hy b k hf)⟩) (by
     rw[Ec];refine JP ?_ List.nodup_range;intro i j hi hj hne b k hf;exact L0.2 i (by simpa using hi) b k hf j (by simpa using hj) hne) j2
    have AX:∀b k,(∃y∈(List.range n0).map g0,y.fp b k)->(∃m∈l0,m.fp b k)\/w.heap.size<=b:=λb k ⟨y,hy,hf⟩=>FK _ FJ b k (FF y hy b k hf)
    have h2:St c G2 aM s' a w':=h.after g1 (λt=>(g2 t).trans (e4.val t)) hD.ext (λb k hs=>kM b k (lp b k hs)) (λt b k hf=>by
     rcases g3 t b k hf with hh|hh;·exact .inl ⟨t,e4.mono t b k hh⟩
     ·exact(AX b k hh).imp (kM b k) id) hD.tL (λb k hz=>(A0 b k hz).imp id λhh=>hh.imp (kM b k) id)
    have hr:r∈r::C.agg n0 g0::ps:=bH ..
    obtain⟨G3,h3⟩:=h2.result (x:=r) o.dst hn (hD.all.ok r hr) (hD.all.bare r hr) (λt b k hf hf'=>by
      rcases g3 t b k hf' with hh|⟨y,hy,hh⟩;·exact SZ r hr t b k hf hh
      ·exact(fG.1 hD.all.apart).1 _ (bH ..) b k hf (FF y hy b k hh)) (S1 r hr) (λb k hf=>by
      rcases FK r hr b k hf with hm|hb;·obtain⟨t,ht⟩:=kM b k hm;exact h.tr.dom t b k ht
      ·exact .inr (e8 h.tr.ext.size hb))
    exact⟨r.val,hD.ends,λL1=>by (cases L1),G3,aM,_,j3,h3⟩
   |_=>exact hk.elim
 |_=>exact hK.elim
def ajW(h:St c G zl s a w){f:FuncId}{fn:Func}{as':Array Operand}{x:AV}{x':Operand}{l':List Operand}{as:List (AV×PM)}{ts:Array TypeId}(ho:o.op=.call {callee:=.value (.func f),args:=as',argTypes:=ts})(hl:as'.toList=x'::l')(hf:P.funcs[f]?=some fn)(hname:(fn.name== "runtime.NumGoroutine")=false) (hb:fn.body.isNone=false)
  (hn:∀n,o.dst=some n->n<c.nt) (hx:aR x' x=true) (hc:gT l' as=true) (hq:jA as=true) (hK:aV P (.rC o.dst f x as) s K):q9 P c o a w K false:=by
 have hop:tN P c zl o a w (x'::l') f none:=⟨[],by simp only[execOp,ho,resolve,Act.eval,Deferred.ofValue,Sem.run_bind,Sem.run_pure,Result.andThen_ok,invoke,NM hf hname hb];rw[<-hl];congr 2;apply pG;simp,λ_ _ _ _=>⟨[],rfl,rfl,λ_ hx=>(by cases hx)⟩⟩
 exact abR h hx hc hq hop hn hK
end
end M
namespace M
open Go Go.RowKit
variable [Bs]
section
variable {P:Program}{ops:Array Oper}{Q:Exit->Act->World->Prop}
def wpAnyQ(P:Program)(ops:Array Oper)(quiet:Nat->Bool)(Q:Exit->Act->World->Prop):Nat->Array Bool->Act->World->Prop
 |0,listed,a,w=>Region.ready .any ops listed=[]/\Q .normal a w
 |fuel+1,listed,a,w=>(Region.ready .any ops listed=[]->Q .normal a w)/\
  ∀i∈Region.ready .any ops listed,wpOp P ops Q i (λa' w'=>Rel (quiet i) w w'/\wpAnyQ P ops quiet Q fuel (listed.setIfInBounds i true) a' w') a w
def wpAnyQ.any{quiet:Nat->Bool}:∀{fuel:Nat} {listed:Array Bool} {a:Act} {w:World},wpAnyQ P ops quiet Q fuel listed a w->wpAny P .any ops Q fuel listed a w
 |0,_,_,_,h=>h
 |fuel+1,_,_,_,h=>⟨h.1,λi hi=>wpOp_mono (λ_ _ h=>h.2.any) (h.2 i hi)⟩
def oh(P:Program)(ops:Array Oper)(o:Oper)(v:Value)(a:Act)(w:World):Prop:=
 (Region.wanted o (yielded ops a.tmps)=true/\∀w',Ext (λ_ _=>False) w w'->(execOp a.eval o).run P w'=.ok (.value v) w')\/
 (Region.wanted o (yielded ops a.tmps)=false/\v=undef)
def oh.wpOp{i:Nat}{o:Oper}{v:Value}{a:Act}{w:World}(hi:ops[i]?=some o)(hy:oh P ops o v a w){K:Act->World->Prop}(h:K (a.put o.dst v) w):wpOp P ops Q i K a w:=by
 unfold Go.wpOp;simp only[hi];rcases hy with ⟨hw,hv⟩|⟨hw,rfl⟩;·simp only[hw,cN,Oper.wp,hv w (Ext.refl _ _),Oper.upon];exact .inl h
 ·simp only[hw,fS,di];exact h
def qZ(P:Program)(ops:Array Oper)(o:Oper)(v:Value)(a:Act):Prop:=
 (Region.wanted o (yielded ops a.tmps)=true/\∀w',(execOp a.eval o).run P w'=.ok (.value v) w')\/
 (Region.wanted o (yielded ops a.tmps)=false/\v=undef)
def qZ.later{o:Oper}{v:Value}{a:Act}(h:qZ P ops o v a)(w:World):oh P ops o v a w:=h.imp (λh=>⟨h.1,λw' _=>h.2 w'⟩) id
def Ew(ops:Array Oper)(o:Oper)(a a':Act):Prop:=execOp a'.eval o=execOp a.eval o/\Region.wanted o (yielded ops a'.tmps)=Region.wanted o (yielded ops a.tmps)
def oh.same{o:Oper}{v:Value}{a a':Act}{w w':World}(hy:oh P ops o v a w)(h:Ew ops o a a')(hE:Ext (λ_ _=>False) w w'):oh P ops o v a' w':=by unfold oh;rw[h.1,h.2];exact hy.imp (λhh=>⟨hh.1,λw2 h2=>hh.2 w2 (hE.trans h2 λ_ _ h _=>h)⟩) id
def qZ.same{o:Oper}{v:Value}{a a':Act}(hy:qZ P ops o v a)(h:Ew ops o a a'):qZ P ops o v a':=by unfold qZ;rw[h.1,h.2];exact hy
def VT{j:Nat}{oi oj:Oper}{v:Value}(hj:ops[j]?=some oj)(hap:oi.apart ops oj=true)(hsi:∀cs b,oi.op≠.select cs b)(hsj:∀cs b,oj.op≠.select cs b)
  (hQ:∀c a w,Q (.panic c) (a.put oi.dst v) w->Q (.panic c) a w){K:Act->World->Prop}{a:Act}{w:World}(h:wpOp P ops Q j K (a.put oi.dst v) w):
  wpOp P ops Q j (λa' w'=>Ew ops oi a a'/\K (a'.put oi.dst v) w') a w:=by
 obtain⟨h1,h2,h3⟩:=Oper.apart_spec hap;have keep:∀u,Ew ops oi a (a.put oj.dst u):=λu=>⟨execOp_put oi hsi a oj.dst u h3,wanted_put oi a oj.dst u h3⟩;have put:∀u,(a.put oj.dst u).put oi.dst v=(a.put oi.dst v).put oj.dst u:=λu=>(Act.put_comm a v u h2).symm;unfold Go.wpOp at*;simp only[hj] at*;rw[wanted_put oj a oi.dst v h1] at h;by_cases hw:Region.wanted oj (yielded ops a.tmps)=true
 ·rw[aA hw] at h⊢;have mC:execOp (a.put oi.dst v).eval oj=execOp a.eval oj:=execOp_put oj hsj a oi.dst v h1;refine h.imp (λh=>?_) λh=>⟨?_,h.2⟩
  ·unfold Oper.wp at*;rw[mC] at h;generalize (execOp a.eval oj).run P w=r at h⊢;match r,h with
   |.ok (.value u) w',h=>exact⟨keep u,by rw[put];exact h⟩
   |.ok .skip w',h=>exact⟨keep _,by rw[put];exact h⟩
   |.ok (.defer d) w',h=>
    refine⟨by have k:=keep undef;unfold Act.put at*;cases hd:oj.dst<;>rw[hd] at k<;>exact⟨k.1,k.2⟩,?_⟩
    have h':K (({a.put oi.dst v with defers:=d::(a.put oi.dst v).defers}:Act).put oj.dst undef) w':=h;rw[Act.put_defers,Act.put_comm _ v undef h2] at h';exact h'
   |.ok (.enter f args) w',h=>
    refine Calls.mono h λe w'' he=>?_;match e,he with
    |.returned u,he=>exact⟨keep u,by rw[put];exact he⟩
    |.panicked c,he=>exact hQ _ _ _ he
    |.outgrown,he=>exact he
   |.ok (.row row args) w',h=>exact Rows.mono h λu w'' he=>⟨keep u,by rw[put];exact he⟩
   |.halt (.panic u) w',h=>exact hQ _ _ _ h
  ·have:=h.1;unfold Oper.asks at this⊢;rwa [mC] at this
 ·rw[aE hw] at h⊢;exact⟨keep _,by rw[put];exact h⟩
def Down(ops:Array Oper)(listed:Array Bool):Prop:=∀k ok,ops[k]?=some ok->listed.getD k false=true->∀e∈ok.after,Region.binds .any e=true->listed.getD e.on false=true
def wP(ops : Array Oper)(t : Nat -> Nat -> Bool) : Bool := (List.range ops.size).all λj => (List.range ops.size).all λi => !t j i || (match ops[j]? with
 |some oj=>oj.after.any λe=>Region.binds .any e && (e.on==i||(decide (e.on<j) && t e.on i))
 |none=>false)
def Ny{t:Nat->Nat->Bool}(j8:wP ops t=true){listed:Array Bool}(hd:Down ops listed){i:Nat}(hi:listed.getD i false=false):∀(n j:Nat),j<n->j<ops.size->i<ops.size->(∀oj,ops[j]?=some oj->∀e∈oj.after,Region.binds .any e=true->listed.getD e.on false=true)->t j i=false
 |0,j,hj,_,_,_=>by omega
 |n+1,j,hj,FG,SV,hall=>by
  cases ht:t j i with
  |false=>rfl
  |true=>
   exfalso;have hc:=j8;simp only[wP,pJ,tD] at hc;have h1:=hc j FG i SV;rw[ht] at h1;simp only[Bool.not_true,Bool.false_or] at h1;split at h1
   ·rename_i oj gF;obtain⟨e,he,hb⟩:=Array.any_eq_true'.1 h1;simp only[aC,vX,eH,bD] at hb;have hl:=hall oj gF e he hb.1;rcases hb.2 with h2|⟨h2,h3⟩;·rw[h2,hi] at hl;cases hl
    ·have:=Ny j8 hd hi n e.on (by omega) (by omega) SV (λoe hoe e' he' hb'=>hd e.on oe hoe hl e' he' hb');rw[this] at h3;cases h3
   ·cases h1
def Down.set{listed:Array Bool}(h:Down ops listed){j:Nat}{oj:Oper}(hj:ops[j]?=some oj)(hall:∀e∈oj.after,Region.binds .any e=true->listed.getD e.on false=true):Down ops (listed.setIfInBounds j true):=by
 intro k ok hk hl e he hb;by_cases hjk:j=k
 ·subst hjk;rw[hj] at hk;injection hk with hk
  subst hk;exact getD_set_true (hall e he hb)
 ·rw[getD_set_ne false hjk] at hl;exact getD_set_true (h k ok hk hl e he hb)
def wpAnyQ_first{quiet:Nat->Bool}{i:Nat}{oi:Oper}{v:Value}(hi:ops[i]?=some oi)(hsel:∀(j:Nat) (o:Oper) cs b,ops[j]?=some o->o.op≠.select cs b)(hQ:∀c a w,Q (.panic c) (a.put oi.dst v) w->Q (.panic c) a w){t:Nat->Nat->Bool}(kN:wP ops t=true):
  ∀(fuel:Nat) (listed:Array Bool) (a:Act) (w:World),
   Down ops listed->(∀j oj,ops[j]?=some oj->j≠i->listed.getD j true=false->t j i=false->oi.apart ops oj=true/\quiet j=true)->
   i∈Region.ready .any ops listed->oh P ops oi v a w->
   wpAnyQ P ops quiet Q fuel (listed.setIfInBounds i true) (a.put oi.dst v) w->wpAnyQ P ops quiet Q (fuel+1) listed a w:=by
 intro fuel;induction fuel with
 |zero=>
  intro listed a w _ _ hr hy H;refine⟨λh=>(by rw[h] at hr;cases hr),λj hj=>?_⟩;by_cases hji:j=i;·subst hji;exact hy.wpOp hi ⟨Rel.refl _ _,H⟩
  ·have:=ready_mono hj hji;rw[H.1] at this;cases this
 |succ fuel ih=>
  intro listed a w AF hfree hr hy H;refine⟨λh=>(by rw[h] at hr;cases hr),λj hj=>?_⟩;by_cases hji:j=i;·subst hji;exact hy.wpOp hi ⟨Rel.refl _ _,H⟩
  ·have h1:=H.2 j (ready_mono hj hji);obtain⟨AL,oj,gF,hall⟩:=mem_ready.1 hj
   have hi0:listed.getD i false=false:=by
    have h0:=(mem_ready.1 hr).1;rcases iL i listed.size with h'|h';·simpa [h'] using h0
    ·simp[l9 h']
   have hnot:t j i=false:=Ny kN AF hi0 (j+1) j (by omega) (kz.1 gF).1 (kz.1 hi).1 (λoj' p8 e he hb=>by
    rw[gF] at p8;injection p8 with p8
    rw[<-p8] at he;exact hall e he hb)
   obtain⟨hap,hqu⟩:=hfree j oj gF hji AL hnot;have h2:=VT gF hap (λcs b=>hsel i oi cs b hi) (λcs b=>hsel j oj cs b gF) hQ h1
   have LR:∀k ok,ops[k]?=some ok->k≠i->(listed.setIfInBounds j true).getD k true=false->
     t k i=false->oi.apart ops ok=true/\quiet k=true:=λk ok hk hki hun hno=>by
    refine hfree k ok hk hki ?_ hno;by_cases hjk:j=k;·subst hjk;exact AL
    ·rw[getD_set_ne true hjk] at hun;exact hun
   refine wpOp_mono (λa' w' ⟨hsame,hrel,h3⟩=>⟨hrel,ih (listed.setIfInBounds j true) a' w' (AF.set gF hall) LR (ready_mono hr (vU hji)) (hy.same hsame (hrel hqu)) ?_⟩) h2;rw[Wi _ _ hji];exact h3
def apT{quiet:Nat->Bool}{i:Nat}{oi:Oper}{v:Value}(hi:ops[i]?=some oi)(hsel:∀(j:Nat) (o:Oper) cs b,ops[j]?=some o->o.op≠.select cs b)(hQ:∀c a w,Q (.panic c) (a.put oi.dst v) w->Q (.panic c) a w){t:Nat->Nat->Bool}(kN:wP ops t=true):
  ∀(fuel:Nat) (listed:Array Bool) (a:Act) (w:World),
   Down ops listed->(∀j oj,ops[j]?=some oj->j≠i->listed.getD j true=false->t j i=false->oi.apart ops oj=true)->
   i∈Region.ready .any ops listed->qZ P ops oi v a->
   wpAnyQ P ops quiet Q fuel (listed.setIfInBounds i true) (a.put oi.dst v) w->wpAnyQ P ops quiet Q (fuel+1) listed a w:=by
 intro fuel;induction fuel with
 |zero=>
  intro listed a w _ _ hr hy H;refine⟨λh=>(by rw[h] at hr;cases hr),λj hj=>?_⟩;by_cases hji:j=i;·subst hji;exact(hy.later w).wpOp hi ⟨Rel.refl _ _,H⟩
  ·have:=ready_mono hj hji;rw[H.1] at this;cases this
 |succ fuel ih=>
  intro listed a w AF hfree hr hy H;refine⟨λh=>(by rw[h] at hr;cases hr),λj hj=>?_⟩;by_cases hji:j=i;·subst hji;exact(hy.later w).wpOp hi ⟨Rel.refl _ _,H⟩
  ·have h1:=H.2 j (ready_mono hj hji);obtain⟨AL,oj,gF,hall⟩:=mem_ready.1 hj
   have hi0:listed.getD i false=false:=by
    have h0:=(mem_ready.1 hr).1;rcases iL i listed.size with h'|h';·simpa [h'] using h0
    ·simp[l9 h']
   have hnot:t j i=false:=Ny kN AF hi0 (j+1) j (by omega) (kz.1 gF).1 (kz.1 hi).1 (λoj' p8 e he hb=>by
    rw[gF] at p8;injection p8 with p8
    rw[<-p8] at he;exact hall e he hb)
   have hap:=hfree j oj gF hji AL hnot;have h2:=VT gF hap (λcs b=>hsel i oi cs b hi) (λcs b=>hsel j oj cs b gF) hQ h1
   have LR:∀k ok,ops[k]?=some ok->k≠i->(listed.setIfInBounds j true).getD k true=false->
     t k i=false->oi.apart ops ok=true:=λk ok hk hki hun hno=>by
    refine hfree k ok hk hki ?_ hno;by_cases hjk:j=k;·subst hjk;exact AL
    ·rw[getD_set_ne true hjk] at hun;exact hun
   refine wpOp_mono (λa' w' ⟨hsame,hrel,h3⟩=>⟨hrel,ih (listed.setIfInBounds j true) a' w' (AF.set gF hall) LR (ready_mono hr (vU hji)) (hy.same hsame) ?_⟩) h2;rw[Wi _ _ hji];exact h3
end
end M
namespace M
open Go Go.RowKit
variable [Bs]
def lU(P:Program)(t:TypeId):Option TypeId:=match P.underlying t with
 |some (.slice e)=>some e
 |_=>none
def isStr(P:Program)(t:TypeId):Bool:=match P.underlying t with
 |some .string=>true
 |_=>false
def Mu(P:Program)(t:TypeId):Bool:=match P.underlying t with
 |some .bool=>true
 |_=>false
def isInt(P:Program)(t:TypeId)(k:IntKind):Bool:=match P.underlying t with
 |some (.int k')=>decide (k'=k)
 |_=>false
def lq(P:Program)(t:TypeId)(n:Nat):Bool:=match P.info? t with
 |some i=>decide (i.size=n)
 |none=>false
def YQ:TypeDesc->Bool
 |.struct _=>true
 |.array _ _=>true
 |_=>false
def uQ(P:Program)(t:TypeId)(b:Bool):Bool:=match P.underlying t with
 |some d=>YQ d==b
 |none=>false
section
variable {P:Program}{t:TypeId}
def nZ{e:TypeId}(h:lU P t=some e):P.underlying t=some (.slice e):=by
 unfold lU at h;split at h;·rename_i e' he;injection h with h;subst h;exact he
 ·cases h
def BF(h:isStr P t=true):P.underlying t=some .string:=by
 unfold isStr at h;split at h;·assumption
 ·cases h
def aic(h:Mu P t=true):P.underlying t=some .bool:=by
 unfold Mu at h;split at h;·assumption
 ·cases h
def Mv{k:IntKind}(h:isInt P t k=true):P.underlying t=some (.int k):=by
 unfold isInt at h;split at h;·rename_i k' hk;rw[hk,zF h]
 ·cases h
def rY{n:Nat}(h:lq P t n=true):∃i,P.info? t=some i/\i.size=n:=by
 unfold lq at h;split at h;·rename_i i hi;exact⟨i,hi,zF h⟩
 ·cases h
def BE{b:Bool}(h:uQ P t b=true):∃dd,P.underlying t=some dd/\(match dd with|.struct _=>true|.array _ _=>true|_=>false)=b:=by
 unfold uQ at h;split at h;·rename_i d hd;refine⟨d,hd,?_⟩;rw[eH] at h;rw[<-h];cases d<;>rfl
 ·cases h
end
def dI(nt:Nat)(o:Oper)(d:Nat):Bool:=(match o.dst with|some d'=>d'==d|none=>false) && decide (d<nt)
def dS{nt:Nat}{o:Oper}{d:Nat}(h:dI nt o d=true):o.dst=some d/\d<nt:=by
 simp only[dI,aC,bD] at h;refine⟨?_,h.2⟩;have:=h.1;split at this;·rename_i d' hd;rw[hd];simpa using this
 ·cases this
def yF:cw->Bool
 |.mv _ _|.pick _ _ _ _|.un _ _ _|.bin _ _ _ _|.beq _ _ _ _|.mX _ _ _ _ _|.sU _ _ _|.conv _ _ _|.text _ _|.load _ _ _ _|.dB _ _|.pS _ _ _|.kF _ _ _ _ _|.fy _ _ _ _|.dD _ _ _|.ru _ _ _ _ _ _
 |.ext _ _ _|.gu _ _ _ _|.kR _ _ _ _ _|.nQ _ _ _|.len _ _|.tn _ _|.mn _ _|.mx _ _|.nK _ _ _ _ _=>true
 |_=>false
def sZ:cw->Bool
 |.aU _ _ _|.box _ _ _|.new _ _|.make _ _ _ _ _|.bytes _ _|.lit _ _ _ _|.build _ _ _ _=>true
 |.call _ _ as=>jA as
 |.kC _ _ as=>jA as
 |x=>yF x
def EY(P:Program)(nt:Nat)(o:Oper):cw->Bool
 |.mv d x=>dI nt o d && (match o.op with|.move x'=>aR x' x|.assign x'=>aR x' x|_=>false)
 |.pick d c a b=>dI nt o d && (match o.op with|.pick c' a' b'=>aR c' c && aR a' a && aR b' b|_=>false)
 |.un d op x=>dI nt o d && (match o.op with|.unOp op' _ x'=>decide (op'=op) && aR x' x|_=>false)
 |.bin d op x y=>dI nt o d && (match o.op with|.binOp op' _ x' y' _=>decide (op'=op) && aR x' x && aR y' y|_=>false)
 |.beq d neg x y=>dI nt o d && (match o.op with|.binOp op' ty x' y' _=>decide (op'=bif neg then .neq else .eql) && Mu P ty && aR x' x && aR y' y|_=>false)
 |.sU d neg x=>dI nt o d && (match o.op with|.binOp op' ty x' (.const (.slice none 0 0)) _=>decide (op'=bif neg then .neq else .eql) && (lU P ty).isSome && aR x' x|_=>false)
 |.mX d neg ks x y=>dI nt o d && (match o.op with|.binOp op' ty x' y' _=>decide (op'=bif neg then .neq else .eql) && Lo P ty ks && aR x' x && aR y' y|_=>false)
 |.conv d k x=>dI nt o d && (match o.op with|.convert src dst x'=>(P.underlying src).isSome && isInt P dst k && aR x' x|_=>false)
 |.text d x=>dI nt o d && (match o.op with|.convert src dst x'=>(match lU P src with|some el=>isInt P el .u8 && isStr P dst && aR x' x|none=>false)|_=>false)
 |.load d sz agg x=>dI nt o d && (match o.op with|.load ty x'=>lq P ty sz && uQ P ty agg && (agg||decide (sz=1)) && aR x' x|_=>false)
 |.nK d fz sz agg x=>dI nt o d && (match o.op with|.load ty x'=>lq P ty sz && uQ P ty agg && (agg||decide (sz=1)) && aR x' x|_=>false)
 |.dB d x=>dI nt o d && (match o.op with|.nilCheck x'=>aR x' x|_=>false)
 |.pS d x off=>dI nt o d && (match o.op with|.fieldAddr ty x' fi=>(match P.underlying ty with|some (.struct fs)=>(match fs[fi]? with|some f=>decide (f.offset=off) && !lq P f.type 0 && (P.info? f.type).isSome && aR x' x|none=>false)|_=>false)|_=>false)
 |.kF d x off sz agg=>dI nt o d && (match o.op with|.field ty x' fi=>(match P.underlying ty with|some (.struct fs)=>(match fs[fi]? with|some f=>decide (f.offset=off) && lq P f.type sz && uQ P f.type agg && (agg||decide (sz=1)) && aR x' x|none=>false)|_=>false)|_=>false)
 |.fy d sz x y=>dI nt o d && (match o.op with|.indexAddr ty x' y'=>(match lU P ty with|some el=>lq P el sz && decide (0<sz) && aR x' x && aR y' y|none=>false)|_=>false)
 |.dD d x y=>dI nt o d && (match o.op with|.index ty x' y'=>isStr P ty && aR x' x && aR y' y|_=>false)
 |.ru d n sz agg x y=>dI nt o d && (match o.op with|.index ty x' y'=>(match P.underlying ty with|some (.array n' el)=>decide (n'=n) && lq P el sz && uQ P el agg && (agg||decide (sz=1)) && aR x' x && aR y' y|_=>false)|_=>false)
 |.ext d x i=>dI nt o d && (match o.op with|.extract x' i'=>i'==i && aR x' x|_=>false)
 |.gu d x lo hi=>dI nt o d && (match o.op with|.slice ty x' lo' hi' none=>isStr P ty && aR x' x && ni lo' lo && ni hi' hi|_=>false)
 |.kR d sz x lo hi=>dI nt o d && (match o.op with|.slice ty x' lo' hi' none=>(match lU P ty with|some el=>lq P el sz && aR x' x && ni lo' lo && ni hi' hi|none=>false)|_=>false)
 |.nQ d f cs=>dI nt o d && (match o.op with|.makeFunc (.func f') fs cs'=>f'==f && fs.toList.isEmpty && mg cs'.toList cs|_=>false)
 |.len d x=>dI nt o d && (match o.op with|.call ⟨.builtin .len,as,ts⟩=>(match as.toList,ts.toList with|[x'],[ty]=>(lU P ty).isSome && aR x' x|_,_=>false)|_=>false)
 |.tn d x=>dI nt o d && (match o.op with|.call ⟨.builtin .len,as,ts⟩=>(match as.toList,ts.toList with|[x'],[ty]=>isStr P ty && aR x' x|_,_=>false)|_=>false)
 |.mn d [x,y]=>dI nt o d && (match o.op with|.call ⟨.builtin .min,as,_⟩=>(match as.toList with|[x',y']=>aR x' x && aR y' y|_=>false)|_=>false)
 |.mx d [x,y]=>dI nt o d && (match o.op with|.call ⟨.builtin .max,as,_⟩=>(match as.toList with|[x',y']=>aR x' x && aR y' y|_=>false)|_=>false)
 |_=>false
section
variable {P:Program}{c:Ctx}{G:Nat->C}{zl:Nat->Nat->Prop}{s:ah}{a:Act}{w:World}{o:Oper}{K:ah->Prop}
def Sy(op:BinOp)(ty:TypeId)(p q:Operand)(a b:Option Addr)(l m n k:Nat):eqGuard op ty p q (.slice a l m) (.slice b n k)=pure ():=by unfold eqGuard;cases op<;>rfl
def akJ{sz len:Nat}{e:Nat->Nat->C}(h:kn (dO sz len e)=true):0<len/\0<sz:=by
 unfold dO at h;cases len with
 |zero=>cases h
 |succ len=>
  cases sz with
  |zero=>rw[Ed] at h;cases h
  |succ sz=>exact⟨Nat.succ_pos _,Nat.succ_pos _⟩
def akd(h:St c G zl s a w){d:Nat}{neg:Bool}{ty ty':TypeId}{e:TypeId}{x:AV}{x':Operand}(ho:o.op=.binOp (bif neg then .neq else .eql) ty x' (.const (.slice none 0 0)) ty')(ht:P.underlying ty=some (.slice e))(hd:o.dst=some d)(hn:d<c.nt)(hx:aR x' x=true)
  (hK:aV P (.sU d neg x) s K):dQ P c o a w K:=by
 obtain⟨p,p1,p2,p3⟩:=cr h hx;simp only[aV] at hK;split at hK
 ·rename_i m z xs h1;rw[<-p1] at h1;obtain⟨A,len,cap,f,rfl,hxs⟩:=Am h1;have hb:kn xs=true->(A.map λq=>(⟨q.1,q.2.1,q.2.2⟩:Addr)).isNone=false:=λhc=>by rw[hxs] at hc;obtain⟨h1,h2⟩:=akJ hc;obtain⟨g,o',hA,_⟩:=p3.ok.2.1 0 0 h1 h2;rw[hA];rfl
  have SB:=hK _ hb;obtain⟨nb,hnb⟩:∃nb,(A.map λq=>(⟨q.1,q.2.1,q.2.2⟩:Addr)).isNone=nb:=⟨_,rfl⟩;rw[hnb] at SB;have hc:a.eval (.const (.slice none 0 0))=.slice none 0 0:=rfl;refine dY h hd hn (x:=.bool (xor neg nb)) trivial (λ_ _ _ _ _ _ e=>(by cases e)) trivial (λw' _=>?_) SB;cases neg;·simp only[execOp,ho,hc,<-p2,C.val,Sy,Sem.run_bind,Sem.run_pure,Result.andThen_ok,qU,Lib.run_eql_slice_nil w' ty e _ _ _ _ _ ht,Bool.false_bne,hnb]
  ·simp only[execOp,ho,hc,<-p2,C.val,Sy,Sem.run_bind,Sem.run_pure,Result.andThen_ok,lY,run_neq_slice_nil w' ty e _ _ _ ht,Bool.true_bne,hnb]
 ·exact hK.elim
def HR{b:Bool}{n m:Nat}(h:(b||decide (n=m))=true):b=true\/n=m:=by simpa using h
def zj{α:Type}{xs:Array α}{x:α}(h:xs.toList=[x]):xs= #[x]:=pG h
def Jk{α:Type}{xs:Array α}{x y:α}(h:xs.toList=[x,y]):xs= #[x,y]:=pG h
def KW(h:St c G zl s a w){x:cw}(hc:EY P c.nt o x=true)(hK:aV P x s K):dQ P c o a w K:=by
 unfold EY at hc;split at hc
 ·simp only[aC] at hc;obtain⟨hd,hn⟩:=dS hc.1;have hc:=hc.2;split at hc;·rename_i ho;exact Uk h (.inl ho) hd hn hc hK
  ·rename_i ho;exact Uk h (.inr ho) hd hn hc hK
  ·cases hc
 ·simp only[aC] at hc;obtain⟨hd,hn⟩:=dS hc.1;have hc:=hc.2;split at hc;·rename_i ho;simp only[aC] at hc;exact ake h ho hd hn hc.1.1 hc.1.2 hc.2 hK
  ·cases hc
 ·simp only[aC] at hc;obtain⟨hd,hn⟩:=dS hc.1;have hc:=hc.2;split at hc;·rename_i ho;simp only[aC,bD] at hc;obtain⟨rfl,hx⟩:=hc;exact akl h ho hd hn hx hK
  ·cases hc
 ·simp only[aC] at hc;obtain⟨hd,hn⟩:=dS hc.1;have hc:=hc.2;split at hc;·rename_i ho;simp only[aC,bD] at hc;obtain⟨⟨rfl,hx⟩,hy⟩:=hc;exact ajR h ho hd hn hx hy hK
  ·cases hc
 ·simp only[aC] at hc;obtain⟨hd,hn⟩:=dS hc.1;have hc:=hc.2;split at hc;·rename_i ho;simp only[aC,bD] at hc;obtain⟨⟨⟨rfl,ht⟩,hx⟩,hy⟩:=hc;exact ajQ h ho (aic ht) hd hn hx hy hK
  ·cases hc
 ·simp only[aC] at hc;obtain⟨hd,hn⟩:=dS hc.1;have hc:=hc.2;split at hc;·rename_i ho;simp only[aC,bD] at hc;obtain⟨⟨rfl,ht⟩,hx⟩:=hc;obtain⟨el,ht⟩:=zC.1 ht;exact akd h ho (nZ ht) hd hn hx hK
  ·cases hc
 ·simp only[aC] at hc;obtain⟨hd,hn⟩:=dS hc.1;have hc:=hc.2;split at hc;·rename_i ho;simp only[aC,bD] at hc;obtain⟨⟨⟨rfl,ht⟩,hx⟩,hy⟩:=hc;exact ajM h ho ht hd hn hx hy hK
  ·cases hc
 ·simp only[aC] at hc;obtain⟨hd,hn⟩:=dS hc.1;have hc:=hc.2;split at hc;·rename_i ho;simp only[aC] at hc;obtain⟨⟨hs,ht⟩,hx⟩:=hc;obtain⟨sd,hs⟩:=zC.1 hs;exact aj0 h ho hs (Mv ht) hd hn hx hK
  ·cases hc
 ·simp only[aC] at hc;obtain⟨hd,hn⟩:=dS hc.1;have hc:=hc.2;split at hc
  ·rename_i ho;split at hc;·rename_i el hel;simp only[aC] at hc;exact akk h ho (nZ hel) (Mv hc.1.1) (BF hc.1.2) hd hn hc.2 hK
   ·cases hc
  ·cases hc
 ·simp only[aC] at hc;obtain⟨hd,hn⟩:=dS hc.1;have hc:=hc.2;split at hc;·rename_i ho;simp only[aC] at hc;exact Uj h ho (rY hc.1.1.1) (BE hc.1.1.2) (HR hc.1.2) hd hn hc.2 hK
  ·cases hc
 ·simp only[aC] at hc;obtain⟨hd,hn⟩:=dS hc.1;have hc:=hc.2;split at hc;·rename_i ho;simp only[aC] at hc;exact aj7 h ho (rY hc.1.1.1) (BE hc.1.1.2) (HR hc.1.2) hd hn hc.2 hK
  ·cases hc
 ·simp only[aC] at hc;obtain⟨hd,hn⟩:=dS hc.1;have hc:=hc.2;split at hc;·rename_i ho;exact ajY h ho hd hn hc hK
  ·cases hc
 ·simp only[aC] at hc;obtain⟨hd,hn⟩:=dS hc.1;have hc:=hc.2;split at hc
  ·rename_i ho;split at hc
   ·rename_i fs hfs;split at hc;·rename_i f hf;simp only[aC,bD,zG] at hc;obtain⟨⟨⟨h1,h2⟩,h3⟩,h4⟩:=hc;obtain⟨i,hi⟩:=zC.1 h3;refine aj2 h ho hfs hf h1 ⟨i,hi,λh0=>?_⟩ hd hn h4 hK;simp[lq,hi,h0] at h2
    ·cases hc
   ·cases hc
  ·cases hc
 ·simp only[aC] at hc;obtain⟨hd,hn⟩:=dS hc.1;have hc:=hc.2;split at hc
  ·rename_i ho;split at hc
   ·rename_i fs hfs;split at hc;·rename_i f hf;simp only[aC,bD] at hc;obtain⟨⟨⟨⟨h1,h2⟩,h3⟩,h4⟩,h5⟩:=hc;exact aj3 h ho hfs hf h1 (rY h2) (BE h3) (HR h4) hd hn h5 hK
    ·cases hc
   ·cases hc
  ·cases hc
 ·simp only[aC] at hc;obtain⟨hd,hn⟩:=dS hc.1;have hc:=hc.2;split at hc
  ·rename_i ho;split at hc;·rename_i el hel;simp only[aC,bD] at hc;obtain⟨⟨⟨h1,h2⟩,h3⟩,h4⟩:=hc;exact aj4 h ho (nZ hel) (rY h1) h2 hd hn h3 h4 hK
   ·cases hc
  ·cases hc
 ·simp only[aC] at hc;obtain⟨hd,hn⟩:=dS hc.1;have hc:=hc.2;split at hc;·rename_i ho;simp only[aC] at hc;exact akg h ho (BF hc.1.1) hd hn hc.1.2 hc.2 hK
  ·cases hc
 ·simp only[aC] at hc;obtain⟨hd,hn⟩:=dS hc.1;have hc:=hc.2;split at hc
  ·rename_i ho;split at hc;·rename_i n' el hel;simp only[aC,bD] at hc;obtain⟨⟨⟨⟨⟨rfl,h2⟩,h3⟩,h4⟩,h5⟩,h6⟩:=hc;exact ajN h ho hel (rY h2) (BE h3) (HR h4) hd hn h5 h6 hK
   ·cases hc
  ·cases hc
 ·simp only[aC] at hc;obtain⟨hd,hn⟩:=dS hc.1;have hc:=hc.2;split at hc;·rename_i ho;simp only[aC,eH] at hc;obtain⟨rfl,hx⟩:=hc;exact aj1 h ho hd hn hx hK
  ·cases hc
 ·simp only[aC] at hc;obtain⟨hd,hn⟩:=dS hc.1;have hc:=hc.2;split at hc;·rename_i ho;simp only[aC] at hc;obtain⟨⟨⟨h1,h2⟩,h3⟩,h4⟩:=hc;exact aki h ho (BF h1) hd hn h2 h3 h4 hK
  ·cases hc
 ·simp only[aC] at hc;obtain⟨hd,hn⟩:=dS hc.1;have hc:=hc.2;split at hc
  ·rename_i ho;split at hc;·rename_i el hel;simp only[aC] at hc;obtain⟨⟨⟨h1,h2⟩,h3⟩,h4⟩:=hc;exact akf h ho (nZ hel) (rY h1) hd hn h2 h3 h4 hK
   ·cases hc
  ·cases hc
 ·simp only[aC] at hc;obtain⟨hd,hn⟩:=dS hc.1;have hc:=hc.2;split at hc;·rename_i fs cs' ho;simp only[aC,eH] at hc;obtain⟨⟨rfl,h2⟩,h3⟩:=hc;have hfs:fs= #[]:=pG (List.isEmpty_iff.1 h2);subst hfs;exact aj9 h ho hd hn h3 hK
  ·cases hc
 ·simp only[aC] at hc;obtain⟨hd,hn⟩:=dS hc.1;have hc:=hc.2;split at hc
  ·rename_i as ts ho;split at hc;·rename_i x' ty has hts;simp only[aC] at hc;obtain⟨el,hel⟩:=zC.1 hc.1;rw[zj has,zj hts] at ho;exact aj5 h ho (nZ hel) hd hn hc.2 hK
   ·cases hc
  ·cases hc
 ·simp only[aC] at hc;obtain⟨hd,hn⟩:=dS hc.1;have hc:=hc.2;split at hc
  ·rename_i as ts ho;split at hc;·rename_i x' ty has hts;simp only[aC] at hc;rw[zj has,zj hts] at ho;exact akh h ho (BF hc.1) hd hn hc.2 hK
   ·cases hc
  ·cases hc
 ·simp only[aC] at hc;obtain⟨hd,hn⟩:=dS hc.1;have hc:=hc.2;split at hc
  ·rename_i as ts ho;split at hc;·rename_i x' y' has;simp only[aC] at hc;rw[Jk has] at ho;exact aka h ho hd hn hc.1 hc.2 hK
   ·cases hc
  ·cases hc
 ·simp only[aC] at hc;obtain⟨hd,hn⟩:=dS hc.1;have hc:=hc.2;split at hc
  ·rename_i as ts ho;split at hc;·rename_i x' y' has;simp only[aC] at hc;rw[Jk has] at ho;exact akb h ho hd hn hc.1 hc.2 hK
   ·cases hc
  ·cases hc
 ·cases hc
end
end M
namespace M
open Go Go.RowKit
variable [Bs]
def Step(P:Program)(c:Ctx)(o:Oper)(a:Act)(w:World)(K:ah->Prop)(q:Bool):Prop:=
 (∃v w',((execOp a.eval o).run P w=.ok (.value v) w'\/((execOp a.eval o).run P w=.ok .skip w'/\v=undef))/\Rel q w w'/\∃G' aM s',K s'/\St c G' aM s' (a.put o.dst v) w')\/q9 P c o a w K q
section
variable {P:Program}{c:Ctx}{G:Nat->C}{zl:Nat->Nat->Prop}{s:ah}{a:Act}{w:World}{o:Oper}{K:ah->Prop}
def Good.step(h:Good P c o a w K):Step P c o a w K false:=by obtain⟨v,w',hr,h⟩:=h;exact .inl ⟨v,w',hr,λhq=>by (cases hq),h⟩
def jY.step(h:jY P c o a w K)(q:Bool):Step P c o a w K q:=by obtain⟨v,w',hr,hE,h⟩:=h;exact .inl ⟨v,w',.inl hr,λ_=>hE,h⟩
def Step.wp{q:Bool}(h:Step P c o a w K q)(Q:Exit->Act->World->Prop):o.wp P a w (λa' w'=>Rel q w w'/\∃G' aM s',K s'/\St c G' aM s' a' w') Q:=by
 unfold Oper.wp;rcases h with ⟨v,w',hr,hq,h⟩|⟨f,args,hr,hc⟩
 ·rcases hr with hr|⟨hr,rfl⟩;·rw[hr];exact⟨hq,h⟩
  ·rw[hr];exact⟨hq,h⟩
 ·rw[hr];refine Calls.mono hc λe w' he=>?_;obtain⟨v,rfl,hq,h⟩:=he;exact⟨hq,h⟩
def PJ(P:Program)(t:TypeId)(sz bytes:Nat)(z:List X):Bool:=match P.info? t with
 |some i=>decide (i.size=sz) && decide (i.bytes=bytes) && (match i.zero with|some v=>nj v.cells.toList z|none=>false)
 |none=>false
def aqg{t:TypeId}{sz bytes:Nat}{z:List X}(h:PJ P t sz bytes z=true):∃i v,P.info? t=some i/\i.size=sz/\i.bytes=bytes/\i.zero=some v/\nj v.cells.toList z=true:=by
 unfold PJ at h;split at h
 ·rename_i i hi;simp only[aC,bD] at h;obtain⟨⟨h1,h2⟩,h3⟩:=h;split at h3;·rename_i v hv;exact⟨i,v,hi,h1,h2,hv,h3⟩
  ·cases h3
 ·cases h
def PO(P:Program)(t:TypeId)(sz bytes:Nat):Bool:=match P.info? t with
 |some i=>decide (i.size=sz) && decide (i.bytes=bytes) && (match i.zero with|some v=>decide (v.cells.size=sz)|none=>false)
 |none=>false
def aqj{t:TypeId}{sz bytes:Nat}(h:PO P t sz bytes=true):∃i v,P.info? t=some i/\i.size=sz/\i.bytes=bytes/\i.zero=some v/\v.cells.size=sz:=by
 unfold PO at h;split at h
 ·rename_i i hi;simp only[aC,bD] at h;obtain⟨⟨h1,h2⟩,h3⟩:=h;split at h3;·rename_i v hv;exact⟨i,v,hi,h1,h2,hv,zF h3⟩
  ·cases h3
 ·cases h
def PL(P:Program)(t:TypeId)(sz:Nat):Bool:=match P.info? t with
 |some i=>decide (i.size=sz) && (match i.zero with|some v=>decide (v.cells.size=sz)|none=>false)
 |none=>false
def aqi{t:TypeId}{sz:Nat}(h:PL P t sz=true):∃i v,P.info? t=some i/\i.size=sz/\i.zero=some v/\v.cells.size=sz:=by
 unfold PL at h;split at h
 ·rename_i i hi;simp only[aC,bD] at h;obtain⟨h1,h3⟩:=h;split at h3;·rename_i v hv;exact⟨i,v,hi,h1,hv,zF h3⟩
  ·cases h3
 ·cases h
def Es(P:Program)(t:TypeId)(z:List X):Bool:=match P.info? t with
 |some i=>(match i.zero with|some v=>nj v.cells.toList z|none=>false)
 |none=>false
def PN{t:TypeId}{z:List X}(h:Es P t z=true):∃i v,P.info? t=some i/\i.zero=some v/\nj v.cells.toList z=true:=by
 unfold Es at h;split at h
 ·rename_i i hi;split at h;·rename_i v hv;exact⟨i,v,hi,hv,h⟩
  ·cases h
 ·cases h
def placesOf(P:Program)(t:TypeId):Option (List (Nat×Nat)):=match P.underlying t with
 |some (.struct fs)=>fs.toList.mapM λf=>(P.info? f.type).map λi=>(f.offset,i.size)
 |some (.array n e)=>(P.info? e).map λi=>(List.range n).map λk=>(k*i.size,i.size)
 |_=>none
def RO{p q:Nat->Option (Nat×Nat)}(h:∀i r,p i=some r->q i=some r):∀(parts:List (Nat×Value)) (cells r:Array Value),Instr.fill p cells parts=some r->Instr.fill q cells parts=some r
 |[],cells,r,hf=>hf
 |(i,v)::rest,cells,r,hf=>by
  unfold Instr.fill at hf⊢;cases hp:p i with
  |none=>rw[hp] at hf;cases hf
  |some pr=>
   rw[hp] at hf;rw[h i pr hp];obtain⟨off,size⟩:=pr;simp only at hf⊢;split at hf;·cases hf
   ·rename_i hc;rw[aE hc];exact RO h rest _ r hf
def akp{t:TypeId}{places:List (Nat×Nat)}(hp:placesOf P t=some places){i:TypeInfo}(hi:P.info? t=some i){v:Value}(hz:i.zero=some v):∀parts cells,Instr.fill (λi=>places[i]?) v.cells parts=some cells->P.built t parts=some cells:=by
 intro parts cells hf;unfold placesOf at hp;unfold Program.built;rw[hi];split at hp;·rename_i fs hfs;rw[hfs];simp only[hz,hp];simpa using hf
 ·rename_i n e he;rw[he];cases hie:P.info? e with
  |none=>rw[hie] at hp;cases hp
  |some ie=>
   rw[hie] at hp;simp only[cq,dX] at hp;simp only[hz,hie];refine RO (λk r hk=>?_) _ _ _ hf;rw[<-hp,C.dn] at hk;split at hk;·exact hk
   ·cases hk
 ·cases hp
def Ai(nt:Nat)(o:Oper)(d:Option Nat):Bool:=match o.dst,d with
 |some d',some d=>d'==d && decide (d<nt)
 |none,none=>true
 |_,_=>false
def Ld{nt:Nat}{d:Option Nat}(h:Ai nt o d=true):o.dst=d/\∀n,o.dst=some n->n<nt:=by
 unfold Ai at h;split at h;·rename_i d' d hd;simp only[aC,eH,bD] at h;rw[hd,h.1];exact⟨rfl,λn hn=>by injection hn with hn;rw[<-hn];exact h.2⟩
 ·rename_i hd;rw[hd];exact⟨rfl,λn hn=>by cases hn⟩
 ·cases h
def KX(P:Program)(nt:Nat)(o:Oper):cw->Bool
 |.aU d h x=>dI nt o d && (match o.op with|.assign x'=>aR x' x|_=>false)
 |.box d h x=>dI nt o d && (match o.op with|.box _ x'=>aR x' x|_=>false)
 |.new d z=>dI nt o d && (match o.op with|.alloc ty=>Es P ty z|_=>false)
 |.make d sz bytes z n=>dI nt o d && (match o.op with|.makeSlice ty n1 n2=>(match lU P ty with|some el=>PJ P el sz bytes z && decide (0<bytes) && decide (0<sz) && decide (z.length=sz) && aR n1 n && aR n2 n|none=>false)|_=>false)
 |.bytes d x=>dI nt o d && (match o.op with|.convert src dst x'=>(match lU P dst with|some el=>isInt P el .u8 && isStr P src && aR x' x|none=>false)|_=>false)
 |.lit d h sz ps=>dI nt o d && (match o.op with|.buildSlice ty n ps'=>(match lU P ty with|some el=>PL P el sz && decide (0<sz) && decide (ps'.toList.length=n) && decide (n*sz<=16777216) && Ae 0 ps'.toList ps|none=>false)|_=>false)
 |.build d h z ps=>dI nt o d && (match o.op with|.build ty ps'=>(match placesOf P ty with|some places=>Es P ty z && ue places z.length ps'.toList ps|none=>false)|_=>false)
 |.store sz h y x=>(match o.dst with|none=>true|some _=>false) && (match o.op with|.store ty y' x'=>lq P ty sz && decide (0<sz) && aR x' x && aR y' y|_=>false)
 |.app d h sz bytes x y=>dI nt o d && (match o.op with|.call ⟨.builtin .append,as,ts⟩=>(match as.toList,ts.toList with|[x',y'],[ty,ty']=>(match lU P ty,lU P ty' with|some el,some _=>PO P el sz bytes && decide (0<bytes) && decide (0<sz) && aR x' x && aR y' y|_,_=>false)|_,_=>false)|_=>false)
 |.call d f as=>Ai nt o d && (match o.op with|.call ⟨.value (.func f'),as',_⟩=>f'==f && ak P f && gT as'.toList as|_=>false)
 |.kC d x as=>Ai nt o d && (match o.op with|.call ⟨.value x',as',_⟩=>aR x' x && gT as'.toList as|_=>false)
 |.wR sz z x=>(match o.dst with|none=>true|some _=>false) && (match o.op with|.call ⟨.builtin .clear,as,ts⟩=>(match as.toList,ts.toList with|[x'],[ty]=>(match lU P ty with|some el=>Es P el z && decide (z.length=sz) && decide (0<sz) && aR x' x|_=>false)|_,_=>false)|_=>false)
 |.rC d f x as=>Ai nt o d && (match o.op with|.call ⟨.value (.func f'),as',_⟩=>f'==f && ak P f && (match as'.toList with|x'::l'=>aR x' x && gT l' as && jA as|[]=>false)|_=>false)
 |_=>false
def abX(h:St c G zl s a w){x:cw}(hc:KX P c.nt o x=true)(hK:aV P x s K):Step P c o a w K (sZ x):=by
 unfold KX at hc;split at hc
 ·simp only[aC] at hc;obtain⟨hd,hn⟩:=dS hc.1;have hc:=hc.2;split at hc;·rename_i ho;exact(ajP h ho hd hn hc hK).step _
  ·cases hc
 ·simp only[aC] at hc;obtain⟨hd,hn⟩:=dS hc.1;have hc:=hc.2;split at hc;·rename_i ho;exact(ajS h ho hd hn hc hK).step _
  ·cases hc
 ·simp only[aC] at hc;obtain⟨hd,hn⟩:=dS hc.1;have hc:=hc.2;split at hc;·rename_i ho;obtain⟨i,v,h1,h2,h3⟩:=PN hc;exact(akc h ho h1 h2 h3 hd hn hK).step _
  ·cases hc
 ·simp only[aC] at hc;obtain⟨hd,hn⟩:=dS hc.1;have hc:=hc.2;split at hc
  ·rename_i ho;split at hc;·rename_i el hel;simp only[aC,bD] at hc;obtain⟨⟨⟨⟨⟨h1,h2⟩,h3⟩,h4⟩,h5⟩,h6⟩:=hc;obtain⟨i,v,i1,i2,i3,i4,i5⟩:=aqg h1;exact(aj8 h ho (nZ hel) i1 i4 i2 i3 h2 h3 h4 i5 hd hn h5 h6 hK).step _
   ·cases hc
  ·cases hc
 ·simp only[aC] at hc;obtain⟨hd,hn⟩:=dS hc.1;have hc:=hc.2;split at hc
  ·rename_i ho;split at hc;·rename_i el hel;simp only[aC] at hc;exact(ajU h ho (BF hc.1.2) (nZ hel) (Mv hc.1.1) hd hn hc.2 hK).step _
   ·cases hc
  ·cases hc
 ·simp only[aC] at hc;obtain⟨hd,hn⟩:=dS hc.1;have hc:=hc.2;split at hc
  ·rename_i ho;split at hc;·rename_i el hel;simp only[aC,bD] at hc;obtain⟨⟨⟨⟨h1,h2⟩,h3⟩,h4⟩,h5⟩:=hc;obtain⟨i,v,i1,i2,i3,i4⟩:=aqi h1;exact(aj6 h ho (nZ hel) i1 i3 i2 h2 i4 h3 h4 hd hn h5 hK).step _
   ·cases hc
  ·cases hc
 ·simp only[aC] at hc;obtain⟨hd,hn⟩:=dS hc.1;have hc:=hc.2;split at hc
  ·rename_i ho;split at hc;·rename_i places hp;simp only[aC] at hc;obtain⟨i,v,i1,i2,i3⟩:=PN hc.1;exact(ajT (i:=i) h ho (akp hp i1 i2) i3 hd hn hc.2 hK).step _
   ·cases hc
  ·cases hc
 ·simp only[aC] at hc;obtain⟨hd,hc⟩:=hc
  have hd:o.dst=none:=by
   split at hd;·assumption
   ·cases hd
  split at hc;·rename_i ho;simp only[aC,bD] at hc;obtain⟨⟨⟨h1,h2⟩,h3⟩,h4⟩:=hc;exact(akj h ho (rY h1) h2 hd h3 h4 hK).step
  ·cases hc
 ·simp only[aC] at hc;obtain⟨hd,hn⟩:=dS hc.1;have hc:=hc.2;split at hc
  ·rename_i as ts ho;split at hc
   ·rename_i x' y' ty ty' has hts;split at hc;·rename_i el E7 hel ahw;simp only[aC,bD] at hc;obtain⟨⟨⟨⟨h1,h2⟩,h3⟩,h4⟩,h5⟩:=hc;obtain⟨i,v,i1,i2,i3,i4,i5⟩:=aqj h1;rw[Jk has,Jk hts] at ho;exact(ajO h ho (nZ hel) (nZ ahw) i1 i4 i2 i3 h2 h3 i5 hd hn h4 h5 hK).step
    ·cases hc
   ·cases hc
  ·cases hc
 ·simp only[aC] at hc;obtain⟨hd,hc⟩:=hc;obtain⟨hd,hn⟩:=Ld hd;subst hd;split at hc;·rename_i f' as' ts ho;simp only[aC,eH] at hc;obtain⟨⟨rfl,h2⟩,h3⟩:=hc;obtain⟨fn,f1,f2,f3⟩:=Lp h2;exact .inr (ajV h ho f1 f2 f3 hn h3 hK)
  ·cases hc
 ·simp only[aC] at hc;obtain⟨hd,hc⟩:=hc;obtain⟨hd,hn⟩:=Ld hd;subst hd;split at hc;·rename_i x' as' ts ho;simp only[aC] at hc;exact .inr (ajX h ho hc.1 hn hc.2 hK)
  ·cases hc
 ·simp only[aC] at hc;obtain⟨hd,hc⟩:=hc
  have hd:o.dst=none:=by
   split at hd;·assumption
   ·cases hd
  split at hc
  ·rename_i as ts ho;split at hc
   ·rename_i x' ty has hts;split at hc;·rename_i el hel;simp only[aC,bD] at hc;obtain⟨⟨⟨h1,h2⟩,h3⟩,h4⟩:=hc;obtain⟨i,v,i1,i2,i3⟩:=PN h1;rw[zj has,zj hts] at ho;exact(ajZ h ho (nZ hel) i1 i2 i3 h2 h3 hd h4 hK).step
    ·cases hc
   ·cases hc
  ·cases hc
 ·simp only[aC] at hc;obtain⟨hd,hc⟩:=hc;obtain⟨hd,hn⟩:=Ld hd;subst hd;split at hc
  ·rename_i f' as' ts ho;simp only[aC,eH] at hc;obtain⟨⟨rfl,h2⟩,h3⟩:=hc;obtain⟨fn,f1,f2,f3⟩:=Lp h2;split at h3;·rename_i x' l' hl;simp only[aC] at h3;exact .inr (ajW h ho hl f1 f2 f3 hn h3.1.1 h3.1.2 h3.2 hK)
   ·cases h3
  ·cases hc
 ·cases hc
def Ac(P:Program)(nt:Nat)(o:Oper)(x:cw):Bool:=bif yF x then EY P nt o x else KX P nt o x
def Q6(h:St c G zl s a w){x:cw}(hc:Ac P c.nt o x=true)(hK:aV P x s K):Step P c o a w K (sZ x):=by
 unfold Ac at hc;cases hr:yF x with
 |true=>rw[hr] at hc;exact(KW h hc hK).quiet.step _
 |false=>rw[hr] at hc;exact abX h hc hK
end
end M
namespace M
open Go Go.RowKit
variable [Bs]
section
variable {P:Program}{c:Ctx}{G:Nat->C}{zl:Nat->Nat->Prop}{s s':ah}{a:Act}{w:World}{K:ah->Prop}{ops:Array Oper}
def St.congr(h:St c G zl s a w)(he:∀t,get s t=get s' t):St c G zl s' a w:=
 {h with inv:={h.inv with er:=λt=>(h.inv.er t).trans (he t)}}
def pR(P:Program)(nt:Nat)(ops:Array Oper)(i:Nat)(g:M.G):Bool:=match ops[i]? with
 |some o=>(match o.guard,g.g with
  |none,none=>true
  |some (j,b),some (t,b')=>b==b' && decide (t<base) && (match ops[j]? with|some oj=>decide (oj.dst=some t)|none=>false)
  |_,_=>false) && decide (o.dst=g.o.dst) && (match g.o.dst with|some d=>decide (d<nt)|none=>true) && Ac P nt o g.o
 |none=>false
def wo(c:Ctx)(K:ah->Prop)(a:Act)(w:World):Prop:=∃G zl s,K s/\St c G zl s a w
def Wd(h:St c G zl s a w){t j:Nat}{v:Bool}(hv:get s t=.bool v)(ht:t<base){oj:Oper}(hj:ops[j]?=some oj)(hd:oj.dst=some t):yielded ops a.tmps j=some v:=by
 have hG:=h.inv.er t;rw[hv] at hG;have hc:=rO hG;have:=h.val t ht;rw[hc,C.val] at this;unfold yielded;simp only[hj,gw,hd];rw[vY] at this;cases ht:a.tmps[t]? with
 |none=>rw[ht] at this;simp[undef] at this
 |some u=>rw[ht] at this;simp only[vV] at this;rw[<-this]
def St.Jp(h:St c G zl s a w)(d:Option Nat)(hn:∀n,d=some n->n<c.nt):∃G',St c G' zl (fV d (.av []) s) (a.put d undef) w:=by
 cases d with
 |none=>exact⟨G,h⟩
 |some n=>exact h.put (x:=.av 0 λ_=>.dead undef) (hn n rfl) ⟨λj hj=>(by omega),λj hj=>(by omega)⟩ (λ_ _ b k ⟨j,hj,_⟩=>(by omega)) (λb k ⟨j,hj,_⟩=>(by omega)) (λj hj=>(by omega)) (λb k ⟨j,hj,_⟩=>(by omega))
def Fx{t:Nat}{v:Bool}(hv:get s t=.bool v):∀u,get s u=get ((t,.bool v)::s) u:=λu=>by
 rw[wZ];split;·rename_i e;subst e;exact hv
 ·rfl
def We(h:St c G zl s a w){t j:Nat}(hv:get s t=.av [])(ht:t<base){oj:Oper}(hj:ops[j]?=some oj)(hd:oj.dst=some t):yielded ops a.tmps j=none:=by
 have hG:=h.inv.er t;rw[hv] at hG;have hval:=h.val t ht
 have:(G t).val=.tuple #[]:=by
  cases hc:G t with
  |av n f=>rw[hc] at hG;simp only[C.er,X.av.injEq,List.map_eq_nil_iff,List.range_eq_nil] at hG;subst hG;rfl
  |_=>rw[hc] at hG;simp[C.er] at hG
 rw[this] at hval;unfold yielded;simp only[hj,gw,hd];rw[vY] at hval;cases ht:a.tmps[t]? with
 |none=>rfl
 |some u=>rw[ht] at hval;simp only[vV] at hval;rw[<-hval]
def Q4{i:Nat}{g:M.G}(h:St c G zl s a w)(hc:pR P c.nt ops i g=true)(hK:pO P g s K)(Q:Exit->Act->World->Prop):
  wpOp P ops Q i (λa' w'=>Rel (sZ g.o) w w'/\wo c K a' w') a w:=by
 unfold pR at hc;split at hc
 ·rename_i o ho;simp only[aC,bD] at hc;obtain⟨⟨⟨hg,hd⟩,hn⟩,hop⟩:=hc;unfold wpOp;simp only[ho];obtain⟨gg,go⟩:=g;split at hg
  ·rename_i h1 h2;subst h2;have hw:Region.wanted o (yielded ops a.tmps)=true:=by simp[Region.wanted,h1]
   rw[aA hw];exact .inl ((Q6 h hop hK).wp Q)
  ·rename_i j b t b' h1 h2;subst h2;simp only[aC,eH,bD] at hg;obtain⟨⟨rfl,ht⟩,hj⟩:=hg;split at hj
   ·rename_i oj gF;have hj:=zF hj;simp only[pO] at hK;split at hK
    ·rename_i v hv;have hy:=Wd h hv ht gF hj;obtain⟨k1,k2⟩:=hK;have sn:Region.wanted o (yielded ops a.tmps)=(v==b):=by simp only[Region.wanted,h1,hy];cases v<;>cases b<;>rfl
     rw[sn];by_cases lD:v=b;·subst lD;rw[aA (by simp)];exact .inl ((Q6 (h.congr (Fx hv)) hop (k1 rfl)).wp Q)
     ·have hnb:v= !b:=by cases v<;>cases b<;>first|rfl|exact absurd rfl lD
      rw[aE (by simpa using lD)];subst hnb;obtain⟨G',h'⟩:=(h.congr (Fx hv)).Jp o.dst (λn jt=>by rw[hd] at jt;simp only[jt] at hn;simpa using hn)
      rw[hd] at h'⊢;exact⟨Rel.refl _ _,G',zl,_,k2 rfl,h'⟩
    ·rename_i hv;have hy:=We h hv ht gF hj;have sn:Region.wanted o (yielded ops a.tmps)=false:=by simp only[Region.wanted,h1,hy];rfl
     rw[sn,aE (by simp)];obtain⟨G',h'⟩:=h.Jp o.dst (λn jt=>by rw[hd] at jt;simp only[jt] at hn;simpa using hn)
     rw[hd] at h'⊢;exact⟨Rel.refl _ _,G',zl,_,hK,h'⟩
    ·exact hK.elim
   ·cases hj
  ·cases hg
 ·cases hc
def abW{i:Nat}{g:M.G}(h:St c G zl s a w)(hc:pR P c.nt ops i g=true)(hr:yF g.o=true)(hK:pO P g s K):
  ∃o v,ops[i]?=some o/\oh P ops o v a w/\wo c K (a.put o.dst v) w:=by
 unfold pR at hc;split at hc
 ·rename_i o ho;simp only[aC,bD] at hc;obtain⟨⟨⟨hg,hd⟩,hn⟩,hop⟩:=hc;obtain⟨gg,go⟩:=g;unfold Ac at hop;simp only at hr hop;rw[hr] at hop;simp only[lY] at hop;refine⟨o,?_⟩;split at hg
  ·rename_i h1 h2;subst h2;have hw:Region.wanted o (yielded ops a.tmps)=true:=by simp[Region.wanted,h1]
   obtain⟨v,hv,G',aM,s',k1,k2⟩:=KW h hop hK;exact⟨v,ho,.inl ⟨hw,hv⟩,G',aM,s',k1,k2⟩
  ·rename_i j b t b' h1 h2;subst h2;simp only[aC,eH,bD] at hg;obtain⟨⟨rfl,ht⟩,hj⟩:=hg;split at hj
   ·rename_i oj gF;have hj:=zF hj;simp only[pO] at hK;split at hK
    ·rename_i v hv;have hy:=Wd h hv ht gF hj;obtain⟨k1,k2⟩:=hK;have sn:Region.wanted o (yielded ops a.tmps)=(v==b):=by simp only[Region.wanted,h1,hy];cases v<;>cases b<;>rfl
     by_cases lD:v=b;·subst lD;obtain⟨u,hu,G',aM,s',k3,k4⟩:=KW (h.congr (Fx hv)) hop (k1 rfl);exact⟨u,ho,.inl ⟨by rw[sn];simp,hu⟩,G',aM,s',k3,k4⟩
     ·have hnb:v= !b:=by cases v<;>cases b<;>first|rfl|exact absurd rfl lD
      subst hnb;obtain⟨G',h'⟩:=(h.congr (Fx hv)).Jp o.dst (λn jt=>by rw[hd] at jt;simp only[jt] at hn;simpa using hn)
      refine⟨undef,ho,.inr ⟨by rw[sn];simp,rfl⟩,G',zl,_,k2 rfl,?_⟩;rw[hd] at h'⊢;exact h'
    ·rename_i hv;have hy:=We h hv ht gF hj;have sn:Region.wanted o (yielded ops a.tmps)=false:=by simp only[Region.wanted,h1,hy];rfl
     obtain⟨G',h'⟩:=h.Jp o.dst (λn jt=>by rw[hd] at jt;simp only[jt] at hn;simpa using hn)
     refine⟨undef,ho,.inr ⟨sn,rfl⟩,G',zl,_,hK,?_⟩;rw[hd] at h'⊢;exact h'
    ·exact hK.elim
   ·cases hj
  ·cases hg
 ·cases hc
def jX(c:Ctx)(Q:Ex->ah->Prop):Exit->Act->World->Prop
 |.normal,a,w=>wo c (Q .normal) a w
 |.exit id,a,w=>wo c (Q (.exit id)) a w
 |.ret,a,w=>wo c (Q .ret) a w
 |_,_,_=>False
def rG(P:Program)(nt:Nat)(ops:Array Oper):Nat->List M.G->Bool
 |k,[]=>decide (k=ops.size)
 |k,g::l=>pR P nt ops k g && rG P nt ops (k+1) l
def Um{Q:Ex->ah->Prop}:∀(l:List M.G) (k:Nat) {G:Nat->C} {zl:Nat->Nat->Prop} {s:ah} {a:Act} {w:World},rG P c.nt ops k l=true->St c G zl s a w->kA P l s Q->wpOps P ops (jX c Q) (List.range' k l.length) a w
 |[],k,G,zl,s,a,w,hc,h,hK=>⟨G,zl,s,hK,h⟩
 |g::l,k,G,zl,s,a,w,hc,h,hK=>by simp only[rG,aC] at hc;rw[dc,List.range'_succ,wpOps_cons];refine wpOp_mono (λa' w' ⟨_,G',aM,s',k1,k2⟩=>?_) (Q4 h hc.1 hK (jX c Q));exact Um l (k+1) hc.2 k2 k1
def Q5:∀(l:List M.G) (k:Nat),rG P c.nt ops k l=true->k+l.length=ops.size
 |[],k,h=>by simpa [rG] using h
 |g::l,k,h=>by simp only[rG,aC] at h;have:=Q5 l (k+1) h.2;simp only[dc];omega
def akD{Q:Ex->ah->Prop}{l:List M.G}{id:Nat}(hc:rG P c.nt ops 0 l=true)(h:St c G zl s a w)(hK:kA P l s Q):(Code.region id ops false).wp P (jX c Q) a w:=by refine wp_region ?_;have hl:=Q5 l 0 hc;rw[List.range_eq_range',<-hl,mU];exact Um l 0 hc h hK
def Si(ME:List Nat)(s:ah)(t:Nat):∀ks:List Nat,get (ks.map λk=>(k,(get s k).only ME)) t=if ks.contains t then (get s t).only ME else .dead
 |[]=>rfl
 |k::ks=>by
  simp only[bE,get];by_cases h:k=t;·subst h;simp
  ·have h1:(k==t)=false:=by simpa using h
   have h2:(k::ks).contains t=ks.contains t:=by
    simp only[List.contains_cons];have:(t==k)=false:=by simpa using λe=>h e.symm
    rw[this,Bool.false_or]
   rw[h1,h2,qU];exact Si ME s t ks
def St.keep(h:St c G zl s a w)(ks:List Nat):∃G',St c G' zl (M.keep ks s) a w:=by
 let G':Nat->C:=λt=>if ks.contains t then (G t).aB (C.others ks) else .dead (G t).val
 have hin:∀t,ks.contains t=true->G' t=(G t).aB (C.others ks):=λt ht=>aA ht;have hout:∀t,ks.contains t=false->G' t=.dead (G t).val:=λt ht=>aE (by rw[ht];simp)
 have hv:∀t,(G' t).val=(G t).val:=λt=>by
  cases ht:ks.contains t with
  |true=>rw[hin t ht,C.jw]
  |false=>rw[hout t ht];rfl
 have cx:∀t b k,(G' t).fp b k->(G t).fp b k:=λt b k hf=>by
  cases ht:ks.contains t with
  |true=>rw[hin t ht,C.cR] at hf;exact hf
  |false=>rw[hout t ht] at hf;exact hf.elim
 refine⟨G',h.move ⟨λt=>?_,λt=>?_,λt u hne b k hf hf'=>h.inv.sep t u hne b k (cx t b k hf) (cx u b k hf'),λt b k hf=>h.inv.fz t b k (cx t b k hf),λt=>?_,h.inv.cL⟩ hv (Ext.refl (λ_ _=>False) w) (λ_ _ hs=>hs.elim) (λt b k hf=>.inl ⟨t,cx t b k hf⟩)⟩
 ·unfold M.keep;rw[Si];cases ht:ks.contains t with
  |true=>rw[hin t ht,C.CC,h.inv.er];rfl
  |false=>rw[hout t ht];rfl
 ·cases ht:ks.contains t with
  |true=>rw[hin t ht];exact C.mL _ _ (h.inv.ok t)
  |false=>rw[hout t ht];trivial
 ·cases ht:ks.contains t with
  |true=>
   rw[hin t ht];refine C.lS (C.others ks) (λs' q y hk hs=>?_) _ (C.gI _ _) (C.nS _ _ (h.inv.rf t));have hs':ks.contains s'=true:=by simpa [C.others] using hk
   rw[hin s' hs'];rcases C.self y _ q hs with ⟨z,hz,hs2⟩|hno;·exact .inl ⟨_,hz.off _,C.jv _ q _ _ (h.inv.ok s') hs2⟩
   ·exact .inr hno
  |false=>rw[hout t ht];trivial
def Fb:cw->Bool
 |.pS _ _ _=>true
 |_=>false
def acJ{ev:Operand->Value}{o:Oper}{ty:TypeId}{fi:Nat}{x':Operand}{fs:Array Field}{f:Field}{i:TypeInfo}(ho:o.op=.fieldAddr ty x' fi)(hu:P.underlying ty=some (.struct fs))(hf:fs[fi]?=some f)(hi:P.info? f.type=some i)(hi0:i.size≠0){v:Value}{w:World}(h:(execOp ev o).run P w=.ok (.value v) w)(w':World):(execOp ev o).run P w'=.ok (.value v) w':=by
 cases hv:ev x' with
 |pointer p=>
  cases p with
  |none=>simp[execOp,ho,hv,Instr.fieldAt,Instr.sureAddr,run_underlying hu,hf] at h
  |some a=>simp[execOp,ho,hv,Instr.fieldAt,Instr.sureAddr,run_underlying hu,hf,fieldPlace,Go.sizeOf,typeInfo,hi,hi0] at h⊢;exact h
 |_=>simp[execOp,ho,hv,Instr.fieldAt,Instr.sureAddr,run_underlying hu,hf] at h
def abV{i:Nat}{g:M.G}(hc:pR P c.nt ops i g=true)(he:Fb g.o=true){o:Oper}{v:Value}(ho:ops[i]?=some o)(hl:oh P ops o v a w):qZ P ops o v a:=by
 rcases hl with ⟨h1,h2⟩|h
 ·refine .inl ⟨h1,?_⟩;have h3:=h2 w (Ext.refl _ _);unfold pR at hc;rw[ho] at hc;simp only[aC] at hc;obtain⟨_,hop⟩:=hc;obtain⟨gg,go⟩:=g;cases go<;>simp only[Fb] at he<;>try (cases he)
  unfold Ac at hop;simp only[yF,lY] at hop;unfold EY at hop;simp only[aC] at hop;have hc:=hop.2;split at hc
  ·rename_i hfo;split at hc
   ·rename_i fs hfs;split at hc;·rename_i f hf;simp only[aC,bD,zG] at hc;obtain⟨⟨⟨h5,h6⟩,h7⟩,h8⟩:=hc;obtain⟨i,hi⟩:=zC.1 h7;exact λw'=>acJ hfo hfs hf hi (λh0=>by simp[lq,hi,h0] at h6) h3 w'
    ·cases hc
   ·cases hc
  ·cases hc
 ·exact .inr h
def DT.kH:DT->List Nat
 |.nil _=>[]
 |.step i _ _=>[i]
 |.alt a b=>a.kH++b.kH
 |.kp _ t=>t.kH
def DT.quiet:DT->Nat->Bool
 |.nil _,_=>true
 |.step i g t,j=>(if i=j then sZ g.o else true) && t.quiet j
 |.alt a b,j=>a.quiet j && b.quiet j
 |.kp _ t,j=>t.quiet j
def Lt(ops:Array Oper)(q:Nat->Bool)(t:Nat->Nat->Bool)(listed:Array Bool)(e:Bool)(i:Nat):Bool:=match ops[i]? with
 | some oi => (List.range ops.size).all λj => j == i || listed.getD j true || t j i || ((e || q j) && (match ops[j]? with
  |some oj=>oi.apart ops oj
  |none=>true))
 |none=>false
def gC(P:Program)(nt:Nat)(ops:Array Oper)(q:Nat->Bool)(bf:Nat->Nat->Bool):DT->Nat->Array Bool->Bool->Bool
 |.nil _,_,listed,alt=> !alt && decide (Region.ready .any ops listed=[])
 |.step i g t,fuel,listed,alt=>(match fuel with
  |0=>false
  |fuel+1=>pR P nt ops i g && (!q i||sZ g.o) && (alt||decide (Region.ready .any ops listed=[i])||(yF g.o && (Region.ready .any ops listed).contains i && Lt ops q bf listed (Fb g.o) i)) && gC P nt ops q bf t fuel (listed.setIfInBounds i true) false)
 |.alt a b,fuel,listed,alt=>(alt||decide (Region.ready .any ops listed=a.kH++b.kH)) && gC P nt ops q bf a fuel listed true && gC P nt ops q bf b fuel listed true
 |.kp _ t,fuel,listed,alt=>gC P nt ops q bf t fuel listed alt
def Sb{q:Nat->Bool}{t:Nat->Nat->Bool}{listed:Array Bool}{i:Nat}{oi:Oper}{e:Bool}(hi:ops[i]?=some oi)(h:Lt ops q t listed e i=true)(j:Nat)(oj:Oper)(hj:ops[j]?=some oj)(hne:j≠i)(hun:listed.getD j true=false)(hno:t j i=false):oi.apart ops oj=true/\(e=true\/q j=true):=by simp only[Lt,hi,pJ,tD] at h;have h1:=h j (kz.1 hj).1;simp only[hj,vX,eH,hne,false_or,hun,fS,hno,aC] at h1;exact⟨h1.2,h1.1⟩
def vM{q:Nat->Bool}{bf:Nat->Nat->Bool}(kN:wP ops bf=true)(hns:Region.noSelect ops=true){Q:Ex->ah->Prop}:∀(t:DT) (fuel:Nat) (listed:Array Bool) {G:Nat->C} {zl:Nat->Nat->Prop} {s:ah} {a:Act} {w:World},Down ops listed->St c G zl s a w->iD P t s Q->
  (gC P c.nt ops q bf t fuel listed false=true->wpAnyQ P ops q (jX c Q) fuel listed a w)/\
  ((∀i∈t.kH,i∈Region.ready .any ops listed)->gC P c.nt ops q bf t fuel listed true=true->∃f,fuel=f+1/\∀i∈t.kH,wpOp P ops (jX c Q) i (λa' w'=>Rel (q i) w w'/\wpAnyQ P ops q (jX c Q) f (listed.setIfInBounds i true) a' w') a w)
 |.nil ks,fuel,listed,G,zl,s,a,w,hdn,h,hK=>by
  obtain⟨G',h'⟩:=h.keep ks;constructor
  ·intro hc;simp only[gC,Pq,Pr,bD] at hc;cases fuel with
   |zero=>exact⟨hc,G',zl,_,hK,h'⟩
   |succ f=>exact⟨λ_=>⟨G',zl,_,hK,h'⟩,by rw[hc];intro i hi;cases hi⟩
  ·intro _ hc;simp[gC] at hc
 |.step i g t,fuel,listed,G,zl,s,a,w,hdn,h,hK=>by
  cases fuel with
  |zero=>exact⟨λhc=>by simp[gC] at hc,λ_ hc=>by simp[gC] at hc⟩
  |succ f=>
   have AQ:i∈Region.ready .any ops listed->Down ops (listed.setIfInBounds i true):=λhr=>by obtain⟨_,o,ho,hall⟩:=mem_ready.1 hr;exact hdn.set ho hall
   have one:i∈Region.ready .any ops listed->gC P c.nt ops q bf t f (listed.setIfInBounds i true) false=true->pR P c.nt ops i g=true->(q i=true->sZ g.o=true)->
     wpOp P ops (jX c Q) i (λa' w'=>Rel (q i) w w'/\wpAnyQ P ops q (jX c Q) f (listed.setIfInBounds i true) a' w') a w:=λxe ht hg hq=>
    wpOp_mono (λa' w' ⟨hr,G',aM,s',k1,k2⟩=>⟨λhqi=>hr (hq hqi),(vM kN hns t f _ (AQ xe) k2 k1).1 ht⟩) (Q4 h hg hK (jX c Q))
   constructor
   ·intro hc;have hc0:=hc;simp only[gC,aC,vX,bD,fS,false_or] at hc;obtain⟨⟨⟨hg,hq⟩,hr⟩,ht⟩:=hc;have oC:q i=true->sZ g.o=true:=λhqi=>by rw[hqi] at hq;simpa using hq
    rcases hr with hr|⟨⟨hr,hrd⟩,LQ⟩;·refine⟨λh0=>(by rw[hr] at h0;cases h0),λj hj=>?_⟩;rw[hr,fF] at hj;subst hj;exact one (by rw[hr];exact fF.2 rfl) ht hg oC
    ·obtain⟨o,v,ho,hl,G',aM,s',k1,k2⟩:=abW h hg hr hK;have xe:i∈Region.ready .any ops listed:=by simpa using hrd
     cases he:Fb g.o with
     |true=>exact apT ho (Region.noSelect_spec hns) (λ_ _ _ hh=>hh.elim) kN f listed a w hdn (λj oj hj hne hun hno=>(Sb ho LQ j oj hj hne hun hno).1) xe (abV hg he ho hl) ((vM kN hns t f _ (AQ xe) k2 k1).1 ht)
     |false=>rw[he] at LQ;exact wpAnyQ_first ho (Region.noSelect_spec hns) (λ_ _ _ hh=>hh.elim) kN f listed a w hdn (λj oj hj hne hun hno=>(Sb ho LQ j oj hj hne hun hno).imp id λh=>h.resolve_left (by simp)) xe hl ((vM kN hns t f _ (AQ xe) k2 k1).1 ht)
   ·intro LV hc;have hc0:=hc;simp only[gC,aC,vX,bD,true_or] at hc;obtain⟨⟨⟨hg,hq⟩,_⟩,ht⟩:=hc;have oC:q i=true->sZ g.o=true:=λhqi=>by rw[hqi] at hq;simpa using hq
    refine⟨f,rfl,λj hj=>?_⟩;rw[DT.kH,fF] at hj;subst hj;exact one (LV j (fF.2 rfl)) ht hg oC
 |.alt t1 t2,fuel,listed,G,zl,s,a,w,hdn,h,hK=>by
  have both:(∀i∈t1.kH++t2.kH,i∈Region.ready .any ops listed)->gC P c.nt ops q bf t1 fuel listed true=true->gC P c.nt ops q bf t2 fuel listed true=true->∃f,fuel=f+1/\∀i∈t1.kH++t2.kH,wpOp P ops (jX c Q) i (λa' w'=>Rel (q i) w w'/\wpAnyQ P ops q (jX c Q) f (listed.setIfInBounds i true) a' w') a w:=λhh h1 h2=>by
   obtain⟨f,hf,i1⟩:=(vM kN hns t1 fuel listed hdn h hK.1).2 (λi hi=>hh i (O8 _ hi)) h1;obtain⟨f',hf',i2⟩:=(vM kN hns t2 fuel listed hdn h hK.2).2 (λi hi=>hh i (O9 _ hi)) h2;have:f'=f:=by omega
   subst this;exact⟨f',hf,λi hi=>(gO.1 hi).elim (i1 i) (i2 i)⟩
  constructor
  ·intro hc;simp only[gC,aC,vX,bD,fS,false_or] at hc;obtain⟨⟨hr,h1⟩,h2⟩:=hc;obtain⟨f,rfl,hi⟩:=both (λi hi=>by rw[hr];exact hi) h1 h2;refine⟨λh0=>?_,λi hi'=>hi i (by rw[<-hr];exact hi')⟩;exfalso;rw[h0] at hr
   have ne:∀{t:DT},gC P c.nt ops q bf t (f+1) listed true=true->t.kH≠[]:=by
    intro t;induction t with
    |nil=>intro hh;simp[gC] at hh
    |step i g t _=>intro _ hh;cases hh
    |alt a b iU _=>intro hh he;simp only[gC,aC] at hh;rw[DT.kH,Wu] at he;exact iU hh.1.2 he.1
    |kp ks t ih=>exact ih
   have:=(Wu.1 hr.symm).1;exact ne h1 this
  ·intro LV hc;simp only[gC,aC,vX,bD,true_or,true_and] at hc;exact both LV hc.1 hc.2
 |.kp ks t,fuel,listed,G,zl,s,a,w,hdn,h,hK=>by obtain⟨G',h'⟩:=h.keep ks;exact vM kN hns t fuel listed hdn h' hK
def waits(ops:Array Oper)(j i:Nat):Bool:=((Region.before ops).getD j 0).testBit i
def KV(P:Program)(nt:Nat)(ops:Array Oper)(t:DT):Bool:=P.follows .mixedOrders && Region.noSelect ops && wP ops (waits ops) && gC P nt ops t.quiet (waits ops) t ops.size (Array.replicate ops.size false) false
def acy{Q:Ex->ah->Prop}{t:DT}{id:Nat}(hc:KV P c.nt ops t=true)(h:St c G zl s a w)(hK:iD P t s Q):(Code.region id ops true).wp P (jX c Q) a w:=by
 simp only[KV,aC] at hc;obtain⟨⟨⟨hm,hns⟩,kN⟩,hc⟩:=hc;refine wp_region_any hm ?_;have hE:Ext (λ_ _=>False) w w.drew:=Ext.drew w _;have h':St c G zl s a w.drew:=h.move (h.inv.world hE λ_ _ hs=>hs.elim) (λ_=>rfl) hE (λ_ _ hs=>hs.elim) (λt b k hf=>.inl ⟨t,hf⟩);have hdn:Down ops (Array.replicate ops.size false):=λk ok _ hl=>by exfalso;simp only[vY,WA] at hl;split at hl<;>simp at hl
 exact((vM kN hns t ops.size _ hdn h' hK).1 hc).any
end
end M
namespace M
open Go Go.RowKit
variable [Bs]
section
variable {P:Program}{c:Ctx}{G:Nat->C}{zl:Nat->Nat->Prop}{s s':ah}{a:Act}{w:World}
def gU(P:Program)(nt:Nat):A->Code->Bool
 |.skip,.skip=>true
 |.ret,.ret=>true
 |.exit id,.exit id'=>decide (id=id')
 |.ops l,.region _ ops false=>rG P nt ops 0 l
 |.draw t,.region _ ops true=>KV P nt ops t
 |.seq a b,.seq x y=>gU P nt a x && gU P nt b y
 |.cond c a b,.cond c' x y=>aR c' c && gU P nt a x && gU P nt b y
 |.block id b,.block id' x=>decide (id=id') && gU P nt b x
 |.loop b,.loop x=>gU P nt b x
 |.pk _ b,x=>gU P nt b x
 |_,_=>false
def least(p:Nat->Prop):(∃n,p n)->∃m,p m/\∀k,p k->m<=k:=by
 rintro ⟨n,hn⟩;induction n using Nat.strongRecOn with
 |_ n ih=>
  by_cases h:∃k,k<n/\p k;·obtain⟨k,hk,hp⟩:=h;exact ih k hk hp
  ·exact⟨n,hn,λk hk=>by
    rcases iL k n with hlt|hge;·exact(h ⟨k,hlt,hk⟩).elim
    ·exact hge⟩
def ab0:∀(t:A) (code:Code) {Q:Ex->ah->Prop} {G:Nat->C} {zl:Nat->Nat->Prop} {s:ah} {a:Act} {w:World},gU P c.nt t code=true->St c G zl s a w->e9 P t s Q->code.wp P (jX c Q) a w:=by
 intro t;induction t with
 |skip=>intro code Q G zl s a w hc h hK;unfold gU at hc;cases code<;>simp at hc;exact wp_skip ⟨G,zl,s,hK,h⟩
 |ret=>intro code Q G zl s a w hc h hK;unfold gU at hc;cases code<;>simp at hc;exact wp_ret ⟨G,zl,s,hK,h⟩
 |exit id=>intro code Q G zl s a w hc h hK;unfold gU at hc;cases code<;>simp at hc;subst hc;exact wp_exit ⟨G,zl,s,hK,h⟩
 |ops l=>
  intro code Q G zl s a w hc h hK;unfold gU at hc;cases code with
  |region id os d=>
   cases d with
   |false=>exact akD hc h hK
   |true=>simp at hc
  |_=>simp at hc
 |draw t=>
  intro code Q G zl s a w hc h hK;unfold gU at hc;cases code with
  |region id os d=>
   cases d with
   |true=>exact acy hc h hK
   |false=>simp at hc
  |_=>simp at hc
 |seq x y Ms Mt=>
  intro code Q G zl s a w hc h hK;unfold gU at hc;cases code with
  |seq x' y'=>
   simp only[aC] at hc;refine wp_seq (wp_mono (Ms x' hc.1 h hK) λe a w he=>?_);cases e with
   |normal=>obtain⟨G,zl,s,k,h⟩:=he;exact Mt y' hc.2 h k
   |exit id=>exact he
   |ret=>exact he
   |goto l=>exact he.elim
   |panic ch=>exact he.elim
   |outgrown=>exact he.elim
  |_=>simp at hc
 |cond cc x y Ms Mt=>
  intro code Q G zl s a w hc h hK;unfold gU at hc;cases code with
  |cond c' x' y'=>
   simp only[aC] at hc;obtain⟨⟨h1,h2⟩,h3⟩:=hc;obtain⟨d,e1,e2,e3⟩:=cr h h1;simp only[e9] at hK;split at hK;·rename_i b hb;rw[<-e1] at hb;have:=rO hb;subst this;exact wp_cond_split (by rw[<-e2];rfl) (λht=>Ms x' h2 h (hK.1 ht)) (λhf=>Mt y' h3 h (hK.2 hf))
   ·exact hK.elim
  |_=>simp at hc
 |block id b ih=>
  intro code Q G zl s a w hc h hK;unfold gU at hc;cases code with
  |block id' x=>
   simp only[aC,bD] at hc;obtain⟨rfl,hc⟩:=hc;refine wp_block (wp_mono (ih x hc h hK) λe a w he=>?_);cases e with
   |normal=>exact he
   |exit i=>
    obtain⟨G,zl,s,k,h⟩:=he;simp only at k;show if i=id then jX c Q .normal a w else jX c Q (.exit i) a w
    by_cases hi:i=id;·subst hi;rw[aA rfl];simp only[beq_self_eq_true,lY] at k;exact⟨G,zl,s,k,h⟩
    ·rw[aE hi];have:(i==id)=false:=by simpa using hi
     rw[this] at k;exact⟨G,zl,s,k,h⟩
   |ret=>exact he
   |goto l=>exact he.elim
   |panic ch=>exact he.elim
   |outgrown=>exact he.elim
  |_=>simp at hc
 |loop b ih=>
  intro code Q G zl s a w hc h hK;unfold gU at hc;cases code with
  |loop x=>
   obtain⟨I,⟨n,hn⟩,ahW⟩:=hK;let J:Nat->Act->World->Prop:=λn a w=>wo c (I n) a w;have LW:=λa w=>least (λn=>J n a w);let μ:Act->World->Nat:=λa w=>by classical exact if hh:∃n,J n a w then Classical.choose (LW a w hh) else 0
   have hμ:∀a w,(∃n,J n a w)->J (μ a w) a w/\∀k,J k a w->μ a w<=k:=λa w hh=>by have hspec:=El (LW a w hh);have:μ a w=Classical.choose (LW a w hh):=oc hh;rw[this];exact hspec
   refine wp_loop (λa w=>∃n,J n a w) μ ?_ λa w hI=>?_;·exact⟨n,G,zl,s,hn,h⟩
   ·obtain⟨⟨G1,tL,s1,k1,h1⟩,_⟩:=hμ a w hI;refine wp_mono (ih x hc h1 (ahW _ s1 k1)) λe a' w' he=>?_;cases e with
    |normal=>obtain⟨G2,tM,s2,⟨m,hm,hI2⟩,h2⟩:=he;have hJ:J m a' w':=⟨G2,tM,s2,hI2,h2⟩;exact⟨⟨m,hJ⟩,Nat.lt_of_le_of_lt ((hμ a' w' ⟨m,hJ⟩).2 m hJ) hm⟩
    |exit id=>exact he
    |ret=>exact he
    |goto l=>exact he.elim
    |panic ch=>exact he.elim
    |outgrown=>exact he.elim
  |_=>simp at hc
 |pk ks b ih=>
  intro code Q G zl s a w hc h hK;have hc:gU P c.nt b code=true:=by cases b<;>cases code<;>first|exact hc|(rename_i d;cases d<;>exact hc)
  refine wp_mono (ih code hc h hK) λe a w he=>?_;cases e with
  |normal=>obtain⟨G,zl,s,k,h⟩:=he;obtain⟨G',h'⟩:=h.keep ks;exact⟨G',zl,_,k,h'⟩
  |exit id=>exact he
  |ret=>exact he
  |goto l=>exact he.elim
  |panic ch=>exact he.elim
  |outgrown=>exact he.elim
end
end M
namespace M
open Go Go.RowKit
variable [Bs]
def DE:Nat->List X->ah
 |_,[]=>[]
 |i,x::l=>(i,alias (base+i) [] x)::DE (i+1) l
def DF:Nat->List X->ah
 |_,[]=>[]
 |i,x::l=>(base+i,x)::DF (i+1) l
def mZ(xs:List X):ah:=DE 0 xs++DF 0 xs
def X.mI:X->Bool
 |.av _=>true
 |_=>false
def post(x:X):X:=bif x.clean then x else .dead
inductive RV where
 |t (n:Nat)
 |c (n sz:Nat) (agg:Bool) (ty:TypeId)
def ek:List RV->ah->List X×ah
 |[],s=>([],s)
 |.t n::l,s=>((take .mv (ay s (.t n)) s).1::(ek l (take .mv (ay s (.t n)) s).2).1,(ek l (take .mv (ay s (.t n)) s).2).2)
 |.c n sz agg _::l,s=>((match get s n with
  |.ptr .own cs=>if cs.length=sz then (bif agg then .agg (X.hO n [] cs) else (X.hO n [] cs).headD (.av [])) else .av []
  |_=>.av [])::(ek l (iX n [] .dead s)).1,(ek l (iX n [] .dead s)).2)
def vm:List X->X
 |[x]=>x
 |l=>.av l
def qA:Nat->Nat->ah->List X
 |_,0,_=>[]
 |i,n+1,s=>post (get s (base+i))::qA (i+1) n s
def Ends(rs:List RV)(n:Nat)(Q:X->List X->Prop):Ex->ah->Prop
 |.exit _,_=>False
 |_,s=>X.clean.cJ (ek rs s).1=true/\(∀x∈(ek rs s).1,x.mI=false)/\Q (vm (ek rs s).1) (qA 0 n (ek rs s).2)
namespace C
def ug:∀c:C,c.er.clean=true->c.bare
 |.ref _ _ _,h=>by simp[er,X.clean] at h
 |.az _ _ _ _ _,h=>by simp[er,X.clean] at h
 |.cut _ _ _ _ _,h=>by simp[er,X.clean] at h
 |.ptr m g o n c,h=>λj hj=>ug (c j) (by simp only[er,X.clean,aC] at h;exact jZ.1 h.2 _ (bw.2 ⟨j,by simpa using hj,rfl⟩))
 |.agg n c,h=>λj hj=>ug (c j) (by simp only[er,X.clean] at h;exact jZ.1 h _ (bw.2 ⟨j,by simpa using hj,rfl⟩))
 |.av n c,h=>λj hj=>ug (c j) (by simp only[er,X.clean] at h;exact jZ.1 h _ (bw.2 ⟨j,by simpa using hj,rfl⟩))
 |.fn f n c,h=>λj hj=>ug (c j) (by simp only[er,X.clean] at h;exact jZ.1 h _ (bw.2 ⟨j,by simpa using hj,rfl⟩))
 |.dead _,_=>trivial
 |.int _ _,_=>trivial
 |.bool _,_=>trivial
 |.str _,_=>trivial
 |.row _ _ _ _ _ _,_=>trivial
variable {w:World}{zl zb:Nat->Nat->Prop}
def rH:∀c:C,c.er.clean=true->c.ok w (Zf zl zb)->c.ok w (Zf zl λ_ _=>False)
 |.ref _ _ _,h,_=>by simp[er,X.clean] at h
 |.az _ _ _ _ _,h,_=>by simp[er,X.clean] at h
 |.cut _ _ _ _ _,h,_=>by simp[er,X.clean] at h
 |.row m sz A len cap e,h,ho=>by
  simp only[er,X.clean,aC] at h;obtain⟨h1,h2,h3,h4,h5⟩:=ho;refine⟨h1,λi j hi hj=>?_,λi j hi hj=>?_,h4,h5⟩
  ·obtain⟨g,o,q1,q2,q3⟩:=h2 i j hi hj;refine⟨g,o,q1,q2,λhm=>?_⟩;cases m with
   |own=>exact(hm rfl).elim
   |sl=>exact q3 hm
   |af=>simp at h
  ·obtain⟨a1,a2,a3,a4⟩:=h3 i j hi hj;exact⟨a1,a2,a3,rH (e i j) (Q8.1 h.2 _ (bw.2 ⟨i,by simpa using hi,rfl⟩) _ (bw.2 ⟨j,by simpa using hj,rfl⟩)) a4⟩
 |.ptr m g o n c,h,ho=>by
  simp only[er,X.clean,aC] at h;obtain⟨h1,h2,h3,h4⟩:=ho;refine⟨λj hj=>?_,h2,λj hj=>?_,h4⟩
  ·obtain⟨a1,a2,a3⟩:=h1 j hj;refine⟨a1,λhm=>?_,a3⟩;cases m with
   |own=>exact(hm rfl).elim
   |sl=>exact a2 hm
   |af=>simp at h
  ·obtain⟨a1,a2,a3⟩:=h3 j hj;exact⟨a1,a2,rH (c j) (jZ.1 h.2 _ (bw.2 ⟨j,by simpa using hj,rfl⟩)) a3⟩
 |.agg n c,h,ho=>by simp only[er,X.clean] at h;exact⟨λj hj=>⟨(ho.1 j hj).1,rH (c j) (jZ.1 h _ (bw.2 ⟨j,by simpa using hj,rfl⟩)) (ho.1 j hj).2⟩,ho.2⟩
 |.av n c,h,ho=>by simp only[er,X.clean] at h;exact⟨λj hj=>⟨(ho.1 j hj).1,rH (c j) (jZ.1 h _ (bw.2 ⟨j,by simpa using hj,rfl⟩)) (ho.1 j hj).2⟩,ho.2⟩
 |.fn f n c,h,ho=>λj hj=>⟨rH (c j) (by simp only[er,X.clean] at h;exact jZ.1 h _ (bw.2 ⟨j,by simpa using hj,rfl⟩)) (ho j hj).1,(ho j hj).2⟩
 |.dead _,_,_=>trivial
 |.int _ _,_,_=>trivial
 |.bool _,_,_=>trivial
 |.str _,_,h=>h
end C
def Sl(i:Nat):∀(xs:List X) (r:ah) (t:Nat),get (DE i xs++r) t=if i<=t/\t<i+xs.length then alias (base+t) [] (xs.getD (t - i) .dead) else get r t
 |[],r,t=>by rw[aE (by simp only[k8];omega)];rfl
 |x::xs,r,t=>by
  simp only[DE,dG];rw[wZ,Sl (i+1) xs];by_cases h:t=i;·subst h;rw[aA rfl,aA ⟨eP _,by simp only[dc];omega⟩,zA];rfl
  ·rw[aE h];by_cases h2:i+1<=t/\t<i+1+xs.length;·rw[aA h2,aA ⟨by omega,by simp only[dc];omega⟩,show t - i=(t - (i+1))+1 by omega];rfl
   ·rw[aE h2,aE (by simp only[dc];omega)]
def Sm(i:Nat):∀(xs:List X) (t:Nat),get (DF i xs) t=if base+i<=t/\t<base+i+xs.length then xs.getD (t - (base+i)) .dead else .dead
 |[],t=>by rw[aE (by simp only[k8];omega)];rfl
 |x::xs,t=>by
  simp only[DF];rw[wZ,Sm (i+1) xs];by_cases h:t=base+i;·subst h;rw[aA rfl,aA ⟨eP _,by simp only[dc];omega⟩,zA];rfl
  ·rw[aE h];by_cases h2:base+(i+1)<=t/\t<base+(i+1)+xs.length;·rw[aA h2,aA ⟨by omega,by simp only[dc];omega⟩,show t - (base+i)=(t - (base+(i+1)))+1 by omega];rfl
   ·rw[aE h2,aE (by simp only[dc];omega)]
def alj{w:World}{zl zb:Nat->Nat->Prop}{cs:List C}(h:qX w zl zb cs)(mD:Ev w zl zb){nt:Nat}(hn:cs.length<=nt)(hnt:nt<=base):
  ∃G,St ⟨w,λb k=>∃x∈cs,x.fp b k,zl,zb,nt,cs.map C.val⟩ G zl (mZ (cs.map C.er)) ⟨(cs.map C.val).toArray++Array.replicate (nt - (cs.map C.val).toArray.size) undef,[]⟩ w:=by
 let G:Nat->C:=λt=>if t<cs.length then (cs.getD t (.dead undef)).alias (base+t) [] else if base<=t/\t<base+cs.length then cs.getD (t - base) (.dead undef) else .dead undef
 have g1:∀t,t<cs.length->G t=(cs.getD t (.dead undef)).alias (base+t) []:=λt ht=>aA ht;have g2:∀t,t<cs.length->G (base+t)=cs.getD t (.dead undef):=λt ht=>by show (if _ then _ else _:C)=_;rw[aE (by omega),aA (by omega),Nat.add_sub_cancel_left]
 have g3:∀t,¬t<cs.length->¬(base<=t/\t<base+cs.length)->G t=.dead undef:=λt h1 h2=>by show (if _ then _ else _:C)=_;rw[aE h1,aE h2]
 have hm:∀t,t<cs.length->cs.getD t (.dead undef)∈cs:=λt ht=>cT ht _
 have EV:∀t,(t<cs.length/\t<base)\/(∃u,u<cs.length/\t=base+u)\/(G t=.dead undef/\¬t<cs.length/\¬(base<=t/\t<base+cs.length)):=λt=>by
  by_cases h1:t<cs.length;·exact .inl ⟨h1,by omega⟩
  ·by_cases h2:base<=t/\t<base+cs.length;·exact .inr (.inl ⟨t - base,by omega,by omega⟩)
   ·exact .inr (.inr ⟨g3 t h1 h2,h1,h2⟩)
 have hal:∀t,t<cs.length->(G t).ok w (Zf zl zb)/\(G t).rf G/\∀b k,¬(G t).fp b k:=λt ht=>by rw[g1 t ht];have hx:=hm t ht;exact C.P3 (base+t) _ (g2 t ht) (h.ok _ hx) (C.rB G _ (h.bare _ hx))
 have cx:∀t b k,(G t).fp b k->∃u,u<cs.length/\t=base+u/\(cs.getD u (.dead undef)).fp b k:=λt b k hf=>by
  rcases EV t with ⟨h1,_⟩|⟨u,hu,rfl⟩|⟨h1,_⟩;·exact((hal t h1).2.2 b k hf).elim
  ·rw[g2 u hu] at hf;exact⟨u,hu,rfl,hf⟩
  ·rw[h1] at hf;exact hf.elim
 refine⟨G,⟨⟨λt=>?_,λt=>?_,λt u hne b k hf hf'=>?_,λt b k hf=>?_,λt=>?_,h.cL⟩,λt ht=>?_,?_,hnt,rfl,⟨Ext.refl _ _,λt b k hf=>?_,λ_ _ hz=>hz,λ_ _ hz=>.inl hz,mD,λb k hb ⟨x,hx,hf⟩=>((mD b hb).2 k).elim (h.fz x hx b k hf).1 (h.fz x hx b k hf).2⟩,λi v hi=>?_⟩⟩
 ·have hgd:∀u,(cs.map C.er).getD u .dead=(cs.getD u (.dead undef)).er:=λu=>by rw[k6,k6,dm];cases cs[u]?<;>rfl
  unfold mZ;rw[Sl,Sm,dH,hgd,hgd];rcases EV t with ⟨h1,h2⟩|⟨u,hu,rfl⟩|⟨h1,h2,h3⟩;·rw[aA ⟨by omega,by omega⟩,g1 t h1,C.P4,Nat.sub_zero]
  ·rw[aE (by omega),aA ⟨by omega,by omega⟩,g2 u hu,show base+u - (base+0)=u by omega]
  ·rw[aE (by omega),aE (by omega),h1];rfl
 ·rcases EV t with ⟨h1,_⟩|⟨u,hu,rfl⟩|⟨h1,_⟩;·exact(hal t h1).1
  ·rw[g2 u hu];exact h.ok _ (hm u hu)
  ·rw[h1];trivial
 ·obtain⟨x,hx,e1,h1⟩:=cx t b k hf;obtain⟨y,hy,e2,h2⟩:=cx u b k hf';exact yC h.apart _ hx hy (λe=>hne (by rw[e1,e2,e])) h1 h2
 ·obtain⟨x,hx,e1,h1⟩:=cx t b k hf;exact h.fz _ (hm x hx) b k h1
 ·rcases EV t with ⟨h1,_⟩|⟨u,hu,rfl⟩|⟨h1,_⟩;·exact(hal t h1).2.1
  ·rw[g2 u hu];exact C.rB G _ (h.bare _ (hm u hu))
  ·rw[h1];trivial
 ·rw[vY,Array.getElem?_append];simp only[qQ,dH];by_cases h1:t<cs.length;·rw[aA h1,g1 t h1,C.P5,zM,dm,cv h1,pU (cv h1)];rfl
  ·rw[aE h1,g3 t h1 (by omega),WA];split<;>rfl
 ·simp only[Pf,qQ,dH,Array.size_replicate];omega
 ·obtain⟨x,hx,e1,h1⟩:=cx t b k hf;exact .inl ⟨_,hm x hx,h1⟩
 ·simp only[dm] at hi;cases hc:cs[i]? with
  |none=>rw[hc] at hi;cases hi
  |some x=>
   rw[hc] at hi;injection hi with hi
   have hlt:=(aK.1 hc).1;rw[g2 i hlt,pU hc,hi]
end M
namespace M
open Go Go.RowKit
variable [Bs]
def uf(P:Program):List ResultVar->List RV->Bool
 |[],[]=>true
 |.tmp t::l,.t t'::l'=>t==t' && decide (t<base) && uf P l l'
 |.cell a ty::l,.c n sz agg ty'::l'=>a==n && decide (n<base) && ty==ty' && lq P ty sz && uQ P ty agg && (agg||decide (sz=1)) && uf P l l'
 |_,_=>false
section
variable {P:Program}{w:World}
def aji(x:C)(h:x.er.mI=false):x.gj:=by cases x<;>first|trivial|(simp[C.er,X.mI] at h)
def Nl:List Value->Value
 |[v]=>v
 |l=>.tuple l.toArray
def CJ(tmps:Array Value):ResultVar->Sem Value
 |.tmp t=>pure (tmps.getD t undef)
 |.cell a t=>do loadVar t (<-asAddr (tmps.getD a undef))
def akW{fn:Func}{vs:List Value}(tmps:Array Value)(h:(fn.results.toList.mapM (CJ tmps)).run P w=.ok vs w):(results fn tmps).run P w=.ok (Nl vs) w:=by
 unfold results;rw[Array.mapM_eq_mapM_toList];rw[Sem.run_bind,Sem.run_map];erw [h];simp only[Result.andThen_ok,Sem.run_pure];match vs with
 |[]=>rfl
 |[v]=>rfl
 |u::v::l=>simp[Nl]
def OA{c:Ctx}{zl:Nat->Nat->Prop}{a:Act}:∀{l':List ResultVar} {l:List RV},uf P l' l=true->∀{G:Nat->C} {s:ah},St c G zl s a w->(∀x∈(ek l s).1,x.mI=false)->
  ∃cs G',cs.map C.er=(ek l s).1/\(l'.mapM (CJ a.tmps)).run P w=.ok (cs.map C.val) w/\bM w zl c.zb G cs G' (ek l s).2
 |[],[],_,G,s,h,_=>⟨[],G,rfl,by simp,bM.nil h.inv⟩
 |.tmp t::l',.t t'::l,hc,G,s,h,hk=>by
  simp only[uf,aC,eH,bD] at hc;obtain⟨⟨rfl,ht⟩,hc⟩:=hc;obtain⟨p,p1,p2,p3⟩:=cr h (o:=.tmp t) (x:=.t t) (by simp[aR,ht]);obtain⟨y,G1,f1,f2,f3,f4⟩:=qN .mv h.inv p3;rw[p1] at f1 f4;obtain⟨cs,G',g1,g2,g3⟩:=OA hc (h.zk f4) λx hx=>hk x (cl _ hx);refine⟨y::cs,G',by simp[ek,f1,g1],?_,bM.cons f4 g3⟩;have hv:a.tmps.getD t undef=y.val:=by rw[f2,p2];rfl
  simp only[List.mapM_cons,CJ,Sem.run_bind,Sem.run_pure,Result.andThen_ok,g2,hv,bE]
 |.cell ad ty::l',.c n sz agg ty'::l,hc,G,s,h,hk=>by
  simp only[uf,aC,eH,bD] at hc;obtain⟨⟨⟨⟨⟨⟨rfl,ht⟩,rfl⟩,hsz⟩,nu⟩,h1⟩,hc⟩:=hc
  have hk0:(match get s ad with
   |.ptr .own cs=>if cs.length=sz then (bif agg then .agg (X.hO ad [] cs) else (X.hO ad [] cs).headD (.av [])) else .av []
   |_=>.av []:X).mI=false:=hk _ (bH ..)
  split at hk0
  ·rename_i cs0 hg;split at hk0
   ·rename_i hlen;obtain⟨D,G1,t1,t2,t3,t4,t5,t6,t7,t8,t9,t10,t11,t12⟩:=h.inv.vL ad [] (G ad) rfl;rw[h.inv.er,hg] at t1;simp only[X.kill] at t1;obtain⟨g,o,m,f,rfl,hcs⟩:=Lf t1;have hm:m=sz:=by have:=dF List.length hcs;rw[X.MC] at this;simpa [hlen] using this.symm
    subst hm;obtain⟨q1,q2,q3,q4⟩:=t4;have hin:∀j,j<m->∀b k,(f j).fp b k->(C.ptr .own g o m f).fp b k:=λj hj b k hf=>C.kO (q3 j hj).1 (q3 j hj).2.1 hj hf;have LF:a.tmps.getD ad undef=.pointer (some ⟨g,o,none⟩):=by rw[<-h.val ad ht,<-t2];rfl
    obtain⟨ii,hi,kJ⟩:=rY hsz;obtain⟨dd,AE,hda⟩:=BE nu;have uD:(isAgg ty).run P w=.ok agg w:=by subst hda;simp only[isAgg,Sem.run_bind,run_underlying AE,Result.andThen_ok];cases dd<;>rfl
    have hsize:(Go.sizeOf ty).run P w=.ok m w:=by simp[Go.sizeOf,typeInfo,hi,kJ]
    have hl:(loadCells ⟨g,o,none⟩ m).run P w=.ok ((List.range m).map λj=>(f j).val).toArray w:=run_loadCells w _ m _ (λj hj=>by rw[ri];exact(q1 j hj).1)
    have fin:∀y:C,(∀b k,y.fp b k->(C.ptr .own g o m f).fp b k)->y.ok w (Zf zl c.zb)->y.rf G1->y.er=(if cs0.length=m then (bif agg then .agg (X.hO ad [] cs0) else (X.hO ad [] cs0).headD (.av [])) else .av [])->(loadVar ty ⟨g,o,none⟩).run P w=.ok y.val w->
      ∃cs G',cs.map C.er=(ek (.c ad m agg ty::l) s).1/\((ResultVar.cell ad ty::l').mapM (CJ a.tmps)).run P w=.ok (cs.map C.val) w/\bM w zl c.zb G cs G' (ek (.c ad m agg ty::l) s).2:=λy O7 yok yrf yer aqd=>by
     have jK:fI w zl c.zb G y G1 (iX ad [] .dead s):=⟨t3,yok,yrf,λt b k hf=>t8 t b k (O7 b k hf),λb k hf=>h.inv.fz ad b k (t9 b k (O7 b k hf)),t10,λb k hf=>⟨ad,t9 b k (O7 b k hf)⟩,t11⟩;obtain⟨cs,G',g1,g2,g3⟩:=OA hc (h.zk jK) λx hx=>hk x (cl _ hx);refine⟨y::cs,G',?_,?_,bM.cons jK g3⟩;·simp only[bE,ek,hg,yer,g1]
     ·simp only[List.mapM_cons,CJ,LF,asAddr,Sem.run_bind,Sem.run_pure,Result.andThen_ok,aqd,g2,bE]
    cases agg with
    |true=>
     refine fin (.agg m f) (λb k ⟨j,hj,hf⟩=>hin j hj b k hf) ⟨λj hj=>⟨(q3 j hj).1,(q3 j hj).2.2⟩,λj hj b k hf=>(q4 j hj b k hf).2⟩ t5 ?_ ?_;·rw[aA hlen,lY,hcs];rfl
     ·simp only[loadVar,Sem.run_bind,uD,Result.andThen_ok,cN,hsize,hl,Sem.run_pure];rfl
    |false=>
     have hs1:m=1:=by simpa using h1
     subst hs1;refine fin (f 0) (λb k hf=>hin 0 (by omega) b k hf) (q3 0 (by omega)).2.2 (t5 0 (by omega)) ?_ ?_;·rw[aA hlen,qU,hcs];rfl
     ·have:=(q1 0 (by omega)).1;simp only[loadVar,Sem.run_bind,uD,Result.andThen_ok,fS,di,run_load];simp only[oa] at this;rw[this]
   ·simp[X.mI] at hk0
  ·simp[X.mI] at hk0
 |[],_::_,hc,_,_,_,_=>by cases hc
 |.tmp _::_,[],hc,_,_,_,_=>by cases hc
 |.cell _ _::_,[],hc,_,_,_,_=>by cases hc
 |.tmp _::_,.c _ _ _ _::_,hc,_,_,_,_=>by cases hc
 |.cell _ _::_,.t _::_,hc,_,_,_,_=>by cases hc
def aks{c:Ctx}{G:Nat->C}{zl:Nat->Nat->Prop}{s:ah}(h:Inv w zl c.zb G s)(t:Nat):∃p:C,p.er=post (get s t)/\p.val=(G t).val/\p.ok w (Zf zl λ_ _=>False)/\p.bare/\∀b k,p.fp b k->(G t).fp b k:=by
 unfold post;cases hc:(get s t).clean with
 |true=>rw[<-h.er] at hc;exact⟨G t,h.er t,rfl,C.rH _ hc (h.ok t),C.ug _ hc,λ_ _ hf=>hf⟩
 |false=>exact⟨.dead (G t).val,rfl,rfl,trivial,trivial,λ_ _ hf=>hf.elim⟩
def Ux{c:Ctx}{G:Nat->C}{zl:Nat->Nat->Prop}{s:ah}(h:Inv w zl c.zb G s):∀(n i:Nat),∃ps:List C,ps.map C.er=qA i n s/\ps.map C.val=(List.range' i n).map (λj=>(G (base+j)).val)/\(∀p∈ps,p.ok w (Zf zl λ_ _=>False)/\p.bare/\∃t,i<=t/\∀b k,p.fp b k->(G (base+t)).fp b k)/\ps.Pairwise λa b=>∀x k,a.fp x k->¬b.fp x k
 |0,i=>⟨[],rfl,rfl,λ_ hx=>(by cases hx),List.Pairwise.nil⟩
 |n+1,i=>by
  obtain⟨p,p1,p2,p3,p4,p5⟩:=aks h (base+i);obtain⟨ps,q1,q2,q3,q4⟩:=Ux h n (i+1);refine⟨p::ps,by simp[qA,p1,q1],by simp[List.range'_succ,p2,q2],λx hx=>?_,fG.2 ⟨λx hx b k hf hf'=>?_,q4⟩⟩
  ·rcases ck.1 hx with rfl|hx;·exact⟨p3,p4,i,eP _,p5⟩
   ·obtain⟨a1,a2,t,ht,a3⟩:=q3 x hx;exact⟨a1,a2,t,by omega,a3⟩
  ·obtain⟨_,_,t,ht,a3⟩:=q3 x hx;exact h.sep (base+i) (base+t) (by omega) b k (p5 b k hf) (a3 b k hf')
structure Told (P:Program) (f:FuncId) (t:A) (rs:List RV) (n:Nat):Prop where
 told:∃fn code,P.funcs[f]?=some fn/\fn.body=some code/\gU P fn.ntmps t code=true/\uf P fn.results.toList rs=true/\fn.ntmps<=base/\n<=fn.ntmps
def Told.ac{f:FuncId}{t:A}{rs:List RV}{n:Nat}(hT:Told P f t rs n){xs:List X}(hn:xs.length=n){Q:X->List X->Prop}(h:e9 P t (mZ xs) (Ends rs n Q)):AC P f xs Q:=by
 intro w zl zb cs hxs hA mD;obtain⟨fn,code,hf,hb,hc,hr,hnt,jt⟩:=hT.told;have hcl:cs.length=n:=by rw[<-hn,<-hxs];simp
 obtain⟨G,hst⟩:=alj hA mD (nt:=fn.ntmps) (by omega) hnt;rw[hxs] at hst;refine calls_of_wp hf hb (wp_mono (ab0 t code hc hst h) λe a w' he=>?_)
 have fin:∀{G:Nat->C} {aM:Nat->Nat->Prop} {s:ah},St ⟨w,λb k=>∃x∈cs,x.fp b k,zl,zb,fn.ntmps,cs.map C.val⟩ G aM s a w'->(X.clean.cJ (ek rs s).1=true/\(∀x∈(ek rs s).1,x.mI=false)/\Q (vm (ek rs s).1) (qA 0 n (ek rs s).2))->
   a.defers=[]/\∃v,(results fn a.tmps).run P w'=.ok v w'/\∃r ps aM,PS w zl cs (.returned v) w' r ps aM/\Q r.er (ps.map C.er):=by
  intro G aM s h ⟨k1,k2,k3⟩;obtain⟨nV,G1,g1,g2,jK⟩:=OA hr h k2;refine⟨h.defers,_,akW a.tmps g2,?_⟩;rw[<-g1] at k1 k2 k3;obtain⟨ps,p1,p2,p3,p4⟩:=Ux (c:=⟨w,λb k=>∃x∈cs,x.fp b k,zl,zb,fn.ntmps,cs.map C.val⟩) jK.inv n 0;have hrc:∀x∈nV,x.er.clean=true:=λx hx=>jZ.1 k1 _ (fR hx)
  obtain⟨r,r1,r2,r3,r4,r5⟩:∃r:C,r.er=vm (nV.map C.er)/\r.val=Nl (nV.map C.val)/\r.ok w' (Zf aM λ_ _=>False)/\r.bare/\∀b k,r.fp b k->∃x∈nV,x.fp b k:=by
   by_cases h1:nV.length=1;·obtain⟨x,rfl⟩:=List.length_eq_one_iff.1 h1;refine⟨x,rfl,rfl,C.rH x (hrc x (fF.2 rfl)) (jK.all x (fF.2 rfl)).1,C.ug x (hrc x (fF.2 rfl)),λb k hf=>⟨x,fF.2 rfl,hf⟩⟩
   ·refine⟨.av nV.length λj=>nV.getD j (.dead undef),?_,?_,⟨λj hj=>⟨?_,C.rH _ (hrc _ (cT hj _)) (jK.all _ (cT hj _)).1⟩,λj hj b k hf j' hj' hne=>yC jK.apart _ hj hj' hne hf⟩,λj hj=>C.ug _ (hrc _ (cT hj _)),λb k ⟨j,hj,hf⟩=>⟨_,cT hj _,hf⟩⟩
    ·show X.av _=_;rw[mM nV _ C.er];cases nV with
     |nil=>rfl
     |cons x l=>cases l with
      |nil=>simp at h1
      |cons y l=>rfl
    ·show Value.tuple _=_;rw[mM nV _ C.val];cases nV with
     |nil=>rfl
     |cons x l=>cases l with
      |nil=>simp at h1
      |cons y l=>rfl
    ·have:=k2 _ (fR (cT hj (.dead undef)));exact aji _ this
  refine⟨r,ps,aM,?_,by rw[r1,p1];exact k3⟩;have ahs:∀t b k,(G1 t).fp b k->(∃y∈cs,y.fp b k)\/w.heap.size<=b:=λt b k hf=>h.tr.dom t b k (jK.mono t b k hf);have hrd:∀b k,r.fp b k->(∃y∈cs,y.fp b k)\/w.heap.size<=b:=λb k hf=>by obtain⟨x,hx,hf⟩:=r5 b k hf;obtain⟨t,ht⟩:=(jK.all x hx).2.2.2 b k hf;exact h.tr.dom t b k ht
  refine⟨by rw[r2],?_,h.tr.ext,⟨λx hx=>?_,λx hx=>?_,λx hx b k hf=>?_,λb k hz=>jK.inv.cL b k (hz.imp id λh=>h.elim),fG.2 ⟨λx hx b k hf hf'=>?_,p4⟩⟩,λx hx b k hf=>?_,h.tr.pL,h.tr.zl⟩
  ·rw[p2,List.range_eq_range'.symm];apply gP;intro i;rw[dm,dm];by_cases hi:i<n;·rw[tK hi,cv (by omega)];simp only[cq,dX];rw[jK.val];exact h.args i _ (by rw[dm,cv (by omega)];rfl)
   ·rw[k7 (by simp;omega),k7 (by omega)];rfl
  ·rcases ck.1 hx with rfl|hx;·exact r3
   ·exact(p3 x hx).1
  ·rcases ck.1 hx with rfl|hx;·exact r4
   ·exact(p3 x hx).2.1
  ·refine⟨?_,λh=>h⟩;rcases ck.1 hx with rfl|hx;·obtain⟨y,hy,hf⟩:=r5 b k hf;exact((jK.all y hy).2.2.1 b k hf).1
   ·obtain⟨_,_,t,_,a3⟩:=p3 x hx;exact(jK.inv.fz _ b k (a3 b k hf)).1
  ·obtain⟨y,hy,hf⟩:=r5 b k hf;obtain⟨_,_,t,_,a3⟩:=p3 x hx;exact(jK.all y hy).2.1 _ b k hf (a3 b k hf')
  ·rcases ck.1 hx with rfl|hx;·exact hrd b k hf
   ·obtain⟨_,_,t,_,a3⟩:=p3 x hx;exact ahs _ b k (a3 b k hf)
 cases e with
 |normal=>obtain⟨G,aM,s,k,h⟩:=he;exact fin h k
 |ret=>obtain⟨G,aM,s,k,h⟩:=he;exact fin h k
 |exit id=>obtain⟨G,aM,s,k,h⟩:=he;exact k.elim
 |goto l=>exact he.elim
 |panic ch=>exact he.elim
 |outgrown=>exact he.elim
def Vz(P:Program)(fn:Func)(t:A)(rs:List RV)(n:Nat):Bool:=match fn.body with
 |some code=>gU P fn.ntmps t code && uf P fn.results.toList rs && decide (fn.ntmps<=base) && decide (n<=fn.ntmps)
 |none=>false
def Told.of{f:FuncId}{fn:Func}{t:A}{rs:List RV}{n:Nat}(hf:P.funcs[f]?=some fn)(h:Vz P fn t rs n=true):Told P f t rs n:=by
 unfold Vz at h;split at h;·rename_i code hc;simp only[aC,bD] at h;exact⟨fn,code,hf,hc,h.1.1.1,h.1.1.2,h.1.2,h.2⟩
 ·cases h
end
end M
namespace M
open Go
def AC.mono[Bs]{P:Program}{f:FuncId}{xs:List X}{Q Q':X->List X->Prop}(h:AC P f xs Q)(hq:∀r ps,Q r ps->Q' r ps):AC P f xs Q':=
 λw zl zb cs e a g=>(h w zl zb cs e a g).mono λ_ _ ⟨r,ps,aM,d,q⟩=>⟨r,ps,aM,d,hq _ _ q⟩
abbrev Out:=X×List X
abbrev cB:=FuncId->List X->Option Out
def xJ(f:FuncId):X->Bool
 |.fn g _=>g==f
 |_=>false
def wK(s1:ah)(fv:Option AV)(f:FuncId):Bool:=match fv with
 |none=>true
 |some x=>xJ f (ay s1 x)
abbrev zQ:=X->Option ah
def HL(r:Nat)(p:Path)(s:ah)(n:Nat)(x:X):Option (X×zQ):=
 match x with
 |.ref _ _=>(match look s r p with
  |some (.row .own z xs)=>some (.row .own z xs,λy=>match y with
   |.row .own z' ys=>if z'=z then some (iJ r p (.row .own z ys) s) else none
   |_=>none)
  |_=>none)
 |.az _ _ i c=>(match look s r p with
  |some (.ptr .own cs)=>if c+n<=cs.length then some (.ptr .own ((cs.drop c).take n),λy=>match y with
   |.ptr .own ys=>if ys.length=n then some (iJ r p (.ptr .own (cs.take c++ys++cs.drop (c+n))) s) else none
   |_=>none) else none
  |some (.row .own z xs)=>(match xs[i]? with
   |some e=>if c+n<=e.length then some (.ptr .own ((e.drop c).take n),λy=>match y with
    |.ptr .own ys=>if ys.length=n then (if iu ys=true then some (iJ r p (.row .own z (xs.set i (e.take c++ys++e.drop (c+n)))) s) else none) else none
    |_=>none) else none
   |none=>none)
  |_=>none)
 |_=>none
def qB(d:Option Nat)(s:ah):Option Out->Option ah
 |some o=>some (fV d o.1 s)
 |none=>none
def CI(d:Option Nat)(as:List (AV×PM))(back:zQ):Option Out->Option ah
 |some o=>(match back (kQ as o.2) with
  |some s'=>some (fV d o.1 s')
  |none=>none)
 |none=>none
def EU(C:cB)(f:FuncId)(d:Option Nat)(as:List (AV×PM))(fv:Option AV)(ms:List X)(s0:ah):Option (X×zQ)->Option ah
 |some (y,back)=>if X.bare y=true/\wK s0 fv f=true then CI d as back (C f (gy s0 y as ms++oq s0 fv)) else none
 |none=>none
def rD(C:cB)(f:FuncId)(d:Option Nat)(as:List (AV×PM))(fv:Option AV)(s:ah):Option ah:=
 if X.bare.jE (bX as s).1=true then
 match ei as with
 |none=>if wK (bX as s).2 fv f=true then qB d (bX as s).2 (C f (gy (bX as s).2 .dead as (bX as s).1++oq (bX as s).2 fv)) else none
 |some (x,n)=>EU C f d as fv (bX as s).1 (iX (placeOf (ay (bX as s).2 x)).1 (placeOf (ay (bX as s).2 x)).2 .dead (bX as s).2) (HL (placeOf (ay (bX as s).2 x)).1 (placeOf (ay (bX as s).2 x)).2 (bX as s).2 n (ay (bX as s).2 x))
 else none
def EG(op:BinOp):X->X->Bool
 |.int k a,.int k' b=>match op with
  |.shl=>decide (0<=b)
  |.shr=>decide (0<=b)
  |.quo=>decide (k=k') && !decide (b=0)
  |.rem=>decide (k=k') && !decide (b=0)
  |.andNot=>false
  |_=>decide (k=k')
 |.str a,.str b=>match op with
  |.add=>decide (a.size+b.size<=9223372036854775807)
  |.eql=>true
  |.neq=>true
  |_=>false
 |_,_=>false
def Y9{op:BinOp}{x y:X}(h:EG op x y=true):wG op x y:=by cases x<;>cases y<;>cases op<;>simp_all[EG,wG]
def Jo(op:UnOp):X->Bool
 |.int _ _=>match op with
  |.neg=>true
  |_=>false
 |.bool _=>match op with
  |.not=>true
  |_=>false
 |_=>false
def apO{op:UnOp}{x:X}(h:Jo op x=true):zo op x:=by cases x<;>cases op<;>simp_all[Jo,zo]
def GN:List X->Option UInt8
 |[.int .u8 n]=>if 0<=n/\n<256 then some (UInt8.ofNat n.toNat) else none
 |_=>none
def aid{e:List X}{b:UInt8}(h:GN e=some b):e=[.int .u8 b.toNat]:=by
 unfold GN at h;split at h
 ·split at h
  ·rename_i n hn;obtain rfl:=iz h;have:(UInt8.ofNat n.toNat).toNat=n.toNat:=by rw[Pm];exact Nat.mod_eq_of_lt (by omega)
   rw[this];congr 2;omega
  ·cases h
 ·cases h
def tB:List (List X)->Option (List UInt8)
 |[]=>some []
 |e::l=>match GN e,tB l with
  |some b,some r=>some (b::r)
  |_,_=>none
def VD:∀{xs:List (List X)} {l:List UInt8},tB xs=some l->xs=l.map λb=>[.int .u8 b.toNat]
 |[],l,h=>by cases h;rfl
 |e::r,l,h=>by
  unfold tB at h;split at h;·rename_i b r' h1 h2;obtain rfl:=iz h;rw[aid h1,VD h2];rfl
  ·cases h
def VE(l:List UInt8):tB (l.map λb=>[.int .u8 (b.toNat:Int)])=some l:=by
 induction l with
 |nil=>rfl
 |cons b l ih=>
  simp only[bE,tB,ih];have:GN [.int .u8 (b.toNat:Int)]=some b:=by have h:=b.toNat_lt;show (if 0<=(b.toNat:Int)/\(b.toNat:Int)<256 then some (UInt8.ofNat (b.toNat:Int).toNat) else none)=some b;rw[aA ⟨by omega,by omega⟩];simp
  rw[this]
def fP:List (List X)->Bool
 |[]=>true
 |e::l=>e.all scalar && fP l
def Om{xs:List (List X)}(h:fP xs=true):scalars xs:=by
 induction xs with
 |nil=>intro e he;cases he
 |cons a l ih=>
  simp only[fP,aC,pJ] at h;intro e he c hc;rcases ck.1 he with rfl|he;·exact h.1 c hc
  ·exact ih h.2 e he c hc
def Dz(h:Tk)(l:List X):Bool:=match h with
 |.al=>true
 |_=>l.all λx=>iu (cellsOf x)
def ak8{h:Tk}{l:List X}(e:Dz h l=true):Ja h l:=by
 cases h;·intro x hx;exact(pJ.1 e) x hx
 ·trivial
 ·intro x hx;exact(pJ.1 e) x hx
def vJ:List Nat->List X->Bool
 |[],[]=>true
 |n::ns,y::ys=>((cellsOf y).length==n) && vJ ns ys
 |_,_=>false
def Vb:∀{ns:List Nat} {ys:List X},vJ ns ys=true->ze ns ys
 |[],[],_=>trivial
 |[],_::_,h=>by cases h
 |_::_,[],h=>by cases h
 |n::ns,y::ys,h=>by simp only[vJ,aC,eH] at h;exact⟨h.1,Vb h.2⟩
def yg(sz:Nat)(l:List X):Bool:=l.all λx=>((cellsOf x).length==sz) && iu (cellsOf x)
def Jb(s:ah)(r:Nat)(p:Path)(i c:Nat)(l:List X):Bool:=match look s r p with
 |some (.row .own _ xs)=>(match xs[i]? with
  |some e=>decide (c+l.length<=e.length) && iu l
  |none=>false)
 |some (.ptr .own cs)=>decide (c+l.length<=cs.length)
 |_=>false
def aln{s:ah}{r:Nat}{p:Path}{i c:Nat}{l:List X}(h:Jb s r p i c l=true):storable s r p i c l:=by
 unfold Jb at h;unfold storable;split at h
 ·split at h;·rename_i h1 _ _ h2;rw[h1];simp only[h2];simpa using h
  ·cases h
 ·rename_i h1;rw[h1];simpa using h
 ·cases h
def UA(d:Option Nat)(cs:List X)(s1:ah):Option Out->Option ah
 |some (r,.agg ys::_)=>if iu ys=true then (match mY cs ys s1 with
  |some s'=>some (fV d r s')
  |none=>none) else none
 |_=>none
def cQ(C:cB)(ok:FuncId->Bool)(o:cw)(s:ah):Option ah:=
 match o with
 |.mv d x=>some (put d (ay s x) s)
 |.aU d h x=>some (put d (take h (ay s x) s).1 (take h (ay s x) s).2)
 |.pick d c a b=>match ay s c with
  |.bool t=>some (put d (CE t (ay s a) (ay s b)) s)
  |_=>none
 |.un d op x=>if Jo op (ay s x)=true then some (put d (ON op (ay s x)) s) else none
 |.bin d op x y=>if EG op (ay s x) (ay s y)=true then some (put d (Kc op (ay s x) (ay s y)) s) else none
 |.beq d neg x y=>match ay s x,ay s y with
  |.bool p,.bool q=>some (put d (.bool (xor neg (p==q))) s)
  |_,_=>none
 |.sU d neg x=>match ay s x with
  |.row _ _ xs=>if kn xs=true then some (put d (.bool neg) s) else none
  |_=>none
 |.mX d neg ks x y=>match ay s x,ay s y with
  |.agg p,.agg q=>match j6 ks p q with
   |some t=>some (put d (.bool (xor neg t)) s)
   |none=>none
  |_,_=>none
 |.conv d k x=>match ay s x with
  |.int _ n=>some (put d (.int k (k.wrap n)) s)
  |_=>none
 |.bytes d x=>match ay s x with
  |.str t=>some (put d (.row .own 1 (t.data.toList.map λb=>[.int .u8 b.toNat])) s)
  |_=>none
 |.text d x=>match rowAt s (ay s x) with
  |some (1,xs)=>if xs.length<=9223372036854775807 then (match tB xs with
   |some l=>some (put d (.str ⟨l.toArray⟩) s)
   |none=>none) else none
  |_=>none
 |.box d h x=>if 0<(cellsOf (take h (ay s x) s).1).length then some (put d (.ptr .own (cellsOf (take h (ay s x) s).1)) (take h (ay s x) s).2) else none
 |.new d z=>some (put d (.ptr .own z) s)
 |.build d h z ps=>if Dz h (takes h (ps.map (·.2)) s).1=true/\vJ (ps.map (·.1.2)) (takes h (ps.map (·.2)) s).1=true then some (put d (.agg (wY z (ps.map (·.1.1)) (takes h (ps.map (·.2)) s).1)) (takes h (ps.map (·.2)) s).2) else none
 |.lit d h sz ps=>if yg sz (takes h ps s).1=true then some (put d (.row .own sz ((takes h ps s).1.map cellsOf)) (takes h ps s).2) else none
 |.make d sz bytes z n=>match ay s n with
  |.int _ i=>if 0<=i/\i*bytes<=140737488355328 then some (put d (.row .own sz (List.replicate i.toNat z)) s) else none
  |_=>none
 |.load d sz agg a=>match gB s (ay s a) with
  |some cs=>if sz<=cs.length then some (put d (bif agg then .agg (cs.take sz) else cs.headD .dead) s) else none
  |none=>none
 |.store sz h a x=>if (cellsOf (take h (ay s x) s).1).length=sz then (match ay (take h (ay s x) s).2 a with
  |.az r p i c=>if Jb (take h (ay s x) s).2 r p i c (cellsOf (take h (ay s x) s).1)=true then some (setCells r p i c (cellsOf (take h (ay s x) s).1) (take h (ay s x) s).2) else none
  |_=>none) else none
 |.dB d x=>match ay s x with
  |.az r p i c=>some (put d (.az r p i c) s)
  |.ptr m cs=>some (put d (.ptr m cs) s)
  |.fn f cs=>some (put d (.fn f cs) s)
  |_=>none
 |.pS d x off=>match ay s x with
  |.az r p i c=>some (put d (.az r p i (c+off)) s)
  |.ptr m cs=>some (put d (.ptr m (cs.drop off)) s)
  |_=>none
 |.kF d x off sz agg=>match ay s x with
  |.agg cs=>if off+sz<=cs.length then some (put d (bif agg then .agg ((cs.drop off).take sz) else (cs.drop off).headD .dead) s) else none
  |_=>none
 |.fy d sz x i=>match ay s i with
  |.int _ n=>if 0<=n then (match ay s x with
   |.row m z xs=>if z=sz then (match xs[n.toNat]? with
    |some e=>some (put d (.ptr m e) s)
    |none=>none) else none
   |.ref r p=>(match look s r p with
    |some (.row _ z xs)=>if z=sz/\n.toNat<xs.length then some (put d (.az r p n.toNat 0) s) else none
    |_=>none)
   |.cut r p lo hi=>(match look s r p with
    |some (.row _ z _)=>if z=sz/\lo+n.toNat<hi then some (put d (.az r p (lo+n.toNat) 0) s) else none
    |_=>none)
   |_=>none) else none
  |_=>none
 |.dD d x i=>match ay s x,ay s i with
  |.str t,.int _ n=>if 0<=n then (match t.data[n.toNat]? with
   |some b=>some (put d (.int .u8 b.toNat) s)
   |none=>none) else none
  |_,_=>none
 |.ru d n sz agg x i=>match ay s x,ay s i with
  |.agg cs,.int _ j=>if 0<=j/\j<n/\cs.length=n*sz then some (put d (bif agg then .agg ((cs.drop (j.toNat*sz)).take sz) else (cs.drop (j.toNat*sz)).headD .dead) s) else none
  |_,_=>none
 |.ext d x i=>match ay s x with
  |.av cs=>if i<cs.length then some (put d (cs.getD i .dead) s) else none
  |_=>none
 |.gu d x lo hi=>match ay s x with
  |.str t=>if 0<=asNat s lo 0/\asNat s lo 0<=asNat s hi t.size/\asNat s hi t.size<=t.size then some (put d (.str (t.extract (asNat s lo 0).toNat (asNat s hi t.size).toNat)) s) else none
  |_=>none
 |.kR d sz x lo hi=>match rowAt s (ay s x) with
  |some (z0,xs)=>if z0=sz/\0<=asNat s lo 0/\asNat s lo 0<=asNat s hi xs.length/\asNat s hi xs.length<=xs.length then (match ay s x with
   |.row m z _=>some (put d (.row m z ((xs.take (asNat s hi xs.length).toNat).drop (asNat s lo 0).toNat)) s)
   |.ref r p=>some (put d (.cut r p (asNat s lo 0).toNat (asNat s hi xs.length).toNat) s)
   |_=>none) else none
  |none=>none
 |.wR sz z x=>match ay s x with
  |.cut r p lo hi=>(match look s r p with
   |some (.row .own z' xs)=>if z'=sz then some (iJ r p (.row .own z' (Fg lo hi z xs)) s) else none
   |_=>none)
  |_=>none
 |.rC d f x as=>match ay s x with
  |.agg cs=>if X.bare.jE (bY cs s).1=true then UA d cs (bY cs s).2 (C f (.agg (bY cs s).1::gy (bY cs s).2 .dead as (as.map λ_=>.dead))) else none
  |_=>none
 |.nK d fz sz agg a=>match gB s (ay s a) with
  |some cs=>if sz<=cs.length then ghost fz d (put d (bif agg then .agg (cs.take sz) else cs.headD .dead) s) else none
  |none=>none
 |.nQ d f cs=>some (put d (.fn f (cs.map (ay s))) s)
 |.len d x=>match rowAt s (ay s x) with
  |some (z,xs)=>some (put d (.int .i64 xs.length) s)
  |none=>none
 |.tn d x=>match ay s x with
  |.str t=>some (put d (.int .i64 t.size) s)
  |_=>none
 |.app d h sz bytes x y=>match (take .mv (ay s x) s).1 with
  |.row .own z xs=>if z=sz then (match h with
   |.mv=>(match (cM (ay (take .mv (ay s x) s).2 y) (take .mv (ay s x) s).2).1 with
    |.row .own z' ys=>if z'=sz/\(xs.length+ys.length)*bytes<=140737488355328 then some (put d (.row .own z (xs++ys)) (cM (ay (take .mv (ay s x) s).2 y) (take .mv (ay s x) s).2).2) else none
    |_=>none)
   |_=>(match rowAt (take .mv (ay s x) s).2 (ay (take .mv (ay s x) s).2 y) with
    |some (z',ys)=>if z'=sz/\(xs.length+ys.length)*bytes<=140737488355328/\fP ys=true then some (put d (.row .own z (xs++ys)) (take .mv (ay s x) s).2) else none
    |none=>none)) else none
  |_=>none
 |.mn d xs=>match xs.map (ay s) with
  |[.int k a,.int k' b]=>if k=k' then some (put d (.int k (if b<a then b else a)) s) else none
  |_=>none
 |.mx d xs=>match xs.map (ay s) with
  |[.int k a,.int k' b]=>if k=k' then some (put d (.int k (if b>a then b else a)) s) else none
  |_=>none
 |.call d f as=>rD C f d as none s
 |.kC d x as=>match ay s x with
  |.fn f _=>if ok f=true then rD C f d as (some x) s else none
  |_=>none
end M
namespace M
open Go
def cB.Sound[Bs](P:Program)(C:cB):Prop:=∀f xs o,C f xs=some o->AC P f xs λr ps=>r=o.1/\ps=o.2
section
variable [Bs]{P:Program}{C:cB}{ok:FuncId->Bool}
def Q1{s1:ah}{fv:Option AV}{f:FuncId}(h:wK s1 fv f=true):rE s1 fv f:=by
 unfold wK at h;unfold rE;cases fv with
 |none=>trivial
 |some x=>
  simp only at h⊢;unfold xJ at h;split at h;·rename_i h1;rw[h1];simpa using h
  ·cases h
def ajh{r:Nat}{p:Path}{s:ah}{n:Nat}{x y:X}{back:zQ}(h:HL r p s n x=some (y,back)){go:X->(X->(ah->Prop)->Prop)->Prop}
  (hg:∀b':X->(ah->Prop)->Prop,(∀q K s',back q=some s'->K s'->b' q K)->go y b'):yp r p s n x go:=by
 unfold HL at h;unfold yp;split at h
 ·split at h
  ·rename_i z xs hl;obtain⟨rfl,rfl⟩:=Ei (iz h);simp only[hl];refine hg _ λq K s' hb hK=>?_;simp only at hb;split at hb
   ·split at hb;·rename_i hz;obtain rfl:=iz hb;exact⟨hz,hK⟩
    ·cases hb
   ·cases hb
  ·cases h
 ·split at h
  ·rename_i cs hl;split at h
   ·rename_i hc;obtain⟨rfl,rfl⟩:=Ei (iz h);simp only[hl];refine⟨hc,hg _ λq K s' hb hK=>?_⟩;simp only at hb;split at hb
    ·split at hb;·rename_i hz;obtain rfl:=iz hb;exact⟨hz,hK⟩
     ·cases hb
    ·cases hb
   ·cases h
  ·rename_i z xs hl;split at h
   ·rename_i e he;split at h
    ·rename_i hc;obtain⟨rfl,rfl⟩:=Ei (iz h);simp only[hl,he];refine⟨hc,hg _ λq K s' hb hK=>?_⟩;simp only at hb;split at hb
     ·split at hb
      ·split at hb;·rename_i hz hso;obtain rfl:=iz hb;exact⟨hz,hso,hK⟩
       ·cases hb
      ·cases hb
     ·cases hb
    ·cases h
   ·cases h
  ·cases h
 ·cases h
def QY(hC:C.Sound P){f:FuncId}{d:Option Nat}{as:List (AV×PM)}{fv:Option AV}{s s':ah}(h:rD C f d as fv s=some s'){K:ah->Prop}(hK:K s'):ua P f d as fv s K:=by
 unfold rD at h;unfold ua;split at h
 ·rename_i hb;refine⟨hb,?_⟩;split at h
  ·rename_i hm;split at h
   ·rename_i hc;simp only[hm];refine⟨Q1 hc,?_⟩;unfold qB at h;split at h;·rename_i o ho;obtain rfl:=iz h;exact(hC _ _ _ ho).mono λr ps ⟨h1,_⟩=>by rw[h1];exact hK
    ·cases h
   ·cases h
  ·rename_i x n hm;simp only[hm];unfold EU at h;split at h
   ·rename_i y back hmu;split at h
    ·rename_i hc;refine ajh hmu λb' hb'=>⟨hc.1,Q1 hc.2,?_⟩;unfold CI at h;split at h
     ·rename_i o ho;split at h;·rename_i s2 hs2;obtain rfl:=iz h;refine(hC _ _ _ ho).mono λr ps ⟨h1,h2⟩=>?_;rw[h1,h2];exact hb' _ _ _ hs2 hK
      ·cases h
     ·cases h
    ·cases h
   ·cases h
 ·cases h
def Rz(hC:C.Sound P)(hok:∀f,ok f=true->ak P f=true){o:cw}{s s':ah}(h:cQ C ok o s=some s'){K:ah->Prop}(hK:K s'):aV P o s K:=by
 cases o with
 |mv d x=>cases h;exact hK
 |aU d h1 x=>cases h;exact hK
 |pick d c a b=>simp only[cQ] at h;simp only[aV];split at h<;>first|(rename_i h1;rw[h1];cases h;exact hK)|cases h
 |un d op x=>
  simp only[cQ] at h;split at h;·rename_i h1;cases h;exact⟨apO h1,hK⟩
  ·cases h
 |bin d op x y=>
  simp only[cQ] at h;split at h;·rename_i h1;cases h;exact⟨Y9 h1,hK⟩
  ·cases h
 |beq d neg x y=>
  simp only[cQ] at h;simp only[aV];split at h;·rename_i h1 h2;rw[h1,h2];cases h;exact hK
  ·cases h
 |sU d neg x=>
  simp only[cQ] at h;simp only[aV];split at h
  ·rename_i h1;rw[h1];split at h;·rename_i hc;cases h;intro b hb;rw[hb hc];cases neg<;>exact hK
   ·cases h
  ·cases h
 |mX d neg ks x y=>
  simp only[cQ] at h;simp only[aV];split at h
  ·rename_i h1 h2;rw[h1,h2];split at h;·rename_i t ht;cases h;exact⟨t,ht,hK⟩
   ·cases h
  ·cases h
 |conv d k x=>
  simp only[cQ] at h;simp only[aV];split at h;·rename_i h1;rw[h1];cases h;exact hK
  ·cases h
 |bytes d x=>
  simp only[cQ] at h;simp only[aV];split at h;·rename_i h1;rw[h1];cases h;exact hK
  ·cases h
 |text d x=>
  simp only[cQ] at h;simp only[aV];split at h
  ·rename_i xs h1;split at h
   ·rename_i h2;split at h;·rename_i l h3;cases h;exact⟨xs,h1,h2,l,VD h3,hK⟩
    ·cases h
   ·cases h
  ·cases h
 |box d h1 x=>
  simp only[cQ] at h;split at h;·rename_i h2;cases h;exact⟨h2,hK⟩
  ·cases h
 |new d z=>cases h;exact hK
 |build d h1 z ps=>
  simp only[cQ] at h;split at h;·rename_i h2;cases h;exact⟨ak8 h2.1,Vb h2.2,hK⟩
  ·cases h
 |lit d h1 sz ps=>
  simp only[cQ] at h;split at h;·rename_i h2;cases h;refine⟨λx hx=>?_,hK⟩;have:=(pJ.1 h2) x hx;simpa using this
  ·cases h
 |make d sz bytes z n=>
  simp only[cQ] at h;simp only[aV];split at h
  ·rename_i h1;rw[h1];split at h;·rename_i h2;cases h;exact⟨h2.1,h2.2,hK⟩
   ·cases h
  ·cases h
 |load d sz agg a=>
  simp only[cQ] at h;simp only[aV];split at h
  ·rename_i cs h1;split at h;·rename_i h2;cases h;exact⟨cs,h1,h2,hK⟩
   ·cases h
  ·cases h
 |store sz h1 a x=>
  simp only[cQ] at h;simp only[aV];split at h
  ·rename_i h2;refine⟨h2,?_⟩;split at h
   ·rename_i h3;rw[h3];split at h;·rename_i h4;cases h;exact⟨aln h4,hK⟩
    ·cases h
   ·cases h
  ·cases h
 |dB d x=>simp only[cQ] at h;simp only[aV];split at h<;>first|(rename_i h1;rw[h1];cases h;exact hK)|cases h
 |pS d x off=>simp only[cQ] at h;simp only[aV];split at h<;>first|(rename_i h1;rw[h1];cases h;exact hK)|cases h
 |kF d x off sz agg=>
  simp only[cQ] at h;simp only[aV];split at h
  ·rename_i h1;rw[h1];split at h;·rename_i h2;cases h;exact⟨h2,hK⟩
   ·cases h
  ·cases h
 |fy d sz x i=>
  simp only[cQ] at h;simp only[aV];split at h
  ·rename_i h1;rw[h1];split at h
   ·rename_i h2;refine⟨h2,?_⟩;split at h
    ·rename_i h3;rw[h3];split at h
     ·rename_i h4;refine⟨h4,?_⟩;split at h;·rename_i e h5;cases h;exact⟨e,h5,hK⟩
      ·cases h
     ·cases h
    ·rename_i h3;rw[h3];simp only;split at h
     ·rename_i h4;rw[h4];split at h;·rename_i h5;cases h;exact⟨h5.1,h5.2,hK⟩
      ·cases h
     ·cases h
    ·rename_i h3;rw[h3];simp only;split at h
     ·rename_i h4;rw[h4];split at h;·rename_i h5;cases h;exact⟨h5.1,h5.2,hK⟩
      ·cases h
     ·cases h
    ·cases h
   ·cases h
  ·cases h
 |dD d x i=>
  simp only[cQ] at h;simp only[aV];split at h
  ·rename_i h1 h2;rw[h1,h2];split at h
   ·rename_i h3;refine⟨h3,?_⟩;split at h;·rename_i b h4;cases h;exact⟨b,h4,hK⟩
    ·cases h
   ·cases h
  ·cases h
 |ru d n sz agg x i=>
  simp only[cQ] at h;simp only[aV];split at h
  ·rename_i h1 h2;rw[h1,h2];split at h;·rename_i h3;cases h;exact⟨h3.1,h3.2.1,h3.2.2,hK⟩
   ·cases h
  ·cases h
 |ext d x i=>
  simp only[cQ] at h;simp only[aV];split at h
  ·rename_i h1;rw[h1];split at h;·rename_i h3;cases h;exact⟨h3,hK⟩
   ·cases h
  ·cases h
 |gu d x lo hi=>
  simp only[cQ] at h;simp only[aV];split at h
  ·rename_i h1;rw[h1];split at h;·rename_i h3;cases h;exact⟨h3.1,h3.2.1,h3.2.2,hK⟩
   ·cases h
  ·cases h
 |kR d sz x lo hi=>
  simp only[cQ] at h;simp only[aV];split at h
  ·rename_i z0 xs h1;split at h;·rename_i h2;obtain⟨rfl,h2,h3,h4⟩:=h2;refine⟨xs,h1,h2,h3,h4,?_⟩;split at h<;>first|(rename_i h5;rw[h5];cases h;exact hK)|cases h
   ·cases h
  ·cases h
 |wR sz z x=>
  simp only[cQ] at h;simp only[aV];split at h
  ·rename_i h1;rw[h1];simp only;split at h
   ·rename_i h2;rw[h2];split at h;·rename_i h3;cases h;exact⟨h3,hK⟩
    ·cases h
   ·cases h
  ·cases h
 |rC d f x as=>
  simp only[cQ] at h;simp only[aV];split at h
  ·rename_i cs h1;rw[h1];split at h
   ·rename_i h2;refine⟨h2,?_⟩;unfold UA at h;split at h
    ·rename_i r ys ps ho;split at h
     ·rename_i h3;split at h;·rename_i s2 h4;cases h;exact(hC _ _ _ ho).mono λr' ps' ⟨e1,e2⟩=>by rw[e1,e2];exact⟨h3,_,h4,hK⟩
      ·cases h
     ·cases h
    ·cases h
   ·cases h
  ·cases h
 |nK d fz sz agg a=>
  simp only[cQ] at h;simp only[aV];split at h
  ·rename_i cs h1;split at h;·rename_i h2;exact⟨cs,h1,h2,s',h,hK⟩
   ·cases h
  ·cases h
 |nQ d f cs=>cases h;exact hK
 |len d x=>
  simp only[cQ] at h;simp only[aV];split at h;·rename_i z xs h1;cases h;exact⟨z,xs,h1,hK⟩
  ·cases h
 |tn d x=>
  simp only[cQ] at h;simp only[aV];split at h;·rename_i h1;rw[h1];cases h;exact hK
  ·cases h
 |app d h1 sz bytes x y=>
  simp only[cQ] at h;simp only[aV];split at h
  ·rename_i z xs h2;rw[h2];split at h
   ·rename_i h3;refine⟨h3,?_⟩;cases h1 with
    |mv=>
     simp only at h⊢;split at h
     ·rename_i h4;simp only[h4];split at h;·rename_i h5;cases h;exact⟨h5.1,h5.2,hK⟩
      ·cases h
     ·cases h
    |al=>
     simp only at h⊢;split at h
     ·rename_i z' ys h4;split at h;·rename_i h5;obtain⟨rfl,h5,h6⟩:=h5;cases h;exact⟨ys,h4,h5,Om h6,hK⟩
      ·cases h
     ·cases h
    |aQ=>
     simp only at h⊢;split at h
     ·rename_i z' ys h4;split at h;·rename_i h5;obtain⟨rfl,h5,h6⟩:=h5;cases h;exact⟨ys,h4,h5,Om h6,hK⟩
      ·cases h
     ·cases h
   ·cases h
  ·cases h
 |mn d xs=>
  simp only[cQ] at h;simp only[aV];split at h
  ·rename_i h1;rw[h1];split at h;·rename_i h2;cases h;exact⟨h2,hK⟩
   ·cases h
  ·cases h
 |mx d xs=>
  simp only[cQ] at h;simp only[aV];split at h
  ·rename_i h1;rw[h1];split at h;·rename_i h2;cases h;exact⟨h2,hK⟩
   ·cases h
  ·cases h
 |call d f as=>exact QY hC h hK
 |kC d x as=>
  simp only[cQ] at h;simp only[aV];split at h
  ·rename_i h1;rw[h1];split at h;·rename_i h2;exact⟨hok _ h2,QY hC h hK⟩
   ·cases h
  ·cases h
end
end M
namespace M
open Go
mutual
def X.fe:X->X->Bool
 |.dead,.dead=>true
 |.int k n,.int k' n'=>decide (k=k') && decide (n=n')
 |.bool a,.bool b=>a==b
 |.str s,.str t=>decide (s=t)
 |.row m z xs,.row m' z' ys=>decide (m=m') && z==z' && X.rN xs ys
 |.ptr m xs,.ptr m' ys=>decide (m=m') && X.mo xs ys
 |.agg xs,.agg ys=>X.mo xs ys
 |.av xs,.av ys=>X.mo xs ys
 |.fn f xs,.fn g ys=>f==g && X.mo xs ys
 |.ref s p,.ref t q=>s==t && p==q
 |.az s p i c,.az t q j d=>s==t && p==q && i==j && c==d
 |.cut s p i c,.cut t q j d=>s==t && p==q && i==j && c==d
 |_,_=>false
def X.mo:List X->List X->Bool
 |[],[]=>true
 |x::l,y::r=>X.fe x y && X.mo l r
 |_,_=>false
def X.rN:List (List X)->List (List X)->Bool
 |[],[]=>true
 |x::l,y::r=>X.mo x y && X.rN l r
 |_,_=>false
end
mutual
def X.RF:∀{x y:X},X.fe x y=true->x=y
 |.dead,y,h=>by cases y<;>simp_all[X.fe]
 |.int k n,y,h=>by cases y<;>simp_all[X.fe]
 |.bool a,y,h=>by cases y<;>simp_all[X.fe]
 |.str s,y,h=>by cases y<;>simp_all[X.fe]
 |.row m z xs,y,h=>by cases y<;>simp only[X.fe,aC,bD,eH,fS] at h;rw[h.1.1,h.1.2,X.RD h.2]
 |.ptr m xs,y,h=>by cases y<;>simp only[X.fe,aC,bD,eH,fS] at h;rw[h.1,X.wW h.2]
 |.agg xs,y,h=>by cases y<;>simp only[X.fe,fS] at h;rw[X.wW h]
 |.av xs,y,h=>by cases y<;>simp only[X.fe,fS] at h;rw[X.wW h]
 |.fn f xs,y,h=>by cases y<;>simp only[X.fe,aC,eH,fS] at h;rw[h.1,X.wW h.2]
 |.ref s p,y,h=>by cases y<;>simp_all[X.fe]
 |.az s p i c,y,h=>by cases y<;>simp_all[X.fe]
 |.cut s p i c,y,h=>by cases y<;>simp_all[X.fe]
def X.wW:∀{x y:List X},X.mo x y=true->x=y
 |[],[],_=>rfl
 |[],_::_,h=>by simp[X.mo] at h
 |_::_,[],h=>by simp[X.mo] at h
 |x::l,y::r,h=>by simp only[X.mo,aC] at h;rw[X.RF h.1,X.wW h.2]
def X.RD:∀{x y:List (List X)},X.rN x y=true->x=y
 |[],[],_=>rfl
 |[],_::_,h=>by simp[X.rN] at h
 |_::_,[],h=>by simp[X.rN] at h
 |x::l,y::r,h=>by simp only[X.rN,aC] at h;rw[X.wW h.1,X.RD h.2]
end
mutual
def X.RG:∀x:X,X.fe x x=true
 |.dead=>rfl
 |.int k n=>by simp[X.fe]
 |.bool a=>by simp[X.fe]
 |.str s=>by simp[X.fe]
 |.row m z xs=>by simp[X.fe,X.RE xs]
 |.ptr m xs=>by simp[X.fe,X.wX xs]
 |.agg xs=>by simp[X.fe,X.wX xs]
 |.av xs=>by simp[X.fe,X.wX xs]
 |.fn f xs=>by simp[X.fe,X.wX xs]
 |.ref s p=>by simp[X.fe]
 |.az s p i c=>by simp[X.fe]
 |.cut s p i c=>by simp[X.fe]
def X.wX:∀x:List X,X.mo x x=true
 |[]=>rfl
 |x::l=>by simp[X.mo,X.RG x,X.wX l]
def X.RE:∀x:List (List X),X.rN x x=true
 |[]=>rfl
 |x::l=>by simp[X.rN,X.wX x,X.RE l]
end
def rM:ah->ah->Bool
 |[],[]=>true
 |(k,x)::l,(k',y)::r=>k==k' && X.fe x y && rM l r
 |_,_=>false
def RC:∀{x y:ah},rM x y=true->x=y
 |[],[],_=>rfl
 |[],_::_,h=>by simp[rM] at h
 |_::_,[],h=>by simp[rM] at h
 |(k,x)::l,(k',y)::r,h=>by simp only[rM,aC,eH] at h;rw[h.1.1,X.RF h.1.2,RC h.2]
def same:Option ah->Option ah->Option ah
 |some a,some b=>if rM a b=true then some a else none
 |_,_=>none
def eG(C:cB)(ok:FuncId->Bool)(g:G)(s:ah):Option ah:=match g with
 |⟨none,o⟩=>cQ C ok o s
 |⟨some (t,b),o⟩=>match get s t with
  |.bool v=>if v=b then cQ C ok o ((t,.bool b)::s) else some (fV o.dst (.av []) ((t,.bool (!b))::s))
  |.av []=>some (fV o.dst (.av []) s)
  |_=>none
def j0(C:cB)(ok:FuncId->Bool):List G->ah->Option ah
 |[],s=>some s
 |g::l,s=>(eG C ok g s).bind (j0 C ok l)
def eD(C:cB)(ok:FuncId->Bool):DT->ah->Option ah
 |.nil ks,s=>some (keep ks s)
 |.step _ g t,s=>(eG C ok g s).bind (eD C ok t)
 |.alt a b,s=>same (eD C ok a s) (eD C ok b s)
 |.kp ks t,s=>eD C ok t (keep ks s)
abbrev cF:=Option (Ex×ah)
def fE(k:ah->cF):cF->cF
 |some (.normal,s)=>k s
 |some (.exit i,s)=>some (.exit i,s)
 |some (.ret,s)=>some (.ret,s)
 |none=>none
def lf(id:Nat):cF->cF
 |some (.exit i,s)=>if i=id then some (.normal,s) else some (.exit i,s)
 |some (.normal,s)=>some (.normal,s)
 |some (.ret,s)=>some (.ret,s)
 |none=>none
def lP(ks:List Nat):cF->cF
 |some (.normal,s)=>some (.normal,keep ks s)
 |some (.exit i,s)=>some (.exit i,s)
 |some (.ret,s)=>some (.ret,s)
 |none=>none
def iV:Option ah->cF
 |some s=>some (.normal,s)
 |none=>none
def iter(f:ah->cF):Nat->ah->cF
 |0,_=>none
 |n+1,s=>fE (iter f n) (f s)
def eA(C:cB)(ok:FuncId->Bool)(N:Nat):A->ah->cF
 |.skip,s=>some (.normal,s)
 |.ret,s=>some (.ret,s)
 |.exit id,s=>some (.exit id,s)
 |.ops l,s=>iV (j0 C ok l s)
 |.draw t,s=>iV (eD C ok t s)
 |.seq a b,s=>fE (eA C ok N b) (eA C ok N a s)
 |.cond c a b,s=>match ay s c with
  |.bool t=>if t=true then eA C ok N a s else eA C ok N b s
  |_=>none
 |.block id b,s=>lf id (eA C ok N b s)
 |.loop b,s=>iter (eA C ok N b) N s
 |.pk ks b,s=>lP ks (eA C ok N b s)
structure Fn where
 body:A
 rs:List RV
 n:Nat
abbrev iB:=FuncId->Option Fn
def fin(F:Fn):cF->Option Out
 |some (.exit _,_)=>none
 |some (_,s)=>if X.clean.cJ (ek F.rs s).1=true/\(ek F.rs s).1.any X.mI=false then some (vm (ek F.rs s).1,qA 0 F.n (ek F.rs s).2) else none
 |none=>none
def eF(C:cB)(ok:FuncId->Bool)(N:Nat)(F:Fn)(xs:List X):Option Out:=
 if xs.length=F.n then fin F (eA C ok N F.body (mZ xs)) else none
def aj(T:iB)(f:FuncId):Bool:=(T f).isSome
def exec(L:cB)(T:iB):Nat->cB
 |0,_,_=>none
 |n+1,f,xs=>match T f with
  |some F=>eF (exec L T n) (aj T) n F xs
  |none=>L f xs
section
variable [Bs]{P:Program}{C:cB}{ok:FuncId->Bool}
def Rx(hC:C.Sound P)(hok:∀f,ok f=true->ak P f=true){g:G}{s s':ah}(h:eG C ok g s=some s'){K:ah->Prop}(hK:K s'):pO P g s K:=by
 obtain⟨gg,o⟩:=g;cases gg with
 |none=>exact Rz hC hok h hK
 |some tb=>
  obtain⟨t,b⟩:=tb;simp only[eG] at h;simp only[pO];split at h
  ·rename_i v hv;rw[hv];split at h;·rename_i lD;exact⟨λ_=>Rz hC hok h hK,λhn=>by subst lD;cases v<;>simp at hn⟩
   ·rename_i lD;exact⟨λhh=>(lD hh).elim,λ_=>by cases h;exact hK⟩
  ·rename_i hv;rw[hv];cases h;exact hK
  ·cases h
def RB(hC:C.Sound P)(hok:∀f,ok f=true->ak P f=true):∀{l:List G} {s s':ah},j0 C ok l s=some s'->∀{Q:Ex->ah->Prop},Q .normal s'->kA P l s Q
 |[],s,s',h,Q,hQ=>by cases h;exact hQ
 |g::l,s,s',h,Q,hQ=>by
  simp only[j0] at h;cases h1:eG C ok g s with
  |none=>rw[h1] at h;cases h
  |some s1=>rw[h1] at h;exact Rx hC hok h1 (RB hC hok h hQ)
def Al(hC:C.Sound P)(hok:∀f,ok f=true->ak P f=true):∀{t:DT} {s s':ah},eD C ok t s=some s'->∀{Q:Ex->ah->Prop},Q .normal s'->iD P t s Q
 |.nil ks,s,s',h,Q,hQ=>by cases h;exact hQ
 |.step i g t,s,s',h,Q,hQ=>by
  simp only[eD] at h;cases h1:eG C ok g s with
  |none=>rw[h1] at h;cases h
  |some s1=>rw[h1] at h;exact Rx hC hok h1 (Al hC hok h hQ)
 |.alt a b,s,s',h,Q,hQ=>by
  simp only[eD] at h;unfold same at h;split at h
  ·rename_i x y hx hy;split at h;·rename_i he;obtain rfl:=RC he;cases h;exact⟨Al hC hok hx hQ,Al hC hok hy hQ⟩
   ·cases h
  ·cases h
 |.kp ks t,s,s',h,Q,hQ=>Al (t:=t) hC hok h hQ
def Vw{k:ah->cF}{r:cF}{e:Ex}{s:ah}(h:fE k r=some (e,s)):(∃s',r=some (.normal,s')/\k s'=some (e,s))\/(e≠.normal/\r=some (e,s)):=by
 unfold fE at h;split at h;·exact .inl ⟨_,rfl,h⟩
 ·cases h;exact .inr ⟨by simp,rfl⟩
 ·cases h;exact .inr ⟨by simp,rfl⟩
 ·cases h
def acB(hC:C.Sound P)(hok:∀f,ok f=true->ak P f=true){N:Nat}:∀{t:A} {s s':ah} {e:Ex},eA C ok N t s=some (e,s')->∀{Q:Ex->ah->Prop},Q e s'->e9 P t s Q:=by
 intro t;induction t with
 |skip=>intro s s' e h Q hQ;cases h;exact hQ
 |ret=>intro s s' e h Q hQ;cases h;exact hQ
 |exit id=>intro s s' e h Q hQ;cases h;exact hQ
 |ops l=>
  intro s s' e h Q hQ;simp only[eA] at h;unfold iV at h;split at h;·rename_i s1 h1;cases h;exact RB hC hok h1 hQ
  ·cases h
 |draw l=>
  intro s s' e h Q hQ;simp only[eA] at h;unfold iV at h;split at h;·rename_i s1 h1;cases h;exact Al hC hok h1 hQ
  ·cases h
 |seq a b iU j9=>
  intro s s' e h Q hQ;simp only[eA] at h;rcases Vw h with ⟨s1,h1,h2⟩|⟨hne,h1⟩;·exact iU h1 (j9 h2 hQ)
  ·refine iU h1 ?_;cases e with
   |normal=>exact(hne rfl).elim
   |exit i=>exact hQ
   |ret=>exact hQ
 |cond c a b iU j9=>
  intro s s' e h Q hQ;simp only[eA] at h;simp only[e9];split at h
  ·rename_i t ht;rw[ht];split at h;·rename_i h1;exact⟨λ_=>iU h hQ,λh2=>by rw[h1] at h2;cases h2⟩
   ·rename_i h1;exact⟨λh2=>(h1 h2).elim,λ_=>j9 h hQ⟩
  ·cases h
 |block id b ih=>
  intro s s' e h Q hQ;simp only[eA] at h;unfold lf at h;split at h
  ·rename_i i s1 h1;split at h;·rename_i hi;cases h;refine ih h1 ?_;subst hi;simpa using hQ
   ·rename_i hi;cases h;refine ih h1 ?_;have:(i==id)=false:=by simpa using hi
    simpa [this] using hQ
  ·rename_i s1 h1;cases h;exact ih h1 hQ
  ·rename_i s1 h1;cases h;exact ih h1 hQ
  ·cases h
 |loop b ih=>
  intro s s' e h Q hQ;simp only[eA] at h;refine⟨λn s1=>iter (eA C ok N b) n s1=some (e,s'),⟨N,h⟩,λn s1 h1=>?_⟩;cases n with
  |zero=>cases h1
  |succ n=>
   simp only[iter] at h1;rcases Vw h1 with ⟨s2,h2,h3⟩|⟨hne,h2⟩;·exact ih h2 ⟨n,Nat.lt_succ_self n,h3⟩
   ·refine ih h2 ?_;cases e with
    |normal=>exact(hne rfl).elim
    |exit i=>exact hQ
    |ret=>exact hQ
 |pk ks b ih=>
  intro s s' e h Q hQ;simp only[eA] at h;unfold lP at h;split at h;·rename_i s1 h1;cases h;exact ih h1 hQ
  ·rename_i s1 h1;cases h;exact ih h1 hQ
  ·rename_i s1 h1;cases h;exact ih h1 hQ
  ·cases h
structure iB.Ok (P:Program) (T:iB):Prop where
 told:∀f F,T f=some F->Told P f F.body F.rs F.n
 ok:∀f F,T f=some F->ak P f=true
def RH{L:cB}{T:iB}(hL:L.Sound P)(hT:T.Ok P):∀n,(exec L T n).Sound P
 |0=>λf xs o h=>by cases h
 |n+1=>λf xs o h=>by
  simp only[exec] at h;split at h
  ·rename_i F hF;unfold eF at h;split at h
   ·rename_i hn;refine(hT.told f F hF).ac hn ?_;unfold fin at h;split at h;·cases h
    ·rename_i e s' h1 h2;split at h
     ·rename_i hc;have h2:eA (exec L T n) (aj T) n F.body (mZ xs)=some (e,s'):=h2;cases h;refine acB (RH hL hT n) (λf hf=>?_) h2 ?_;·unfold aj at hf;obtain⟨F',hF'⟩:=zC.1 hf;exact hT.ok f F' hF'
      ·cases e with
       |exit i=>exact(h1 i rfl).elim
       |normal=>exact⟨hc.1,λx hx=>by have:=List.any_eq_false.1 hc.2 x hx;simpa using this,rfl,rfl⟩
       |ret=>exact⟨hc.1,λx hx=>by have:=List.any_eq_false.1 hc.2 x hx;simpa using this,rfl,rfl⟩
     ·cases h
    ·cases h
   ·cases h
  ·exact hL f xs o h
end
end M
