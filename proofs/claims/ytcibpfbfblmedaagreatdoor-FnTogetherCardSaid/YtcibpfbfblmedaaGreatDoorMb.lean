/- A machine of values for loaded Go functions, sound for the calculus of calls; part 2; no conditions. -/
import Derived.Test.YtcibpfbfblmedaaGreatDoorMa
import Derived.Laws.IdiomCopy
import Derived.Lib.SliceRun
import Derived.Laws.Cover3
set_option linter.defProp false
set_option linter.unusedSectionVars false
set_option linter.unusedVariables false
set_option linter.unusedSimpArgs false
namespace M
open Go Go.RowKit
variable [Bs]
section
variable {P:Program}{c:Ctx}{G:Nat->C}{zl:Nat->Nat->Prop}{s:ag}{a:Act}{w:World}{o:Oper}{K:ag->Prop}
def afe{zb:Nat->Nat->Prop}(h:Inv w zl zb G s){v:Value}{r:Nat}{p:Path}{i k:Nat}(hr:(C.ai v r p i k).rf G){l:List C}(hs:storable s r p i k (l.map C.er))(hl:∀x∈l,cK x.er=true->x.cK):
  ∃g k0 d,v=.pointer (some ⟨g,k0,none⟩)/\(G r).sub p=some d/\∀q x,l[q]?=some x->ff d i (k+q) x g (k0+q):=by
 obtain⟨d,hd,hp⟩:=hr;unfold storable look at hs;rw[<-h.er,C.gB,hd] at hs;simp only[cC] at hs;rcases hp with ⟨m,sz,g,o,len,cap,e,rfl,rfl⟩|⟨m,g,o,n,f,rfl,rfl,rfl⟩
 ·refine⟨g,o+i*sz+k,_,rfl,hd,λq x hq=>?_⟩;simp only[C.er] at hs;cases m with
  |own=>
   simp only[C.cX] at hs;split at hs
   ·rename_i e0 lp;split at lp
    ·rename_i hi;injection lp with lp
     obtain⟨h1,h2⟩:=hs;have hlen:e0.length=sz:=by rw[<-lp];simp
     have oI:=(aQ.1 hq).1;simp only[cW] at h1;have:=ff.row (d:=.row .own sz (some (g,o,none)) len cap e) (i:=i) (c:=k+q) (y:=x) rfl hi (by omega) (hl x (ri hq) (F2 h2 _ (j8 (ri hq))));rwa [show o+i*sz+(k+q)=o+i*sz+k+q by omega] at this
    ·cases lp
   ·exact hs.elim
  |sl=>exact hs.elim
  |af=>exact hs.elim
 ·refine⟨g,o+k,_,rfl,hd,λq x hq=>?_⟩;simp only[C.er] at hs;cases m with
  |own=>have oI:=(aQ.1 hq).1;simp only[cW,tq] at hs;have:=ff.ptr (d:=.ptr .own g o n f) (i:=0) (c:=k+q) (y:=x) rfl rfl (by omega);rwa [show o+(k+q)=o+k+q by omega] at this
  |sl=>exact hs.elim
  |af=>exact hs.elim
def RS{x:C}(h:cK x.er=true):x.cK:=by cases x<;>first|trivial|(simp[C.er,cK] at h)
def adQ(h:St c G zl s a w){sz:Nat}{tk:Tk}{ty:TypeId}{x y:AV}{x' y':Operand}(ho:o.op=.store ty y' x')(hsz:∃i,P.info? ty=some i/\i.size=sz)(h0:0<sz)(hd:o.dst=none)(hx:aK x' x=true)(hy:aK y' y=true)
  (hK:aM P (.store sz tk y x) s K):Good P c o a w K:=by
 obtain⟨p,e1,e2,e3⟩:=cx h hx;obtain⟨q,G1,f1,f2,f3,f4⟩:=qZ tk h.inv e3;obtain⟨k1,k2⟩:=hK;rw[e1] at f1 f4;have h1:=h.yu f4;obtain⟨u,u1,u2,u3⟩:=cx h1 hy;rw[<-u1] at k2;cases u with
 |ai v r pp i k=>
  simp only[C.er] at k2;obtain⟨k2,k3⟩:=k2;rw[<-f1,<-tT] at k1 k2 k3;have hsh:=F1 f4.rf;have hT:=bN.flat (bN.one f4) (λx hx=>by rw[fG] at hx;subst hx;exact hsh);simp only[jk,L7,rB] at hT;obtain⟨g,k0,d,hv,hsub,hsp⟩:=afe h1.inv u3.rf k2 (λx _ hs=>RS hs);have hlen:q.cells.length=sz:=by simpa using k1
  obtain⟨w',G',j1,j2,j3,j4,j5⟩:=R6 (P:=P) r pp i (k0:=k0) q.cells.length q.cells rfl k 0 h1.inv hsub (by simpa using hsp) ⟨λx hx=>⟨(wj hsh f4.ok hx).1,(wj hsh f4.ok hx).2,Hw f4.rf hx,(hT.all x hx).2.1,(hT.all x hx).2.2.1⟩,hT.apart⟩;have hcv:=Db (by omega) hsh;refine⟨undef,w',.inr ⟨?_,rfl⟩,G',zl,_,k3,?_⟩
  ·have Iv:a.eval y'=.pointer (some ⟨g,k0,none⟩):=by rw[<-u2];exact hv
   obtain⟨ii,hi,kE⟩:=hsz;have hxv:a.eval x'=q.val:=by rw[f2,e2]
   simp[execOp,ho,Iv,hxv,Instr.storeAt,Instr.sureAddr,storeVar,hcv,Go.sizeOf,typeInfo,hi,kE,hlen,j1]
  ·rw[hd];refine h.move j2 (λt=>(j3 t).trans (f4.val t)) j5 (λb k' hs=>?_) (λt b k' hf=>?_)
   ·obtain⟨rfl,hs1,hs2⟩:=hs;simp only[nh] at hs1 hs2;have hlt:k' - k0<q.cells.length:=by omega
    have:=(hsp (k' - k0) _ (cm hlt)).fp;rw[show k0+(k' - k0)=k' by omega] at this;exact h1.tr.dom r _ _ (C.gC pp hsub (h1.inv.ok r) this)
   ·refine .inl ?_;rcases j4 t b k' hf with ⟨x,hx,hf⟩|hf;·exact(hT.all x hx).2.2.2 b k' hf
    ·exact⟨t,f4.mono t b k' hf⟩
 |_=>exact k2.elim
def cQ(len z:Nat)(e:Nat->Nat->C):List (List C):=(List.range len).map λi=>(List.range z).map λj=>e i j
def uK(len z:Nat)(e:Nat->Nat->C):∀x∈cQ len z e,x.length=z:=λx hx=>by obtain⟨i,_,rfl⟩:=aT.1 hx;simp
def Qd(len z:Nat)(e:Nat->Nat->C):(cQ len z e).map (λx=>x.map C.er)=dD z len e:=by simp only[cQ,dD,cH];refine cu λi _=>?_;show ((List.range z).map λj=>e i j).map C.er=_;rw[cH];rfl
def nT{len z:Nat}{e:Nat->Nat->C}{x:C}(hx:x∈(cQ len z e).flatten):∃i j,i<len/\j<z/\x=e i j:=by obtain⟨l,hl,hx⟩:=Gv.1 hx;obtain⟨i,hi,rfl⟩:=aT.1 hl;obtain⟨j,hj,rfl⟩:=aT.1 hx;exact⟨i,j,by simpa using hi,by simpa using hj,rfl⟩
def Qc{len z:Nat}{e:Nat->Nat->C}{q:Nat}{x:C}(h0:0<z)(h:(cQ len z e).flatten[q]?=some x):q / z<len/\q%z<z/\x=e (q / z) (q%z):=by
 have hq:=(aQ.1 h).1;rw[rY (uK len z e)] at hq;have hl:(cQ len z e).length=len:=by simp[cQ]
 rw[hl] at hq;have h1:q%z<z:=om _ h0;have h2:q / z<len:=Gw (by rw[kS];exact hq);have zV:q=q / z*z+q%z:=by have:=yF q z;rw[kS] at this;omega
 have:=zu (uK len z e) (q / z) (q%z) (by rw[hl];exact h2) h1;rw[<-zV,h] at this;simp only[cQ,C.cX,aq h2,jj,aq h1] at this;exact⟨h2,h1,gV this⟩
def J5{Z:Md->Nat->Nat->Prop}{z len cap:Nat}{A:Option Ad}{e:Nat->Nat->C}(h:(C.row .own z A len cap e).ok w Z):(cQ len z e).flatten.Pairwise λa b=>∀x k,a.fp x k->¬b.fp x k:=by
 obtain⟨h1,h2,h3,h4,h5⟩:=h;refine List.pairwise_flatten.2 ⟨λl hl=>?_,?_⟩
 ·obtain⟨i,hi,rfl⟩:=aT.1 hl;have hi:i<len:=by simpa using hi
  refine Cx.2 (GB (R:=λa b=>a<b) ?_ LL);intro j j' hj hj' hlt b k hf;exact(h5 i j hi (by simpa using hj) b k hf).2 i j' hi (by simpa using hj') (by simp;omega)
 ·refine Cx.2 (GB (R:=λa b=>a<b) ?_ LL);intro i i' hi hi' hlt x hx y hy b k hf;obtain⟨j,hj,rfl⟩:=aT.1 hx;obtain⟨j',hj',rfl⟩:=aT.1 hy;exact(h5 i j (by simpa using hi) (by simpa using hj) b k hf).2 i' j' (by simpa using hi') (by simpa using hj') (by simp;omega)
def HX{w1:World}{z len cap:Nat}{A:Option Ad}{e:Nat->Nat->C}(h0:0<z)(hc:∀i j,i<len->j<z->∃g o,A=some (g,o,none)/\w1.cell? ⟨g,o+i*z+j,none⟩=some (e i j).val):
  (Builtin.firstCells z len (.slice (A.map λq=>⟨q.1,q.2.1,q.2.2⟩) len cap)).run P w1=.ok ((cQ len z e).flatten.map C.val).toArray w1/\(A=none->len=0):=by
 cases A with
 |none=>
  have hl:len=0:=by
   rcases Nat.eq_zero_or_pos len with h|h;·exact h
   ·obtain⟨g,o,hA,_⟩:=hc 0 0 h h0;cases hA
  subst hl;exact⟨run_firstCells_none w1 z 0 0 cap,λ_=>rfl⟩
 |some q=>
  refine⟨?_,λh=>by cases h⟩;refine run_firstCells_some w1 z len ⟨q.1,q.2.1,q.2.2⟩ len cap _ ?_ λj v hj=>?_;·rw[cW,rY (uK len z e)];simp[cQ]
  ·rw[cS] at hj;cases hk:(cQ len z e).flatten[j]? with
   |none=>rw[hk] at hj;cases hj
   |some x=>
    rw[hk] at hj;obtain⟨a1,a2,rfl⟩:=Qc h0 hk;injection hj with hj
    obtain⟨g,o,hA,hcl⟩:=hc _ _ a1 a2;injection hA with hA
    subst hA;have zV:j=j / z*z+j%z:=by have:=yF j z;rw[kS] at this;omega
    rw[rG,<-hj,<-hcl];congr 2;show o+j=_;omega
end
end M
namespace M
open Go Go.RowKit
variable [Bs]
section
variable {P:Program}
def bN.sub{w:World}{zl zb:Nat->Nat->Prop}{G G1:Nat->C}{s1:ag}{l ks:List C}(hT:bN w zl zb G l G1 s1)(hok:∀x∈ks,x.ok w (Zf zl zb))(cg:∀x∈ks,∀b k,x.fp b k->∃y∈l,y.fp b k)
  (gN:ks.Pairwise λa b=>∀x k,a.fp x k->¬b.fp x k):bN w zl zb G ks G1 s1 where
 inv:=hT.inv
 all:=λx hx=>⟨hok x hx,λt b k hf=>by obtain⟨y,hy,hf⟩:=cg x hx b k hf;exact(hT.all y hy).2.1 t b k hf,λb k hf=>by obtain⟨y,hy,hf⟩:=cg x hx b k hf;exact(hT.all y hy).2.2.1 b k hf,
  λb k hf=>by obtain⟨y,hy,hf⟩:=cg x hx b k hf;exact(hT.all y hy).2.2.2 b k hf⟩
 apart:=gN
 val:=hT.val
 mono:=hT.mono
def Ext.setCells(b:Nat):∀(vs:List Value) (o:Nat) (w:World),Ext (λg k=>g=b/\o<=k/\k<o+vs.length) w (w.setCells b o vs)
 |[],o,w=>Ext.refl _ _
 |v::vs,o,w=>by rw[World.setCells];refine((Ext.setCell w b o v).mono (S':=λg k=>g=b/\o<=k/\k<o+(v::vs).length) (λg k hs _=>⟨hs.1,by omega,by simp only[cV];omega⟩)).trans (Ext.setCells b vs (o+1) _) λg k hs _=>⟨hs.1,by omega,by simp only[cV];omega⟩
def aeH{w:World}{t u ty e e':TypeId}{i:TypeInfo}(ht:P.underlying t=some (.slice e))(hu:P.underlying u=some (.slice e'))(hi:P.info? e=some i){A B:Option Addr}{len cap m cap2:Nat}{news:List Value}(h:len+m<=cap)
  (hx:(Builtin.firstCells i.size m (.slice B m cap2)).run P w=.ok news.toArray w):
  (Builtin.append_ #[t,u] ty #[.slice A len cap,.slice B m cap2]).run P w=match A with
   |some a=>((storeCells (a.add (len*i.size)) news).run P w).andThen λ_ w'=>.ok (.slice (some a) (len+m) cap) w'
   |none=>.ok (.slice none (len+m) cap) w:=by
 cases A with
 |none=>simp[Builtin.append_,run_underlying ht,run_underlying hu,Go.sizeOf,typeInfo,hi,Builtin.lenOf,h,hx]
 |some a=>simp[Builtin.append_,run_underlying ht,run_underlying hu,Go.sizeOf,typeInfo,hi,Builtin.lenOf,h,hx]
def aeG{w:World}{t u ty e e':TypeId}{i:TypeInfo}{z:Value}(ht:P.underlying t=some (.slice e))(hu:P.underlying u=some (.slice e'))(hi:P.info? e=some i)(hz:i.zero=some z){A B:Option Addr}{len cap m cap2:Nat}{olds news:List Value}(h:¬len+m<=cap)
  (h63:len+m<=9223372036854775807)(hfit:Builtin.nextslicecap (len+m) cap*i.bytes<=281474976710656)
  (hx:(Builtin.firstCells i.size m (.slice B m cap2)).run P w.drew=.ok news.toArray w.drew)(hy:(Builtin.firstCells i.size len (.slice A len cap)).run P w.drew=.ok olds.toArray w.drew):
  (Builtin.append_ #[t,u] ty #[.slice A len cap,.slice B m cap2]).run P w=.ok (.slice (some ⟨w.heap.size,0,none⟩) (len+m) (grownCap w (len+m) cap e))
    (w.drew.alloc (.cells (olds.toArray++news.toArray++Builtin.zeroCells z.cells (grownCap w (len+m) cap e - (len+m))) e)):=by
 have h63':¬(9223372036854775807<((len:Int)+(m:Int))):=by omega
 have Z7:¬(281474976710656<Builtin.nextslicecap (len+m) cap*i.bytes):=by omega
 simp[Builtin.append_,run_underlying ht,run_underlying hu,Go.sizeOf,typeInfo,zeroValue,hi,hz,Builtin.lenOf,h,h63',Z7,Question.forced,hx,hy,newRow,grownCap];congr 2;apply pO;simp[rA]
variable {c:Ctx}{G:Nat->C}{zl:Nat->Nat->Prop}{s:ag}{a:Act}{w:World}{o:Oper}{K:ag->Prop}
def GX(h:St c G zl s a w){G1:Nat->C}{s1:ag}{l:List C}(hT:bN w zl c.zb G l G1 s1){d z bytes:Nat}{ty ty' el Dm:TypeId}{i:TypeInfo}{v:Value}{x' y':Operand}
  (ho:o.op=.call {callee:=.builtin .append,args:= #[x',y'],argTypes:= #[ty,ty']})(hu:P.underlying ty=some (.slice el))(wV:P.underlying ty'=some (.slice Dm))(hi:P.info? el=some i)(hz:i.zero=some v)(hsz:i.size=z)(hb:i.bytes=bytes)(hb0:0<bytes)(h0:0<z)(hvs:v.cells.size=z)
  (hd:o.dst=some d)(hn:d<c.nt){A:Option Ad}{len cap:Nat}{e:Nat->Nat->C}(hy1:C.row .own z A len cap e∈l)(hv1:a.eval x'=(C.row .own z A len cap e).val)
  {A2:Option Ad}{m cap2:Nat}{e2:Nat->Nat->C}(z8:a.eval y'=.slice (A2.map λq=>⟨q.1,q.2.1,q.2.2⟩) m cap2)(hc2:∀i j,i<m->j<z->∃g o,A2=some (g,o,none)/\w.cell? ⟨g,o+i*z+j,none⟩=some (e2 i j).val)
  (hk2:∀i j,i<m->j<z->(e2 i j).plain/\(e2 i j).ok w (Zf zl c.zb)/\∀b k,(e2 i j).fp b k->¬(C.row .own z A len cap e).fp b k/\∃y∈l,y.fp b k)
  (hp2:(cQ m z e2).flatten.Pairwise λa b=>∀x k,a.fp x k->¬b.fp x k)(hbig:(len+m)*bytes<=140737488355328)(hpl:∀i j,i<len->j<z->(e i j).plain)
  (hK:K (put d (.row .own z (dD z len e++dD z m e2)) s1)):Good P c o a w K:=by
 obtain⟨y1,y2,y3,y4⟩:=hT.all _ hy1;have PT:=y1;obtain⟨r1,r2,r3,r4,r5⟩:=y1;have hk1:∀i j,i<len->j<z->∀b k,(e i j).fp b k->(C.row .own z A len cap e).fp b k:=λi j hi hj b k hf=>C.jX (r3 i j hi hj).1 (r3 i j hi hj).2.2.1 hi hj hf;have hc1:∀i j,i<len->j<z->∃g o,A=some (g,o,none)/\w.cell? ⟨g,o+i*z+j,none⟩=some (e i j).val:=λi j hi hj=>by obtain⟨g,o,q1,q2,_⟩:=r2 i j hi hj;exact⟨g,o,q1,q2⟩
 have hlen:∀x∈cQ len z e++cQ m z e2,x.length=z:=λx hx=>(fP.1 hx).elim (uK _ _ _ x) (uK _ _ _ x);have Pb:(cQ len z e).length=len:=by simp[cQ]
 have Pc:(cQ m z e2).length=m:=by simp[cQ]
 have DM:(cQ len z e++cQ m z e2).length=len+m:=by rw[fO,Pb,Pc]
 have kD:(cQ len z e++cQ m z e2).map (λx=>x.map C.er)=dD z len e++dD z m e2:=by rw[kg,Qd,Qd]
 have hall:∀x∈(cQ len z e++cQ m z e2).flatten,x.plain/\x.ok w (Zf zl c.zb)/\∀b k,x.fp b k->∃y∈l,y.fp b k:=λx hx=>by
  rw[yI,fP] at hx;rcases hx with hx|hx;·obtain⟨i,j,hi,hj,rfl⟩:=nT hx;exact⟨hpl i j hi hj,(r3 i j hi hj).2.2.2,λb k hf=>⟨_,hy1,hk1 i j hi hj b k hf⟩⟩
  ·obtain⟨i,j,hi,hj,rfl⟩:=nT hx;obtain⟨a1,a2,a3⟩:=hk2 i j hi hj;exact⟨a1,a2,λb k hf=>(a3 b k hf).2⟩
 have gN:(cQ len z e++cQ m z e2).flatten.Pairwise λa b=>∀x k,a.fp x k->¬b.fp x k:=by rw[yI];refine vu.2 ⟨J5 PT,hp2,λx hx y hy b k hf hf'=>?_⟩;obtain⟨i,j,hi,hj,rfl⟩:=nT hx;obtain⟨i',j',hi',hj',rfl⟩:=nT hy;exact((hk2 i' j' hi' hj').2.2 b k hf').1 (hk1 i j hi hj b k hf)
 have jw:bN w zl c.zb G (cQ len z e++cQ m z e2).flatten G1 s1:=hT.sub (λx hx=>(hall x hx).2.1) (λx hx=>(hall x hx).2.2) gN;have hfl:(cQ len z e).flatten.length=len*z:=by rw[rY (uK _ _ _),Pb]
 have si:(cQ m z e2).flatten.length=m*z:=by rw[rY (uK _ _ _),Pc]
 have mJ:∀r w',(Builtin.append_ #[ty,ty'] o.type #[(C.row .own z A len cap e).val,.slice (A2.map λq=>⟨q.1,q.2.1,q.2.2⟩) m cap2]).run P w=.ok r w'->(execOp a.eval o).run P w=.ok (.value r) w':=λr w' hr=>by simp[execOp,ho,resolve,invoke,builtin,hv1,z8,hr]
 have hmul:len+m<=(len+m)*bytes:=Nat.le_mul_of_pos_right _ hb0;subst hsz;by_cases hroom:len+m<=cap
 ·have hx:=HX (P:=P) (cap:=cap2) h0 hc2;have hr:=aeH (P:=P) (ty:=o.type) (A:=A.map λq=>⟨q.1,q.2.1,q.2.2⟩) hu wV hi hroom hx.1;rcases r4 rfl with ⟨hA,hcap⟩|⟨g,o',arr,t,fz,hA,hh,akJ,hfr⟩
  ·
   have hm:m=0:=by omega
   have hl:len=0:=by omega
   subst hm;subst hl;subst hA;subst hcap;obtain⟨G',h'⟩:=h.fresh hT (Ext.refl _ w) hn PT trivial (λb k hf=>.inr ⟨_,hy1,hf⟩);refine⟨_,w,.inl (mJ _ _ hr),G',zl,_,hK,?_⟩;rw[hd];exact h'
  ·subst hA;have Iy:(len+m)*i.size<=cap*i.size:=ke _ hroom;rw[fe] at Iy
   have hst:=run_storeCells_cells (P:=P) g (o'+len*i.size) ((cQ m i.size e2).flatten.map C.val) 0 w (λj hj=>by
     rw[cW,si] at hj;rw[cell_of_row _ _ _ _ _ fz hh];rw[CG (by omega)];rfl) (λj hj=>by
     rw[cW,si] at hj;exact hfr _ (by omega) (by omega)) (λu hu=>by
     obtain⟨x,hx,rfl⟩:=aT.1 hu;obtain⟨i',j',hi',hj',rfl⟩:=nT hx;exact Inv.p9 (C.lK (hk2 i' j' hi' hj').1))
   simp only[cC,rG,hst,nh,Result.andThen_ok] at hr;have hE:=Ext.setCells g ((cQ m i.size e2).flatten.map C.val) (o'+len*i.size) w;rw[cW,si] at hE;have hin:=World.cell?_setCells_in g ((cQ m i.size e2).flatten.map C.val) (o'+len*i.size) w;generalize hw':w.setCells g (o'+len*i.size) ((cQ m i.size e2).flatten.map C.val)=w' at hr hE hin;have hg:g<w.heap.size:=(gb.1 hh).1;have wP:∀k,(C.row .own i.size (some (g,o',none)) len cap e).fp g k:=λk=>⟨rfl,.inl ⟨_,rfl⟩⟩
   obtain⟨fS,qp,hs'⟩:∃fS,w'.heap[g]?=some (.cells fS t fz)/\fS.size=arr.size:=by
    rcases hE.block g hg with e'|⟨a1,a2,t',k7,q1,q2,q3,q4⟩;·exact⟨arr,e'.trans hh,rfl⟩
    ·rw[hh] at q1;injection q1 with q1
     injection q1 with b1 b2 b3
     subst b1;subst b2;subst b3;exact⟨a2,q2,q3⟩
   have hok:(uW g o' i.size cap (cQ len i.size e++cQ m i.size e2)).ok w' (Zf zl c.zb):=by
    refine Ru hlen (by rw[DM];exact hroom) qp (by omega) (λk h1 h2=>(hE.frozen hg).trans (hfr k h1 h2)) (λq x hq=>?_) (λx hx=>?_) gN (λx hx b k hf=>?_)
    ·rw[yI] at hq;by_cases hql:q<len*i.size
     ·rw[pQ (by omega)] at hq;obtain⟨a1,a2,rfl⟩:=Qc h0 hq;obtain⟨g',o2,hA,hcl⟩:=hc1 _ _ a1 a2;injection hA with hA
      injection hA with b1 b2
      injection b2 with b2
      subst b1;subst b2;have zV:q=q / i.size*i.size+q%i.size:=by have:=yF q i.size;rw[kS] at this;omega
      refine hE.cell (λhs=>by omega) ?_;rw[<-hcl];congr 2;omega
     ·rw[nr (by omega)] at hq;rw[hfl] at hq;have zU:=(aQ.1 hq).1;rw[si] at zU;have:=hin (λj hj=>by rw[cW,si] at hj;rw[cell_of_row _ _ _ _ _ fz hh,CG (by omega)];rfl) (q - len*i.size) (by rw[cW,si];exact zU)
      rw[show o'+len*i.size+(q - len*i.size)=o'+q by omega] at this;rw[this,<-cm,cS,hq];rfl
    ·obtain⟨a1,a2,a3⟩:=hall x hx;refine⟨C.lK a1,C.BV a1,hT.fits' hE (λb k hz hs=>?_) a2 (λb k hf hs=>?_)⟩;·obtain⟨rfl,_⟩:=hs;exact hz.elim (y3 b k (wP k)).1 (y3 b k (wP k)).2
     ·obtain⟨rfl,_⟩:=hs;rw[yI,fP] at hx;rcases hx with hx|hx;·obtain⟨i',j',hi',hj',rfl⟩:=nT hx;exact(r5 i' j' hi' hj' b k hf).1 rfl o' rfl
      ·obtain⟨i',j',hi',hj',rfl⟩:=nT hx;exact((hk2 i' j' hi' hj').2.2 b k hf).1 (wP k)
    ·intro hbg;subst hbg;rw[yI,fP] at hx;rcases hx with hx|hx;·obtain⟨i',j',hi',hj',rfl⟩:=nT hx;exact(r5 i' j' hi' hj' b k hf).1 rfl o' rfl
     ·obtain⟨i',j',hi',hj',rfl⟩:=nT hx;exact((hk2 i' j' hi' hj').2.2 b k hf).1 (wP k)
   obtain⟨G',h'⟩:=h.fresh' hT hE (λb k hs=>.inr ⟨_,hy1,by rw[hs.1];exact wP k⟩) hn hok trivial (λb k hf=>by
    rcases Rt hlen hf with rfl|⟨x,hx,hf⟩;·exact .inr ⟨_,hy1,wP k⟩
    ·exact .inr ((hall x hx).2.2 b k hf))
   refine⟨_,w',.inl (mJ _ _ hr),G',zl,_,hK,?_⟩;rw[hd];rw[Rs hlen,kD,aep,DM] at h';exact h'
 ·have hx:=HX (P:=P) (w1:=w.drew) (cap:=cap2) h0 hc2;have hy:=HX (P:=P) (w1:=w.drew) (cap:=cap) h0 hc1;have hr:=aeG (P:=P) (ty:=o.type) hu wV hi hz hroom (by omega) (growslice_fits (by omega) (by rw[hb];exact hbig)) hx.1 hy.1;have hge:=grownCap_ge w (len+m) cap el;generalize grownCap w (len+m) cap el=cap' at hr hge;refine jJ.good (good_row h (L:=cQ len i.size e++cQ m i.size e2) (cap:=cap') (fz:=(0,0)) hlen (by rw[DM];exact hge) jw (λx hx=>(hall x hx).1) hd hn (NV w _) (zN w.drew _) ?_ (λk _ hh=>by simp at hh) (λq x hq=>?_) (by rw[DM];exact mJ _ _ hr) (by rw[kD];exact hK));·simp only[LQ,mZ,cW,hfl,si,size_zeroCells,hvs];rw[<-fe,<-fe];exact ke _ (by omega)
  ·rw[yI] at hq;have zU:=(aQ.1 hq).1;have hmap:(((cQ len i.size e).flatten++(cQ m i.size e2).flatten).map C.val)[q]?=some x.val:=by rw[cS,hq];rfl
   rw[L5 (by rw[LQ,mZ,mZ,cW,cW,<-fO];exact zU)];rw[<-hmap,kg];simp
end
end M
namespace M
open Go Go.RowKit
variable [Bs]
namespace C
def belows(r:Nat)(p:Path):Nat->Path->Bool:=λs q=>s==r && p7 p q
def Bz(r:Nat)(p:Path){α:Type}(f:α->X):∀l:List α,X.qH r p (l.map f)=l.map λa=>(f a).eV r p
 |[]=>rfl
 |a::l=>by simp only[bq,X.qH,Bz r p f l]
def xG(r:Nat)(p:Path):∀c:C,(c.ay (belows r p)).er=c.er.eV r p
 |.ref v s q=>by simp only[ay,er,X.eV,belows];cases s==r && p7 p q<;>rfl
 |.ai v s q i c=>by simp only[ay,er,X.eV,belows];cases s==r && p7 p q<;>rfl
 |.cut v s q i c=>by simp only[ay,er,X.eV,belows];cases s==r && p7 p q<;>rfl
 |.ptr m g o n c=>by simp only[ay,er,X.eV,Bz];congr 1;exact cu λj _=>xG r p (c j)
 |.agg n c=>by simp only[ay,er,X.eV,Bz];congr 1;exact cu λj _=>xG r p (c j)
 |.aj n c=>by simp only[ay,er,X.eV,Bz];congr 1;exact cu λj _=>xG r p (c j)
 |.fn f n c=>by simp only[ay,er,X.eV,Bz];congr 1;exact cu λj _=>xG r p (c j)
 |.dead _=>by simp only[ay,er,X.eV]
 |.int _ _=>by simp only[ay,er,X.eV]
 |.bool _=>by simp only[ay,er,X.eV]
 |.str _=>by simp only[ay,er,X.eV]
 |.row _ _ _ _ _ _=>by simp only[ay,er,X.eV]
def rL(G:Nat->C):∀c:C,c.bare->c.rf G
 |.ref _ _ _,h=>h.elim
 |.ai _ _ _ _ _,h=>h.elim
 |.cut _ _ _ _ _,h=>h.elim
 |.ptr m g o n c,h=>λj hj=>rL G (c j) (h j hj)
 |.agg n c,h=>λj hj=>rL G (c j) (h j hj)
 |.aj n c,h=>λj hj=>rL G (c j) (h j hj)
 |.fn f n c,h=>λj hj=>rL G (c j) (h j hj)
 |.dead _,_=>trivial
 |.int _ _,_=>trivial
 |.bool _,_=>trivial
 |.str _,_=>trivial
 |.row _ _ _ _ _ _,_=>trivial
def vU{l:List X}:X.bare.iP l=true↔∀x∈l,x.bare=true:=by
 induction l with
 |nil=>simp[X.bare.iP]
 |cons a l ih=>simp[X.bare.iP,ih]
def mq:∀c:C,c.er.bare=true↔c.bare
 |.ref _ _ _=>by simp[er,X.bare,bare]
 |.ai _ _ _ _ _=>by simp[er,X.bare,bare]
 |.cut _ _ _ _ _=>by simp[er,X.bare,bare]
 |.ptr m g o n c=>by simp only[er,X.bare,bare,vU,aT,oc];exact⟨λh j hj=>(mq (c j)).1 (h _ ⟨j,hj,rfl⟩),λh x ⟨j,hj,e⟩=>e▸(mq (c j)).2 (h j hj)⟩
 |.agg n c=>by simp only[er,X.bare,bare,vU,aT,oc];exact⟨λh j hj=>(mq (c j)).1 (h _ ⟨j,hj,rfl⟩),λh x ⟨j,hj,e⟩=>e▸(mq (c j)).2 (h j hj)⟩
 |.aj n c=>by simp only[er,X.bare,bare,vU,aT,oc];exact⟨λh j hj=>(mq (c j)).1 (h _ ⟨j,hj,rfl⟩),λh x ⟨j,hj,e⟩=>e▸(mq (c j)).2 (h j hj)⟩
 |.fn f n c=>by simp only[er,X.bare,bare,vU,aT,oc];exact⟨λh j hj=>(mq (c j)).1 (h _ ⟨j,hj,rfl⟩),λh x ⟨j,hj,e⟩=>e▸(mq (c j)).2 (h j hj)⟩
 |.dead _=>by simp[er,X.bare,bare]
 |.int _ _=>by simp[er,X.bare,bare]
 |.bool _=>by simp[er,X.bare,bare]
 |.str _=>by simp[er,X.bare,bare]
 |.row _ _ _ _ _ _=>by simp[er,X.bare,bare]
def Q2:∀{p q:Path},X.pfx p q=true->¬p.length<q.length->q=p
 |[],[],_,_=>rfl
 |[],_::_,_,h=>by simp at h
 |_::_,[],h,_=>by simp[X.pfx] at h
 |x::p,y::q,h,hl=>by simp only[X.pfx,ax,ei] at h;obtain⟨⟨h1,h2⟩,h3⟩:=h;rw[Q2 h3 (by simpa using hl)];congr 1;cases x;cases y;simp only at h1 h2;rw[h1,h2]
end C
def OZ(r:Nat)(p:Path)(t:Nat):∀s:ag,get (sO r p s) t=(get s t).eV r p
 |[]=>by simp[sO,get,X.eV]
 |(k,v)::s=>by
  simp only[sO,get];cases k==t;·exact OZ r p t s
  ·rfl
namespace Inv
variable {w w':World}{zl aE zb:Nat->Nat->Prop}{G:Nat->C}{s:ag}{S:Nat->Nat->Prop}
def eV(h:Inv w zl zb G s)(r:Nat)(p:Path):Inv w zl zb (λt=>(G t).ay (C.belows r p)) (sO r p s):=
 h.off _ λt=>by rw[C.xG,OZ,h.er]
def G4(h:Inv w zl zb G s)(r:Nat)(p:Path)(hfree:∀t,(G t).free (C.belows r p)){d d':C}(hsub:(G r).sub p=some d)(hF:C.gd d d')(hl:C.gY d d')(Pj:d'.rf G/\d'.free (C.belows r p))(hE:Ext S w w')
  (hS:∀b k,S b k->d.fp b k\/((∀t,¬(G t).fp b k)/\¬zl b k/\¬zb b k))(hok:d'.ok w' (Zf aE zb))(hz1:∀b k,zl b k->aE b k)(hz2:∀b k,aE b k->¬d'.fp b k/\b<w'.heap.size/\∀t,(G t).fp b k->d.fp b k)
  (cg:∀b k,d'.fp b k->d.fp b k\/((∀t,¬(G t).fp b k)/\¬zb b k)):
  Inv w' aE zb (fF G r (C.putAt p (G r) d')) ((r,X.putAt p (get s r) d'.er)::s)/\(∀t,(fF G r (C.putAt p (G r) d') t).val=(G t).val)/\
   ∀t b k,(fF G r (C.putAt p (G r) d') t).fp b k->d'.fp b k\/((G t).fp b k/\¬d.fp b k):=by
 have ck:∀{b k},d.fp b k->(G r).fp b k:=λhf=>C.gC p hsub (h.ok r) hf
 have hZ:∀m b k,Zf zl zb m b k->¬S b k:=λm b k hz hs=>by
  rcases hS b k hs with hs|hs;·exact h.yM r m b k hz (ck hs)
  ·cases m with
   |own=>exact hz.elim
   |sl=>exact hs.2.1 hz
   |af=>exact hz.elim hs.2.1 hs.2.2
 have hM:∀m b k,Zf zl zb m b k->Zf aE zb m b k:=λm b k hz=>by
  cases m with
  |own=>exact hz
  |sl=>exact hz1 b k hz
  |af=>exact hz.imp (hz1 b k) id
 obtain⟨i1,i2,i3⟩:=C.BP hM hE hZ p (G r) d d' (h.ok r) hsub hok hl (λb k hs=>(hS b k hs).imp id λhn=>hn.1 r) (λb k hf=>(cg b k hf).imp id λhn=>hn.1 r)
 have hr':∀t,t≠r->∀b k,(C.putAt p (G r) d').fp b k->¬(G t).fp b k:=λt e b k hf=>by
  rcases i2 b k hf with hf|hf
  ·rcases cg b k hf with hf|hf;·exact h.sep r t (λe'=>e e'.symm) b k (ck hf)
   ·exact hf.1 t
  ·exact h.sep r t (λe'=>e e'.symm) b k hf.1
 have key:∀c':C,c'.free (C.belows r p)->c'.rf G->c'.rf (fF G r (C.putAt p (G r) d')):=λc' hf hr=>C.lQ (C.belows r p) (λs' q' y' hk hs=>by
  by_cases e:s'=r
  ·subst e;rw[dz];cases hp:X.pfx p q' with
   |false=>exact C.Ga p q' (G s') d' y' hp hs
   |true=>
    have hlen:¬p.length<q'.length:=by simpa [C.belows,p7,hp] using hk
    have he:=C.Q2 hp hlen;subst he;rw[hsub] at hs;injection hs with hs
    subst hs;exact .inl ⟨d',hF,C.Gb _ hsub⟩
  ·rw[dc _ _ e];exact C.self y' _ q' hs) c' hf hr
 refine⟨⟨λt=>?_,λt=>?_,λt u hne b k hf=>?_,λt b k hf=>?_,λt=>?_,λb k hz=>?_⟩,λt=>?_,λt b k hf=>?_⟩
 ·rw[wK];by_cases e:t=r;·subst e;rw[dz,aq rfl,C.KF,h.er]
  ·rw[dc _ _ e,az e];exact h.er t
 ·by_cases e:t=r;·subst e;rw[dz];exact i1
  ·rw[dc _ _ e];refine C.gy hM _ (C.eX hE hZ _ (λb k hf hs=>?_) (h.ok t));rcases hS b k hs with hs|hs;·exact h.sep t r e b k hf (ck hs)
   ·exact hs.1 t hf
 ·by_cases e:t=r;·subst e;rw[dz] at hf;rw[dc _ _ (λe=>hne e.symm)];exact hr' u (λe=>hne e.symm) b k hf
  ·rw[dc _ _ e] at hf;by_cases e':u=r;·subst e';rw[dz];exact λhc=>hr' t e b k hc hf
   ·rw[dc _ _ e'];exact h.sep t u hne b k hf
 ·by_cases e:t=r
  ·subst e;rw[dz] at hf;rcases i2 b k hf with hf|⟨hf,hn⟩
   ·refine⟨λhz=>(hz2 b k hz).1 hf,λhz=>?_⟩;rcases cg b k hf with hf|hf;·exact(h.fz t b k (ck hf)).2 hz
    ·exact hf.2 hz
   ·exact⟨λhz=>hn ((hz2 b k hz).2.2 t hf),(h.fz t b k hf).2⟩
  ·rw[dc _ _ e] at hf;exact⟨λhz=>h.sep t r e b k hf (ck ((hz2 b k hz).2.2 t hf)),(h.fz t b k hf).2⟩
 ·by_cases e:t=r
  ·subst e;rw[dz]
   have inner:∀(p':Path) (c':C),c'.free (C.belows t p)->c'.rf G->(C.putAt p' c' d').rf (fF G t (C.putAt p (G t) d')):=by
    intro p';induction p' with
    |nil=>intro c' _ _;exact key d' Pj.2 Pj.1
    |cons x p' ih=>
     intro c' iT jU;simp only[C.putAt];cases hst:c'.step x with
     |none=>exact key c' iT jU
     |some z=>
      cases c' with
      |row m sz A len cap e=>trivial
      |ptr m g o n c=>
       simp only[C.step] at hst;split at hst
       ·rename_i hq;injection hst with hst
        intro j hj;simp only[C.cj];split;·exact ih z (by rw[<-hst];exact iT _ hq.2) (by rw[<-hst];exact jU _ hq.2)
        ·exact key _ (iT j hj) (jU j hj)
       ·cases hst
      |agg n c=>
       simp only[C.step] at hst;split at hst
       ·rename_i hq;injection hst with hst
        intro j hj;simp only[C.cj];split;·exact ih z (by rw[<-hst];exact iT _ hq.2) (by rw[<-hst];exact jU _ hq.2)
        ·exact key _ (iT j hj) (jU j hj)
       ·cases hst
      |aj n c=>
       simp only[C.step] at hst;split at hst
       ·rename_i hq;injection hst with hst
        intro j hj;simp only[C.cj];split;·exact ih z (by rw[<-hst];exact iT _ hq.2) (by rw[<-hst];exact jU _ hq.2)
        ·exact key _ (iT j hj) (jU j hj)
       ·cases hst
      |_=>simp[C.step] at hst
   exact inner p (G t) (hfree t) (h.rf t)
  ·rw[dc _ _ e];exact key _ (hfree t) (h.rf t)
 ·exact hz.elim (λhz=>(hz2 b k hz).2.1) λhz=>iK (h.cA b k (.inr hz)) hE.size
 ·by_cases e:t=r;·subst e;rw[dz];exact i3.val
  ·rw[dc _ _ e]
 ·by_cases e:t=r;·subst e;rw[dz] at hf;exact i2 b k hf
  ·rw[dc _ _ e] at hf;exact .inr ⟨hf,λhd=>h.sep t r e b k hf (ck hd)⟩
def MJ(h:Inv w zl zb G s)(hE:Ext S w w')(hS:∀b k,S b k->(∀t,¬(G t).fp b k)/\¬zl b k/\¬zb b k)(hz1:∀b k,zl b k->aE b k)(hz2:∀b k,aE b k->b<w'.heap.size/\∀t,¬(G t).fp b k):Inv w' aE zb G s:=by
 have h1:=h.ext hE (λt b k hf hs=>(hS b k hs).1 t hf) (λb k hz hs=>hz.elim (hS b k hs).2.1 (hS b k hs).2.2);refine⟨h1.er,λt=>C.gy (λm b k hz=>?_) _ (h1.ok t),h1.sep,λt b k hf=>⟨λhz=>(hz2 b k hz).2 t hf,(h1.fz t b k hf).2⟩,h1.rf,λb k hz=>hz.elim (λhz=>(hz2 b k hz).1) λhz=>h1.cA b k (.inr hz)⟩;cases m with
 |own=>exact hz
 |sl=>exact hz1 b k hz
 |af=>exact hz.imp (hz1 b k) id
end Inv
end M
namespace M
open Go Go.RowKit
variable [Bs]
section
variable {P:Program}{c:Ctx}{G:Nat->C}{zl:Nat->Nat->Prop}{s:ag}{a:Act}{w:World}{o:Oper}{K:ag->Prop}
def adw(h:St c G zl s a w){sz:Nat}{z:List X}{ty el:TypeId}{ii:TypeInfo}{v:Value}{x:AV}{x':Operand}(ho:o.op=.call {callee:=.builtin .clear,args:= #[x'],argTypes:= #[ty]})(hu:P.underlying ty=some (.slice el))(hi:P.info? el=some ii)(hz:ii.zero=some v)
  (Iy:nD v.cells.toList z=true)(hzs:z.length=sz)(h0:0<sz)(hd:o.dst=none)(hx:aK x' x=true)(hK:aM P (.tY sz z x) s K):Good P c o a w K:=by
 obtain⟨q,q1,q2,q3⟩:=cx h hx;simp only[aM] at hK;rw[<-q1] at hK;cases q with
 |cut vv r p lo hi'=>
  simp only[C.er] at hK;obtain⟨m,bR,A,len,cap,e,A',cap',hs,hv,hlo,hhi,hcap,iS,-,-⟩:=q3.rf;unfold look at hK;rw[<-h.inv.er,C.gB,hs] at hK;cases m with
  |own=>
   simp only[cC,C.er] at hK;obtain⟨rfl,hK⟩:=hK;obtain⟨zs,Z⟩:=CI w zl c.zb Iy;have hzl:zs.length=z.length:=by rw[<-Z.er];simp
   have hvs:v.cells.size=z.length:=by rw[<-hzl,<-Cw,<-Z.val];simp
   have hok:=C.gT p hs (h.inv.ok r);have hin:∀b k,(C.row .own bR A len cap e).fp b k->(G r).fp b k:=λb k hf=>C.gC p hs (h.inv.ok r) hf;obtain⟨h1,h2,h3,h4,h5⟩:=hok;let e':Nat->Nat->C:=λi j=>if lo<=i/\i<hi' then zs.getD j (.dead undef) else e i j
   have he:∀i j,(lo<=i/\i<hi')->e' i j=zs.getD j (.dead undef):=λi j hh=>aq hh;have hne:∀i j,¬(lo<=i/\i<hi')->e' i j=e i j:=λi j hh=>az hh;have Ai:∀j,j<bR->zs.getD j (.dead undef)∈zs:=λj hj=>cP (by omega) _;have kF:∀i j,i<len->j<bR->∀b k,(e i j).fp b k->(C.row .own bR A len cap e).fp b k:=λi j hi hj b k hf=>⟨rfl,.inr ⟨i,j,hi,hj,hf⟩⟩
   have ug:∀b k,(C.row .own bR A len cap e').fp b k->(C.row .own bR A len cap e).fp b k:=λb k hf=>by
    obtain⟨_,hA|⟨i,j,hi2,hj,hf⟩⟩:=hf;·exact⟨rfl,.inl hA⟩
    ·by_cases hh:lo<=i/\i<hi';·rw[he i j hh] at hf;exact((Z.all _ (Ai j hj)).2.2 b k hf).elim
     ·rw[hne i j hh] at hf;exact kF i j hi2 hj b k hf
   have run:∃w',(execOp a.eval o).run P w=.ok (.value (.tuple #[])) w'/\Ext (λb k=>∃o',A=some (b,o',none)) w w'/\∀i j,i<len->j<bR->∃g o',A=some (g,o',none)/\w'.cell? ⟨g,o'+i*bR+j,none⟩=some (e' i j).val:=by
    have mJ:∀n' A2 c2 r w',a.eval x'=.slice A2 n' c2->(Builtin.clear_ #[ty] o.type #[.slice A2 n' c2]).run P w=.ok r w'->(execOp a.eval o).run P w=.ok (.value r) w':=by intro n' A2 c2 r w' hh hr;simp[execOp,ho,hh,resolve,invoke,builtin,hr]
    by_cases hn0:hi' - lo=0
    ·refine⟨w,?_,Ext.refl _ _,λi j mK hj=>?_⟩
     ·have z8:a.eval x'=.slice (Option.map (λq:Ad=>⟨q.1,q.2.1,q.2.2⟩) A') 0 cap':=by rw[<-q2,C.val,hv,hn0]
      refine mJ _ _ _ _ _ z8 ?_;cases A'<;>simp[Builtin.clear_,run_underlying hu]
     ·obtain⟨g,o',b1,b2,_⟩:=h2 i j mK hj;exact⟨g,o',b1,by rw[b2,hne i j (by omega)]⟩
    ·obtain⟨g,o',b1,_,_⟩:=h2 lo 0 (by omega) h0;have hAs:A'=some (g,o'+lo*bR,none):=by rw[iS (by omega),b1,cC,pY]
     have hall:∀i j,i<len->j<bR->w.cell? ⟨g,o'+i*bR+j,none⟩=some (e i j).val:=λi j mK hj=>by
      obtain⟨g2,o2,c1,c2,_⟩:=h2 i j mK hj;rw[b1] at c1;injection c1 with c1
      injection c1 with c3 c4
      injection c4 with c4
      subst c3;subst c4;exact c2
     have ID:∀k,o'<=k->k<o'+cap*bR->w.frozen? ⟨g,k,none⟩=false:=by
      rcases h4 rfl with ⟨d1,_⟩|⟨g2,o2,arr,t,fz,d1,d2,d3,d4⟩;·rw[b1] at d1;cases d1
      ·rw[b1] at d1;injection d1 with d1
       injection d1 with d5 d6
       injection d6 with d6
       subst d5;subst d6;exact d4
     let vs:List Value:=(Builtin.zeroCells v.cells (hi' - lo)).toList;have hvl:vs.length=(hi' - lo)*bR:=by simp[vs,Builtin.zeroCells,hvs,hzs]
     have PR:∀k (hk:k<vs.length),vs[k]=(zs.getD (k%bR) (.dead undef)).val:=by
      intro k hk;have hm:k%bR<zs.length:=by rw[hzl,hzs];exact om _ h0
      have hm2:k%bR<v.cells.size:=by omega
      have e1:vs[k]=v.cells[k%v.cells.size]!:=by simp[vs,Builtin.zeroCells]
      rw[e1,hvs,hzs,getElem!_pos v.cells (k%bR) hm2];have:=dw (λt:List Value=>t[k%bR]?) Z.val;simp only[cS] at this;rw[cm hm] at this;rw[kT,cm hm];simp only[cC,Array.getElem?_toList,CG hm2,dr] at this;exact this.symm
     have hidx:∀k,k<(hi' - lo)*bR->k / bR<hi' - lo/\k=k / bR*bR+k%bR:=λk hk=>by refine⟨(Nat.div_lt_iff_lt_mul h0).2 hk,?_⟩;have:=yF k bR;rw[kS] at this;omega
     have PF:∀k,k<(hi' - lo)*bR->o'+lo*bR+k=o'+(lo+k / bR)*bR+k%bR:=λk hk=>by have:=(hidx k hk).2;rw[fe];omega
     have hsome:∀j,j<vs.length->(w.cell? ⟨g,o'+lo*bR+j,none⟩).isSome=true:=λj hj=>by rw[hvl] at hj;rw[PF j hj,hall _ _ (by have:=(hidx j hj).1;omega) (om _ h0)];rfl
     have hst:=run_storeCells_cells (P:=P) g (o'+lo*bR) vs 0 w (by simpa using hsome) (λj hj=>by
      rw[hvl] at hj;refine ID _ (by omega) ?_;rw[nh,PF j hj];have h7:=(hidx j hj).1;have h8:(lo+j / bR+1)*bR<=cap*bR:=ke _ (by omega);have h9:=om j h0;rw[fe,vA] at h8;omega) (λu hu=>by
      obtain⟨k,hk,rfl⟩:=pT hu;rw[PR k hk];exact Inv.p9 (C.lK (Z.all _ (Ai _ (om _ h0))).1))
     have hE:=Ext.setCells g vs (o'+lo*bR) w;have aaj:=World.cell?_setCells_in g vs (o'+lo*bR) w hsome;simp only[nh] at hst;refine⟨w.setCells g (o'+lo*bR) vs,?_,hE.mono λb k hh _=>⟨o',by rw[b1,hh.1]⟩,λi j mK hj=>⟨g,o',b1,?_⟩⟩
     ·have z8:a.eval x'=.slice (some ⟨g,o'+lo*bR,none⟩) (hi' - lo) cap':=by rw[<-q2,C.val,hv,hAs];rfl
      refine mJ _ _ _ _ _ z8 ?_;obtain⟨m,hm⟩:∃m,hi' - lo=m+1:=⟨hi' - lo - 1,by omega⟩;have I9:∀w,(zeroValue el).run P w=.ok v w:=by intro w;simp[zeroValue,typeInfo,hi,hz]
      simp only[vs,hm] at hst⊢;simp[Builtin.clear_,run_underlying hu,I9,hst]
     ·by_cases hh:lo<=i/\i<hi'
      ·have hk:(i - lo)*bR+j<vs.length:=by rw[hvl];have:(i - lo+1)*bR<=(hi' - lo)*bR:=ke _ (by omega);rw[fe,vA] at this;omega
       have:=aaj _ hk;rw[PR _ hk,Nat.mul_add_mod_self_right,LV hj] at this;have hq:lo*bR+(i - lo)*bR=i*bR:=by rw[<-fe];congr 1;omega
       rw[show o'+lo*bR+((i - lo)*bR+j)=o'+i*bR+j by omega] at this;rw[he i j hh];exact this
      ·rw[hne i j hh,World.cell?_setCells_out,hall i j mK hj];intro _ _;simp only;rw[hvl];by_cases hl:i<lo;·left;have:(i+1)*bR<=lo*bR:=ke _ (by omega);rw[fe,vA] at this;omega
       ·right;have t1:hi'*bR<=i*bR:=ke _ (by omega);have t2:lo*bR+(hi' - lo)*bR=hi'*bR:=by rw[<-fe];congr 1;omega
        omega
   obtain⟨w',hrun,hE,hcell⟩:=run;have r7:∀b k,(∃o',A=some (b,o',none))->(C.row .own bR A len cap e).fp b k:=λb k hh=>⟨rfl,.inl hh⟩;have Pe:∀m b k,Zf zl c.zb m b k->¬(∃o',A=some (b,o',none)):=λm b k hz hh=>h.inv.yM r m b k hz (hin b k (r7 b k hh))
   have Iz:(C.row .own bR A len cap e').ok w' (Zf zl c.zb):=by
    refine⟨h1,λi j mK hj=>?_,λi j mK hj=>?_,λhm=>?_,λi j mK hj b k hf=>?_⟩;·obtain⟨g,o',c1,c2⟩:=hcell i j mK hj;exact⟨g,o',c1,c2,λhm=>(hm rfl).elim⟩
    ·obtain⟨a1,a2,a3,a4⟩:=h3 i j mK hj;by_cases hh:lo<=i/\i<hi';·rw[he i j hh];obtain⟨b1,b2,b3⟩:=Z.all _ (Ai j hj);exact⟨C.lK b1,C.BV b1,by cases hq:zs.getD j (.dead undef)<;>first|trivial|exact .inl rfl,C.eX hE Pe _ (λb k hf=>(b3 b k hf).elim) b2⟩
     ·rw[hne i j hh];exact⟨a1,a2,a3,C.eX hE Pe _ (λb k hf hS=>by obtain⟨o',hA⟩:=hS;exact(h5 i j mK hj b k hf).1 rfl o' hA) a4⟩
    ·rcases h4 hm with hh|⟨g,o',arr,t,fz,d1,d2,d3,d4⟩;·exact .inl hh
     ·have hg:g<w.heap.size:=(gb.1 d2).1
      obtain⟨fS,qp,hs'⟩:∃fS,w'.heap[g]?=some (.cells fS t fz)/\fS.size=arr.size:=by
       rcases hE.block g hg with e'|⟨a1,a2,t',k7,q1,q2,q3,q4⟩;·exact⟨arr,e'.trans d2,rfl⟩
       ·rw[d2] at q1;injection q1 with q1
        injection q1 with b1 b2 b3
        subst b1;subst b2;subst b3;exact⟨a2,q2,q3⟩
      exact .inr ⟨g,o',fS,t,fz,d1,qp,by omega,λk k1 k2=>(hE.frozen hg).trans (d4 k k1 k2)⟩
    ·by_cases hh:lo<=i/\i<hi';·rw[he i j hh] at hf;exact((Z.all _ (Ai j hj)).2.2 b k hf).elim
     ·rw[hne i j hh] at hf;obtain⟨a1,a2⟩:=h5 i j mK hj b k hf;refine⟨a1,λi' j' hi2 hj2 ur hf'=>?_⟩;by_cases qp:lo<=i'/\i'<hi';·rw[he i' j' qp] at hf';exact(Z.all _ (Ai j' hj2)).2.2 b k hf'
      ·rw[hne i' j' qp] at hf';exact a2 i' j' hi2 hj2 ur hf'
   have hk0:=h.inv.eV r p;have hs0:((G r).ay (C.belows r p)).sub p=some (C.row .own bR A len cap e):=C.iY _ p _ _ (h.inv.ok r) hs
   obtain⟨i1,i2,i3⟩:=hk0.G4 r p (λt=>C.gx _ _) hs0 (C.gd.row .own .own bR A len cap e e') ⟨rfl,λh=>h,λh=>h,λh=>h,λm h=>h⟩ ⟨trivial,trivial⟩ hE (λb k hs=>.inl (r7 b k hs)) Iz (λb k hz=>hz)
    (λb k hz=>⟨λhf=>(h.inv.fz r b k (hin b k (ug b k hf))).1 hz,iK (h.inv.cA b k (.inl hz)) hE.size,λt hf=>by rw[C.cM] at hf;exact((h.inv.fz t b k hf).1 hz).elim⟩) (λb k hf=>.inl (ug b k hf))
   have kD:(C.row .own bR A len cap e').er=.row .own bR (rW lo hi' z ((List.range len).map λi=>(List.range bR).map λj=>(e i j).er)):=by
    simp only[C.er,rW];congr 1;apply gX;intro i;rw[L9,C.cX,C.cX];split
    ·simp only[cC,dr];by_cases hh:lo<=i/\i<hi';·rw[aq hh,<-Z.er,<-mV zs (.dead undef) C.er,hzl,hzs];exact cu λj _=>by rw[he i j hh]
     ·rw[az hh];exact cu λj _=>by rw[hne i j hh]
    ·rfl
   rw[kD] at i1
   have hst:St c _ zl _ a w':=h.move i1 (λt=>(i2 t).trans (C.iZ _ _)) hE (λb k hs=>h.tr.dom r b k (hin b k (r7 b k hs))) (λt b k hf=>by
    rcases i3 t b k hf with hd|⟨hh,_⟩;·exact .inl ⟨r,hin b k (ug b k hd)⟩
    ·rw[C.cM] at hh;exact .inl ⟨t,hh⟩)
   exact⟨.tuple #[],w',.inl hrun,_,zl,_,hK,by rw[hd];exact hst⟩
  |sl=>exact hK.elim
  |af=>exact hK.elim
 |_=>exact hK.elim
end
end M
namespace M
open Go Go.RowKit
variable [Bs]
section
variable {P:Program}{c:Ctx}{G:Nat->C}{zl:Nat->Nat->Prop}{s:ag}{a:Act}{w:World}{o:Oper}{K:ag->Prop}
def KD{x:C}(hc:x.cell)(hs:x.cK):x.plain:=by cases x<;>first|exact hc|exact hs.elim|trivial
def zm{x:C}{m:Md}{z:Nat}{xs:List (List X)}(h:x.er=.row m z xs):∃A len cap e,x=.row m z A len cap e/\xs=dD z len e:=by
 cases x with
 |row m' z' A len cap e=>
  simp only[C.er] at h;injection h with h1 h2 h3
  subst h1;subst h2;exact⟨A,len,cap,e,rfl,h3.symm⟩
 |_=>simp[C.er] at h
def RF{z len:Nat}{e:Nat->Nat->C}(h:scalars (dD z len e)){i j:Nat}(hi:i<len)(hj:j<z):scalar (e i j).er=true:=
 h _ (aT.2 ⟨i,by simpa using hi,rfl⟩) _ (aT.2 ⟨j,by simpa using hj,rfl⟩)
def RG{x:C}(h:scalar x.er=true):x.plain/\∀b k,¬x.fp b k:=by cases x<;>first|exact⟨trivial,λ_ _ h=>h⟩|(simp[C.er,scalar] at h)
def afs{w:World}{zl zb:Nat->Nat->Prop}{G:Nat->C}{s:ag}(h:Inv w zl zb G s){v:Value}{r:Nat}{p:Path}{lo hi:Nat}(hr:(C.cut v r p lo hi).rf G){z:Nat}{xs:List (List X)}(hl:look s r p=some (.row .own z xs)):
  ∃A' cap' e2 G',v=.slice (Option.map (λq:Ad=>⟨q.1,q.2.1,q.2.2⟩) A') (hi - lo) cap'/\((xs.take hi).drop lo)=dD z (hi - lo) e2/\(∀i j,i<hi - lo->j<z->∃g o,A'=some (g,o,none)/\w.cell? ⟨g,o+i*z+j,none⟩=some (e2 i j).val)/\
   (∀i j,i<hi - lo->j<z->(e2 i j).plain)/\bN w zl zb G (cQ (hi - lo) z e2).flatten G' (iq r p (.row .own z (Dj lo hi xs)) s):=by
 obtain⟨m,sz,A,len,cap,e,A',cap',hs,hv,hlo,hhi,hcap,iS,-,-⟩:=hr;unfold look at hl;rw[<-h.er,C.gB,hs] at hl;simp only[cC,C.er,dr,X.row.injEq] at hl;obtain⟨rfl,rfl,rfl⟩:=hl;have hok:=C.gT p hs (h.ok r);have hin:∀b k,(C.row .own sz A len cap e).fp b k->(G r).fp b k:=λb k hf=>C.gC p hs (h.ok r) hf;obtain⟨h1,h2,h3,h4,h5⟩:=hok;let e':Nat->Nat->C:=λi j=>if lo<=i/\i<hi then .dead (e i j).val else e i j
 have he:∀i j,(lo<=i/\i<hi)->e' i j=.dead (e i j).val:=λi j hh=>aq hh;have hne:∀i j,¬(lo<=i/\i<hi)->e' i j=e i j:=λi j hh=>az hh;have kF:∀i j,i<len->j<sz->∀b k,(e i j).fp b k->(C.row .own sz A len cap e).fp b k:=λi j hi hj b k hf=>⟨rfl,.inr ⟨i,j,hi,hj,hf⟩⟩
 have ug:∀b k,(C.row .own sz A len cap e').fp b k->(C.row .own sz A len cap e).fp b k:=λb k hf=>by
  obtain⟨_,hA|⟨i,j,hi',hj,hf⟩⟩:=hf;·exact⟨rfl,.inl hA⟩
  ·by_cases hh:lo<=i/\i<hi;·rw[he i j hh] at hf;exact hf.elim
   ·rw[hne i j hh] at hf;exact kF i j hi' hj b k hf
 have Iz:(C.row .own sz A len cap e').ok w (Zf zl zb):=by
  refine⟨h1,λi j hi' hj=>?_,λi j hi' hj=>?_,h4,λi j hi' hj b k hf=>?_⟩
  ·obtain⟨g,o,a1,a2,a3⟩:=h2 i j hi' hj;refine⟨g,o,a1,?_,a3⟩;rw[a2];by_cases hh:lo<=i/\i<hi;·rw[he i j hh];rfl
   ·rw[hne i j hh]
  ·obtain⟨a1,a2,a3,a4⟩:=h3 i j hi' hj;by_cases hh:lo<=i/\i<hi;·rw[he i j hh];exact⟨Inv.p9 a1,trivial,trivial,trivial⟩
   ·rw[hne i j hh];exact⟨a1,a2,a3,a4⟩
  ·by_cases hh:lo<=i/\i<hi;·rw[he i j hh] at hf;exact hf.elim
   ·rw[hne i j hh] at hf;obtain⟨a1,a2⟩:=h5 i j hi' hj b k hf;refine⟨a1,λi' j' hi2 hj2 ur hf'=>?_⟩;by_cases qp:lo<=i'/\i'<hi;·rw[he i' j' qp] at hf';exact hf'
    ·rw[hne i' j' qp] at hf';exact a2 i' j' hi2 hj2 ur hf'
 have h0:=h.eV r p;have hs0:((G r).ay (C.belows r p)).sub p=some (C.row .own sz A len cap e):=C.iY _ p _ _ (h.ok r) hs
 obtain⟨i1,i2,i3⟩:=h0.G4 r p (λt=>C.gx _ _) hs0 (C.gd.row .own .own sz A len cap e e') ⟨rfl,λh=>h,λh=>h,λh=>h,λm h=>h⟩ ⟨trivial,trivial⟩ (Ext.refl (λ_ _=>False) w) (λb k hs=>hs.elim) Iz (λb k hz=>hz)
  (λb k hz=>⟨λhf=>(h.fz r b k (hin b k (ug b k hf))).1 hz,h.cA b k (.inl hz),λt hf=>by rw[C.cM] at hf;exact((h.fz t b k hf).1 hz).elim⟩) (λb k hf=>.inl (ug b k hf))
 have kD:(C.row .own sz A len cap e').er=.row .own sz (Dj lo hi ((List.range len).map λi=>(List.range sz).map λj=>(e i j).er)):=by
  simp only[C.er,Dj];congr 1;apply gX;intro i;rw[L9,C.cX,C.cX];split
  ·simp only[cC,dr];by_cases hh:lo<=i/\i<hi;·rw[aq hh,cH];exact cu λj _=>by rw[he i j hh];rfl
   ·rw[az hh];exact cu λj _=>by rw[hne i j hh]
  ·rfl
 rw[kD] at i1;have hmem:∀x∈(cQ (hi - lo) sz λi j=>e (i+lo) j).flatten,∃i j,i<hi - lo/\j<sz/\x=e (i+lo) j:=λx hx=>by obtain⟨i,j,hi',hj,rfl⟩:=nT hx;exact⟨i,j,hi',hj,rfl⟩
 have hlt:hi - lo≠0->A'=A.map λq=>jo (lo*sz) q:=λhne=>iS (by omega)
 have hrow:(((List.range len).map λi=>(List.range sz).map λj=>(e i j).er).take hi).drop lo=dD sz (hi - lo) λi j=>e (i+lo) j:=by
  unfold dD;rw[<-pU,<-mh,vz,oh hhi];apply gX;intro i;rw[C.cX,cS,yK];by_cases hh:i<hi - lo;·rw[aq hh,pR (by omega),rj];rfl
  ·rw[az hh,iL (by simp;omega)];rfl
 have DK:∀i j,i<hi - lo->j<sz->(e (i+lo) j).plain:=λi j hi' hj=>KD (h3 (i+lo) j (by omega) hj).1 (h3 (i+lo) j (by omega) hj).2.1;refine⟨A',cap',λi j=>e (i+lo) j,_,hv,hrow,λi j hi' hj=>?_,DK,⟨i1,λx hx=>?_,?_,λt=>(i2 t).trans (C.iZ _ _),λt b k hf=>?_⟩⟩;·obtain⟨g,o,a1,a2,a3⟩:=h2 (i+lo) j (by omega) hj;refine⟨g,o+lo*sz,by rw[hlt (by omega),a1,cC,pY],?_⟩;rw[show o+lo*sz+i*sz+j=o+(i+lo)*sz+j by rw[fe];omega];exact a2
 ·obtain⟨i,j,hi',hj,rfl⟩:=hmem x hx;have hj2:i+lo<len:=by omega
  refine⟨(h3 (i+lo) j hj2 hj).2.2.2,λt b k hf hf'=>?_,λb k hf=>h.fz r b k (hin b k (kF _ _ hj2 hj b k hf)),λb k hf=>⟨r,hin b k (kF _ _ hj2 hj b k hf)⟩⟩;rcases i3 t b k hf' with hd|⟨_,hn⟩
  ·obtain⟨_,⟨o,hA⟩|⟨i',j',hi2,aaP,ig⟩⟩:=hd;·exact(h5 _ j hj2 hj b k hf).1 rfl o hA
   ·by_cases hh:lo<=i'/\i'<hi;·rw[he i' j' hh] at ig;exact ig
    ·rw[hne i' j' hh] at ig;refine(h5 _ j hj2 hj b k hf).2 i' j' hi2 aaP (λe=>hh ?_) ig;injection e with e1 e2
     omega
  ·exact hn (kF _ _ hj2 hj b k hf)
 ·have hsub:(C.row .own sz (A.map λq=>jo (lo*sz) q) (hi - lo) (cap - lo) λi j=>e (i+lo) j).ok w (Zf zl zb):=(NS ⟨h1,h2,h3,h4,h5⟩ hlo hhi (by omega) (by omega) (.inr rfl)).1;exact J5 hsub
 ·by_cases ht:t=r
  ·subst ht;rcases i3 t b k hf with hd|⟨hh,_⟩;·exact hin b k (ug b k hd)
   ·rwa [C.cM] at hh
  ·rw[dc _ _ ht,C.cM] at hf;exact hf
def adi(h:St c G zl s a w){d sz bytes:Nat}{tk:Tk}{ty ty' el Dm:TypeId}{i:TypeInfo}{v:Value}{x y:AV}{x' y':Operand}
  (ho:o.op=.call {callee:=.builtin .append,args:= #[x',y'],argTypes:= #[ty,ty']})(hu:P.underlying ty=some (.slice el))(wV:P.underlying ty'=some (.slice Dm))(hi:P.info? el=some i)(hz:i.zero=some v)(hsz:i.size=sz)(hb:i.bytes=bytes)(hb0:0<bytes)(h0:0<sz)(hvs:v.cells.size=sz)
  (hd:o.dst=some d)(hn:d<c.nt)(hx:aK x' x=true)(hy:aK y' y=true)(hK:aM P (.app d tk sz bytes x y) s K):Good P c o a w K:=by
 obtain⟨p,e1,e2,e3⟩:=cx h hx;obtain⟨y1,G1,f1,f2,f3,f4⟩:=qZ .mv h.inv e3;simp only[aM] at hK;rw[e1] at f1 f4;rw[<-f1] at hK;have h1:=h.yu f4;have I3:=(f2.trans e2).symm;cases hE:y1.er with
 |row m z xs=>
  rw[hE] at hK;cases m with
  |own=>
   obtain⟨A,len,cap,e,rfl,rfl⟩:=zm hE;obtain⟨rfl,hK⟩:=hK;obtain⟨q,q1,q2,q3⟩:=cx h1 hy;have hk1:∀i j,i<len->j<z->(e i j).plain:=λi j hi hj=>KD (f4.ok.2.2.1 i j hi hj).1 (f4.ok.2.2.1 i j hi hj).2.1;have hxl:(dD z len e).length=len:=by simp[dD]
   have other:(∃ys,rowAt (take .mv (ak s x) s).2 (ak (take .mv (ak s x) s).2 y)=some (z,ys)/\((dD z len e).length+ys.length)*bytes<=140737488355328/\scalars ys/\K (put d (.row .own z (dD z len e++ys)) (take .mv (ak s x) s).2))->Good P c o a w K:=by
    rintro ⟨ys,k1,k2,k3,k4⟩;rw[<-q1] at k1;obtain⟨A2,m,cap2,e2,rfl,hv⟩:=KP h1.inv q3 k1;have oJ:(dD z m e2).length=m:=by simp[dD]
    refine GX h (bN.one f4) ho hu wV hi hz hsz hb hb0 h0 hvs hd hn (fG.2 rfl) I3 (by rw[<-q2];exact hv.val) (λi j hi hj=>hv.cell i j hi hj) (λi j hi hj=>?_) (rK λx hx=>?_) (by rw[hxl,oJ] at k2;exact k2) hk1 k4;·obtain⟨s1,s2⟩:=RG (RF k3 hi hj);exact⟨s1,(hv.kid i j hi hj).2.2,λb k hf=>(s2 b k hf).elim⟩
    ·obtain⟨i,j,hi,hj,rfl⟩:=nT hx;exact(RG (RF k3 hi hj)).2
   cases tk with
   |al=>exact other hK
   |bP=>exact other hK
   |mv=>
    simp only at hK;by_cases hcut:∃v r p lo hi,q=.cut v r p lo hi
    ·obtain⟨vv,r,pp,lo,hi',rfl⟩:=hcut;rw[<-q1] at hK;simp only[C.er,cZ] at hK;split at hK
     ·rename_i hh;split at hh
      ·rename_i z2 xs hl;simp only[X.row.injEq,tn] at hh;obtain⟨rfl,rfl⟩:=hh;obtain⟨rfl,k2,k4⟩:=hK;obtain⟨A2,cap2,e3,G3,c1,c2,c3,c4,c5⟩:=afs h1.inv q3.rf hl;rw[c2] at k2 k4;have oJ:(dD z2 (hi' - lo) e3).length=hi' - lo:=by simp[dD]
       simp only[hl] at k4;refine GX h (bN.cons f4 c5) ho hu wV hi hz hsz hb hb0 h0 hvs hd hn (bz ..) I3 (A2:=A2) (m:=hi' - lo) (cap2:=cap2) (e2:=e3) (by rw[<-q2];exact c1) c3 (λi j hi hj=>?_) c5.apart (by rw[hxl,oJ] at k2;exact k2) hk1 k4;have hm:e3 i j∈(cQ (hi' - lo) z2 e3).flatten:=Gv.2 ⟨_,aT.2 ⟨i,by simpa using hi,rfl⟩,aT.2 ⟨j,by simpa using hj,rfl⟩⟩;refine⟨c4 i j hi hj,(c5.all _ hm).1,λb k hf=>⟨λhf'=>?_,_,cE _ hm,hf⟩⟩;obtain⟨t,ht⟩:=(c5.all _ hm).2.2.2 b k hf;exact f4.sep t b k hf' ht
      ·cases hh
     ·exact hK.elim
    have hte:cZ q.er (take .mv (ak s x) s).2=take .mv q.er (take .mv (ak s x) s).2:=by
     cases q with
     |cut v r p lo hi=>exact(hcut ⟨v,r,p,lo,hi,rfl⟩).elim
     |_=>rfl
    rw[<-q1,hte,q1] at hK;obtain⟨y2,G2,g1,g2,g3,g4⟩:=qZ .mv h1.inv q3;rw[q1] at g1 g4;rw[<-g1] at hK;cases qn:y2.er with
    |row m2 z2 xs2=>
     rw[qn] at hK;cases m2 with
     |own=>
      obtain⟨A2,m,cap2,e2,rfl,rfl⟩:=zm qn;obtain⟨rfl,k2,k4⟩:=hK;have oJ:(dD z2 m e2).length=m:=by simp[dD]
      obtain⟨r1,r2,r3,r4,r5⟩:=g4.ok;refine GX h (bN.cons f4 (bN.one g4)) ho hu wV hi hz hsz hb hb0 h0 hvs hd hn (bz ..) I3 (A2:=A2) (m:=m) (cap2:=cap2) (e2:=e2) (by rw[<-q2,<-g2];rfl) (λi j hi hj=>?_) (λi j hi hj=>?_) (J5 g4.ok) (by rw[hxl,oJ] at k2;exact k2) hk1 k4;·obtain⟨g,o2,a1,a2,_⟩:=r2 i j hi hj;exact⟨g,o2,a1,a2⟩
      ·obtain⟨a1,a2,a3,a4⟩:=r3 i j hi hj;refine⟨KD a1 a2,a4,λb k hf=>?_⟩;have hin:(C.row .own z2 A2 m cap2 e2).fp b k:=C.jX a1 a3 hi hj hf;refine⟨λhf'=>?_,_,cE _ (fG.2 rfl),hin⟩;obtain⟨t,ht⟩:=g4.dom b k hin;exact f4.sep t b k hf' ht
     |_=>exact hK.elim
    |_=>rw[qn] at hK;exact hK.elim
  |_=>exact hK.elim
 |_=>rw[hE] at hK;exact hK.elim
end
end M
namespace M
open Go Go.RowKit
variable [Bs]
namespace X
def nV(m:Md){α:Type}(f:α->X):∀l:List α,dQ m (l.map f)=l.map λa=>(f a).md m
 |[]=>rfl
 |a::l=>by simp only[bq,dQ,nV m f l]
def FA(m:Md){α β:Type}(g:α->List β)(f:α->β->X):∀l:List α,cl m (l.map λa=>(g a).map (f a))=l.map λa=>(g a).map λb=>(f a b).md m
 |[]=>rfl
 |a::l=>by simp only[bq,cl,nV,FA m g f l]
end X
namespace C
def dI:C->C
 |.row _ sz A len cap e=>.row .af sz A len cap λi j=>(e i j).dI
 |.ptr _ g o n c=>.ptr .af g o n λj=>(c j).dI
 |.agg n c=>.agg n λj=>(c j).dI
 |.aj n c=>.aj n λj=>(c j).dI
 |.fn f n c=>.fn f n λj=>(c j).dI
 |.ref v _ _=>.dead v
 |.ai v _ _ _ _=>.dead v
 |.cut v _ _ _ _=>.dead v
 |.dead v=>.dead v
 |.int k n=>.int k n
 |.bool b=>.bool b
 |.str s=>.str s
def sQ:∀c:C,c.dI.er=c.er.md .af
 |.row m sz A len cap e=>by simp only[dI,er,X.md];rw[X.FA .af (λ_=>List.range sz) (λi j=>(e i j).er)];congr 1;exact cu λi _=>cu λj _=>sQ (e i j)
 |.ptr m g o n c=>by simp only[dI,er,X.md,X.nV];congr 1;exact cu λj _=>sQ (c j)
 |.agg n c=>by simp only[dI,er,X.md,X.nV];congr 1;exact cu λj _=>sQ (c j)
 |.aj n c=>by simp only[dI,er,X.md,X.nV];congr 1;exact cu λj _=>sQ (c j)
 |.fn f n c=>by simp only[dI,er,X.md,X.nV];congr 1;exact cu λj _=>sQ (c j)
 |.ref _ _ _=>by simp only[dI,er,X.md]
 |.ai _ _ _ _ _=>by simp only[dI,er,X.md]
 |.cut _ _ _ _ _=>by simp only[dI,er,X.md]
 |.dead _=>by simp only[dI,er,X.md]
 |.int _ _=>by simp only[dI,er,X.md]
 |.bool _=>by simp only[dI,er,X.md]
 |.str _=>by simp only[dI,er,X.md]
def uP:∀c:C,c.dI.val=c.val
 |.row m sz A len cap e=>rfl
 |.ptr m g o n c=>rfl
 |.agg n c=>by simp only[dI,val];congr 2;exact cu λj _=>uP (c j)
 |.aj n c=>by simp only[dI,val];congr 2;exact cu λj _=>uP (c j)
 |.fn f n c=>by simp only[dI,val];congr 2;exact cu λj _=>uP (c j)
 |.ref _ _ _=>rfl
 |.ai _ _ _ _ _=>rfl
 |.cut _ _ _ _ _=>rfl
 |.dead _=>rfl
 |.int _ _=>rfl
 |.bool _=>rfl
 |.str _=>rfl
def BI:∀c:C,c.dI.bare
 |.row m sz A len cap e=>trivial
 |.ptr m g o n c=>λj _=>BI (c j)
 |.agg n c=>λj _=>BI (c j)
 |.aj n c=>λj _=>BI (c j)
 |.fn f n c=>λj _=>BI (c j)
 |.ref _ _ _=>trivial
 |.ai _ _ _ _ _=>trivial
 |.cut _ _ _ _ _=>trivial
 |.dead _=>trivial
 |.int _ _=>trivial
 |.bool _=>trivial
 |.str _=>trivial
def qM:∀(c:C) (b k:Nat),¬c.dI.fp b k
 |.row m sz A len cap e,b,k=>λh=>by cases h.1
 |.ptr m g o n c,b,k=>λh=>by cases h.1
 |.agg n c,b,k=>λ⟨j,_,hf⟩=>qM (c j) b k hf
 |.aj n c,b,k=>λ⟨j,_,hf⟩=>qM (c j) b k hf
 |.fn f n c,b,k=>λh=>h
 |.ref _ _ _,b,k=>λh=>h
 |.ai _ _ _ _ _,b,k=>λh=>h
 |.cut _ _ _ _ _,b,k=>λh=>h
 |.dead _,b,k=>λh=>h
 |.int _ _,b,k=>λh=>h
 |.bool _,b,k=>λh=>h
 |.str _,b,k=>λh=>h
def FB{c:C}(h:c.cell):c.dI.cell:=by cases c<;>first|exact h|exact h.elim|trivial
def Qy{c:C}(h:c.fJ):c.dI.fJ:=by cases c<;>first|exact h|exact h.elim|trivial
def aci{c:C}(h:c.cK):c.dI.cK:=by cases c<;>first|exact h|exact h.elim|trivial
def Kn(c:C):c.dI.fits .af:=by cases c<;>first|trivial|exact .inr (.inl rfl)
variable {w:World}{zl zb bD:Nat->Nat->Prop}
def xM(hb:∀b k,zb b k->bD b k):∀c:C,(∀b k,c.fp b k->bD b k)->c.ok w (Zf zl zb)->c.dI.ok w (Zf zl bD)
 |.row m sz A len cap e,hf,h=>by
  obtain⟨h1,h2,h3,h4,h5⟩:=h;refine⟨h1,λi j hi hj=>?_,λi j hi hj=>?_,λhm=>by (cases hm),λi j hi hj b k hh=>(qM _ b k hh).elim⟩
  ·obtain⟨g,o,hA,hc,hz⟩:=h2 i j hi hj;refine⟨g,o,hA,by rw[uP];exact hc,λ_=>?_⟩;cases m with
   |own=>exact .inr (hf _ _ ⟨rfl,.inl ⟨o,hA⟩⟩)
   |sl=>exact .inl (hz (by simp))
   |af=>exact(hz (by simp)).imp id (hb _ _)
  ·obtain⟨a1,a2,a3,a4⟩:=h3 i j hi hj;exact⟨FB a1,aci a2,Kn _,xM hb (e i j) (λb k hk=>hf b k (jX a1 a3 hi hj hk)) a4⟩
 |.ptr m g o n c,hf,h=>by
  obtain⟨h1,h2,h3,h4⟩:=h;refine⟨λj hj=>?_,h2,λj hj=>?_,λj hj b k hh=>(qM _ b k hh).elim⟩
  ·obtain⟨a1,a2,a3⟩:=h1 j hj;refine⟨by rw[uP];exact a1,λ_=>?_,λhm=>by (cases hm)⟩;cases m with
   |own=>exact .inr (hf _ _ ⟨rfl,.inl ⟨rfl,by omega,by omega⟩⟩)
   |sl=>exact .inl (a2 (by simp))
   |af=>exact(a2 (by simp)).imp id (hb _ _)
  ·obtain⟨a1,a2,a3⟩:=h3 j hj;exact⟨FB a1,Kn _,xM hb (c j) (λb k hk=>hf b k (kJ a1 a2 hj hk)) a3⟩
 |.agg n c,hf,h=>⟨λj hj=>⟨FB (h.1 j hj).1,xM hb (c j) (λb k hk=>hf b k ⟨j,hj,hk⟩) (h.1 j hj).2⟩,λj hj b k hh=>(qM _ b k hh).elim⟩
 |.aj n c,hf,h=>⟨λj hj=>⟨Qy (h.1 j hj).1,xM hb (c j) (λb k hk=>hf b k ⟨j,hj,hk⟩) (h.1 j hj).2⟩,λj hj b k hh=>(qM _ b k hh).elim⟩
 |.fn f n c,hf,h=>λj hj=>⟨xM hb (c j) (λb k hk=>((h j hj).2 b k hk).elim) (h j hj).1,λb k hh=>qM _ b k hh⟩
 |.ref _ _ _,_,_=>trivial
 |.ai _ _ _ _ _,_,_=>trivial
 |.cut _ _ _ _ _,_,_=>trivial
 |.dead _,_,_=>trivial
 |.int _ _,_,_=>trivial
 |.bool _,_,_=>trivial
 |.str _,_,h=>h
end C
structure fR (w:World) (zl zb:Nat->Nat->Prop) (x:C):Prop where
 ok:x.ok w (Zf zl zb)
 bare:x.bare
 cT:∀b k,¬x.fp b k
section
variable {w:World}{zl zb bD:Nat->Nat->Prop}{G:Nat->C}{s:ag}
def Kc(hb:∀b k,zb b k->bD b k){y:C}(hy:y.ok w (Zf zl zb))(hf:∀b k,y.fp b k->bD b k):fR w zl bD y.dI:=⟨C.xM hb y hf hy,C.BI y,C.qM y⟩
def BC(v:Value):fR w zl bD (.dead v):=⟨trivial,trivial,λ_ _ h=>h⟩
def FV(h:Inv w zl zb G s)(hb:∀b k,zb b k->bD b k)(hG:∀t b k,(G t).fp b k->bD b k){y:C}(hy:ek w zl zb G y):∃x:C,x.er=lP s y.er/\x.val=y.val/\fR w zl bD x/\(y.cell->x.cell)/\(y.fJ->x.fJ)/\x.fits .af:=by
 have ja:lP s y.er=y.er.md .af->∃x:C,x.er=lP s y.er/\x.val=y.val/\fR w zl bD x/\(y.cell->x.cell)/\(y.fJ->x.fJ)/\x.fits .af:=λe=>
  ⟨y.dI,by rw[C.sQ,e],C.uP y,Kc hb hy.ok λb k hf=>(hy.cT b k hf).elim,C.FB,C.Qy,C.Kn _⟩
 cases y with
 |ref v r p=>
  obtain⟨y',z',hs,hF,hv,m,z1,A,len,cap,e,rfl⟩:=hy.rf;cases hF with
  |row m m' sz' A len cap e e'=>refine⟨(C.row m' z1 A len cap e').dI,?_,by rw[C.uP];exact hv,Kc hb (C.gT p hs (h.ok r)) λb k hf=>hG r b k (C.gC p hs (h.ok r) hf),λ_=>trivial,λ_=>trivial,.inr (.inl rfl)⟩;rw[C.sQ];simp only[C.er,lP,look];rw[<-h.er,C.gB,hs];rfl
 |cut v r p lo hi=>
  obtain⟨m,sz,A,len,cap,e,A',cap',hs,hv,hlo,hhi,hcap,iS,-,-⟩:=hy.rf;have hok:=C.gT p hs (h.ok r);obtain⟨h1,h2,h3,h4,h5⟩:=(Kc hb hok λb k hf=>hG r b k (C.gC p hs (h.ok r) hf)).ok;refine⟨.row .af sz A' (hi - lo) cap' λi j=>(e (i+lo) j).dI,?_,hv.symm,⟨⟨hcap,λi j hi' hj=>?_,λi j hi' hj=>h3 (i+lo) j (by omega) hj,λhm=>by (cases hm),λi j hi' hj b k hh=>(C.qM _ b k hh).elim⟩,trivial,λb k hh=>by cases hh.1⟩,λ_=>trivial,λ_=>trivial,.inr (.inl rfl)⟩;·simp only[C.er,lP,look];rw[<-h.er,C.gB,hs];simp only[cC,C.er,X.md];rw[<-pU,<-mh,vz,oh hhi,pI,cH];show _=X.row .af sz (X.cl .af ((List.range (hi - lo)).map λi=>(List.range sz).map λj=>(e (i+lo) j).er));rw[X.FA .af (λ_=>List.range sz) (λi j=>(e (i+lo) j).er) (List.range (hi - lo))];congr 1;exact cu λi _=>cu λj _=>C.sQ _
  ·obtain⟨g,o,q1,q2,q3⟩:=h2 (i+lo) j (by omega) hj;refine⟨g,o+lo*sz,by rw[iS (by omega),q1,cC,pY],?_,λhm=>?_⟩;·rw[show o+lo*sz+i*sz+j=o+(i+lo)*sz+j by rw[fe];omega];exact q2
   ·rw[show o+lo*sz+i*sz+j=o+(i+lo)*sz+j by rw[fe];omega];exact q3 hm
 |_=>exact ja rfl
def abZ(h:Inv w zl zb G s){y:C}(hy:ek w zl zb G y){cs:List X}(hc:gj s y.er=some cs):∃g k,y.val=.pointer (some ⟨g,k,none⟩)/\∀j,j<cs.length->zl g (k+j)\/zb g (k+j)\/∃t,(G t).fp g (k+j):=by
 have zs:∀{m:Md} {b k:Nat},m≠.own->Zf zl zb m b k->zl b k\/zb b k\/∃t,(G t).fp b k:=λ{m b k} hm hz=>by
  cases m with
  |own=>exact(hm rfl).elim
  |sl=>exact .inl hz
  |af=>exact hz.imp id .inl
 cases y with
 |ptr m g o n f=>
  simp only[C.er,gj] at hc;injection hc with hc
  refine⟨g,o,rfl,λj hj=>?_⟩;have hj:j<n:=by rw[<-hc] at hj;simpa using hj
  obtain⟨h1,h2,h3,h4⟩:=hy.ok;by_cases hm:m=.own;·exact(hy.cT g (o+j) ⟨hm,.inl ⟨rfl,by omega,by omega⟩⟩).elim
  ·exact zs hm ((h1 j hj).2.1 hm)
 |ai v r p i k0=>
  obtain⟨z,hz,hp⟩:=hy.rf;have sA:=C.gT p hz (h.ok r);simp only[C.er,gj,look] at hc;rw[<-h.er,C.gB,hz] at hc;simp only[cC] at hc;rcases hp with ⟨m,sz,g,o,len,cap,e,rfl,rfl⟩|⟨m,g,o,n,f,rfl,rfl,rfl⟩
  ·simp only[C.er,C.cX] at hc;by_cases hi:i<len
   ·rw[aq hi] at hc;simp only[cC,dr] at hc;refine⟨g,o+i*sz+k0,rfl,λj hj=>?_⟩;have hj:k0+j<sz:=by rw[<-hc] at hj;rw[<-mh,pI,C.vP r p i ((List.range (sz - k0)).map (· +k0)) k0 (λj=>e i j) (by simp)] at hj;simp at hj;omega
    by_cases hm:m=.own;·subst hm;exact .inr (.inr ⟨r,C.gC p hz (h.ok r) ⟨rfl,.inl ⟨o,rfl⟩⟩⟩)
    ·obtain⟨g',o',hA,hcell,oL⟩:=sA.2.1 i (k0+j) hi hj;injection hA with hA
     injection hA with e1 e2
     injection e2 with e2
     subst e1;subst e2;rw[ng];exact zs hm (oL hm)
   ·rw[az hi] at hc;cases hc
  ·simp only[C.er,dr] at hc;refine⟨g,o+k0,rfl,λj hj=>?_⟩;have hj:k0+j<n:=by rw[<-hc] at hj;rw[<-mh,pI,C.vP r p 0 ((List.range (n - k0)).map (· +k0)) k0 f (by simp)] at hj;simp at hj;omega
   by_cases hm:m=.own;·subst hm;exact .inr (.inr ⟨r,C.gC p hz (h.ok r) ⟨rfl,.inl ⟨rfl,by omega,by omega⟩⟩⟩)
   ·have:=(sA.1 (k0+j) hj).2.1 hm;rw[ng];exact zs hm this
 |_=>simp[C.er,gj] at hc
def KM(h:Inv w zl zb G s)(hb:∀b k,zb b k->bD b k)(hG:∀t b k,(G t).fp b k->bD b k):∀l:List C,(∀x∈l,ek w zl zb G x/\x.cell)->∃l':List C,l'.map C.er=pJ s (l.map C.er)/\l'.map C.val=l.map C.val/\∀x∈l',fR w zl bD x/\x.cell/\x.fits .af
 |[],hl=>⟨[],rfl,rfl,λ_ hx=>(by cases hx)⟩
 |y::l,hl=>by
  obtain⟨x,x1,x2,x3,x4,_,x6⟩:=FV h hb hG (hl y (bz ..)).1;obtain⟨l',l1,l2,l3⟩:=KM h hb hG l λx hx=>hl x (cE _ hx);refine⟨x::l',by simp[pJ,x1,l1],by simp[x2,l2],λz hz=>?_⟩;rcases bO.1 hz with rfl|hz;·exact⟨x3,x4 (hl y (bz ..)).2,x6⟩
  ·exact l3 z hz
def Rk(F:List X->List X)(hF:∀l:List C,(∀x∈l,ek w zl zb G x/\x.cell)->∃l':List C,l'.map C.er=F (l.map C.er)/\l'.map C.val=l.map C.val/\∀x∈l',fR w zl bD x/\x.cell/\x.fits .af)(h:Inv w zl zb G s)(hb:∀b k,zb b k->bD b k)(hG:∀t b k,(G t).fp b k->bD b k){y:C}(hy:ek w zl zb G y){cs:List X}(hc:gj s y.er=some cs)(hne:cs≠[])(n:Nat)(hn:0<n):
  ∃x:C,x.er=.ptr .af (F (cs.take n))/\x.val=y.val/\fR w zl bD x:=by
 obtain⟨l,l1,⟨g,k,hv,hcell⟩,l3⟩:=Qi h hy hc;obtain⟨g',k',eO,hmem⟩:=abZ h hy hc;rw[hv] at eO;injection eO with eO;injection eO with eO;injection eO with e1 e2 e3
 subst e1;subst e2;have uk:l.length=cs.length:=by rw[<-l1];simp
 obtain⟨l',m1,m2,m3⟩:=hF (l.take n) λx hx=>l3 x (LH hx);have hl':l'.length=min n l.length:=by have:=dw List.length m2;simpa using this
 have hpos:0<l.length:=by rw[uk];exact List.length_pos_iff.2 hne
 refine⟨.ptr .af g k l'.length λj=>l'.getD j (.dead undef),?_,hv.symm,⟨⟨λj hj=>⟨?_,λ_=>?_,λhm=>by (cases hm)⟩,?_,λj hj=>⟨(m3 _ (cP hj _)).2.1,(m3 _ (cP hj _)).2.2,(m3 _ (cP hj _)).1.ok⟩,λj hj b k hh=>((m3 _ (cP hj _)).1.cT b k hh).elim⟩,λj hj=>(m3 _ (cP hj _)).1.bare,λb k hh=>by cases hh.1⟩⟩;·simp only[C.er,mV];rw[m1,pU,l1]
 ·have hj':j<l.length:=by omega
  have uq:(l'.getD j (.dead undef)).val=(l[j]).val:=by have:=dw (λt:List Value=>t[j]?) m2;simp only[cS,cm hj,cC] at this;rw[Mc (by omega),cm hj'] at this;rw[qj (cm hj)];simpa using this
  rw[uq];exact hcell j hj'
 ·rcases hmem j (by omega) with hz|hz|⟨t,ht⟩;·exact .inl hz
  ·exact .inr (hb _ _ hz)
  ·exact .inr (hG t _ _ ht)
 ·have:=hcell 0 hpos;rcases fN g w.heap.size with hg|hg;·exact hg
  ·simp[World.cell?,jH hg] at this
def Rl(h:Inv w zl zb G s)(hb:∀b k,zb b k->bD b k)(hG:∀t b k,(G t).fp b k->bD b k){y:C}(hy:ek w zl zb G y){cs:List X}(hc:gj s y.er=some cs)(hne:cs≠[])(n:Nat)(hn:0<n):
  ∃x:C,x.er=.ptr .af (pJ s (cs.take n))/\x.val=y.val/\fR w zl bD x:=Rk (pJ s) (KM h hb hG) h hb hG hy hc hne n hn
def aei(h:Inv w zl zb G s)(hb:∀b k,zb b k->bD b k)(hG:∀t b k,(G t).fp b k->bD b k){y:C}(hy:ek w zl zb G y)(mM:y.cell):∃x:C,x.er=fB s y.er/\x.val=y.val/\fR w zl bD x/\x.cell/\x.fits .af:=by
 have ja:fB s y.er=lP s y.er->∃x:C,x.er=fB s y.er/\x.val=y.val/\fR w zl bD x/\x.cell/\x.fits .af:=λe=>by obtain⟨x,x1,x2,x3,x4,_,x6⟩:=FV h hb hG hy;exact⟨x,by rw[e,x1],x2,x3,x4 mM,x6⟩
 cases y with
 |ai v r p i k=>
  have dead:fB s (C.ai v r p i k).er=.dead->∃x:C,x.er=fB s (C.ai v r p i k).er/\x.val=(C.ai v r p i k).val/\fR w zl bD x/\x.cell/\x.fits .af:=λe=>⟨.dead v,e.symm,rfl,BC v,mM,trivial⟩;cases hc:gj s (.ai r p i k) with
  |none=>exact dead (by simp only[C.er,fB,hc])
  |some cs=>
   cases cs with
   |nil=>exact dead (by simp only[C.er,fB,hc])
   |cons a cs=>
    obtain⟨x,x1,x2,x3⟩:=Rl h hb hG hy hc (by simp) (a::cs).length (by simp);rw[vw] at x1;have he:fB s (C.ai v r p i k).er=.ptr .af (pJ s (a::cs)):=by simp only[C.er,fB,hc]
    rw[he];refine⟨x,x1,x2,x3,?_,?_⟩;·cases x<;>first|trivial|(simp[C.er] at x1)
    ·cases x with
     |ptr m g o n f=>simp only[C.er,X.ptr.injEq] at x1;exact .inr (.inl x1.1)
     |_=>simp[C.er] at x1
 |_=>exact ja rfl
def Rj(h:Inv w zl zb G s)(hb:∀b k,zb b k->bD b k)(hG:∀t b k,(G t).fp b k->bD b k):∀l:List C,(∀x∈l,ek w zl zb G x/\x.cell)->∃l':List C,l'.map C.er=gP s (l.map C.er)/\l'.map C.val=l.map C.val/\∀x∈l',fR w zl bD x/\x.cell/\x.fits .af
 |[],hl=>⟨[],rfl,rfl,λ_ hx=>(by cases hx)⟩
 |y::l,hl=>by
  obtain⟨x,x1,x2,x3⟩:=aei h hb hG (hl y (bz ..)).1 (hl y (bz ..)).2;obtain⟨l',l1,l2,l3⟩:=Rj h hb hG l λx hx=>hl x (cE _ hx);refine⟨x::l',by simp[gP,x1,l1],by simp[x2,l2],λz hz=>?_⟩;rcases bO.1 hz with rfl|hz;·exact x3
  ·exact l3 z hz
end
end M
namespace M
open Go Go.RowKit
variable [Bs]
section
variable {w:World}{zl zb bD:Nat->Nat->Prop}{G:Nat->C}{s:ag}
def KL(h:Inv w zl zb G s)(hb:∀b k,zb b k->bD b k)(hG:∀t b k,(G t).fp b k->bD b k):∀l:List C,(∀x∈l,ek w zl zb G x)->∃l':List C,l'.map C.er=eY s (l.map C.er)/\l'.map C.val=l.map C.val/\∀x∈l',fR w zl bD x
 |[],hl=>⟨[],rfl,rfl,λ_ hx=>(by cases hx)⟩
 |y::l,hl=>by
  obtain⟨l',l1,l2,l3⟩:=KL h hb hG l λx hx=>hl x (cE _ hx);have hy:=hl y (bz ..)
  have done:∀x:C,x.val=y.val->fR w zl bD x->(eY s ((y::l).map C.er))=x.er::eY s (l.map C.er)->∃l':List C,l'.map C.er=eY s ((y::l).map C.er)/\l'.map C.val=(y::l).map C.val/\∀x∈l',fR w zl bD x:=λx x1 x2 x3=>
   ⟨x::l',by rw[x3,bq,l1],by simp[x1,l2],λz hz=>(bO.1 hz).elim (λe=>e▸x2) (l3 z)⟩
  have ja:(eY s ((y::l).map C.er))=lP s y.er::eY s (l.map C.er)->∃l':List C,l'.map C.er=eY s ((y::l).map C.er)/\l'.map C.val=(y::l).map C.val/\∀x∈l',fR w zl bD x:=λe=>by obtain⟨x,x1,x2,x3,_⟩:=FV h hb hG hy;exact done x x2 x3 (by rw[e,x1])
  cases y with
  |ai v r p i k=>
   cases hc:gj s (.ai r p i k) with
   |none=>exact done (.dead v) rfl (BC v) (by simp only[bq,C.er,eY,hc])
   |some cs=>
    cases cs with
    |nil=>exact done (.dead v) rfl (BC v) (by simp only[bq,C.er,eY,hc])
    |cons a cs=>obtain⟨x,x1,x2,x3⟩:=Rk (gP s) (Rj h hb hG) h hb hG hy hc (by simp) (a::cs).length (by simp);refine done x x2 x3 ?_;rw[x1,vw];simp only[bq,C.er,eY,hc]
  |_=>exact ja rfl
def aek(h:Inv w zl zb G s)(hb:∀b k,zb b k->bD b k)(hG:∀t b k,(G t).fp b k->bD b k){y:C}(hy:ek w zl zb G y):∃x:C,x.er=res s y.er/\x.val=y.val/\fR w zl bD x:=by
 have ja:res s y.er=lP s y.er->∃x:C,x.er=res s y.er/\x.val=y.val/\fR w zl bD x:=λe=>by obtain⟨x,x1,x2,x3,_⟩:=FV h hb hG hy;exact⟨x,by rw[x1,e],x2,x3⟩
 cases y with
 |agg n f=>
  obtain⟨l',l1,l2,l3⟩:=KM h hb hG ((List.range n).map f) λx hx=>by
   obtain⟨j,hj,rfl⟩:=aT.1 hx;have hj':j<n:=by simpa using hj
   exact⟨MA hy hj',(hy.ok.1 j hj').1⟩
  refine⟨gF l',?_,?_,⟨⟨λj hj=>⟨(l3 _ (cP hj _)).2.1,(l3 _ (cP hj _)).1.ok⟩,λj hj b k hf=>((l3 _ (cP hj _)).1.cT b k hf).elim⟩,λj hj=>(l3 _ (cP hj _)).1.bare,λb k hf=>?_⟩⟩;·rw[vO,l1,cH];rfl
  ·rw[yR,l2,cH];rfl
  ·obtain⟨x,hx,hf⟩:=(rI _ _ _).1 hf;exact(l3 x hx).1.cT b k hf
 |fn g n f=>
  obtain⟨l',l1,l2,l3⟩:=KL h hb hG ((List.range n).map f) λx hx=>by
   obtain⟨j,hj,rfl⟩:=aT.1 hx;have hj':j<n:=by simpa using hj
   exact⟨(hy.ok j hj').1,hy.rf j hj',(hy.ok j hj').2⟩
  refine⟨.fn g l'.length λj=>l'.getD j (.dead undef),?_,?_,⟨λj hj=>⟨(l3 _ (cP hj _)).ok,(l3 _ (cP hj _)).cT⟩,λj hj=>(l3 _ (cP hj _)).bare,λb k hf=>hf⟩⟩;·show X.fn _ _=_;rw[mV l' _ C.er,l1,cH];rfl
  ·show Value.func _ _ _=_;rw[mV l' _ C.val,l2,cH];rfl
 |_=>exact ja rfl
def aej(h:Inv w zl zb G s)(hb:∀b k,zb b k->bD b k)(hG:∀t b k,(G t).fp b k->bD b k){y:C}(hy:ek w zl zb G y)(n:Nat)(hn:0<n):∃x:C,x.er=yb n s y.er/\x.val=y.val/\fR w zl bD x:=by
 cases hc:gj s y.er with
 |none=>exact⟨.dead y.val,by simp only[yb,hc,C.er],rfl,BC _⟩
 |some cs=>
  cases cs with
  |nil=>exact⟨.dead y.val,by simp only[yb,hc,C.er],rfl,BC _⟩
  |cons a cs=>obtain⟨x,x1,x2,x3⟩:=Rl h hb hG hy hc (by simp) n hn;exact⟨x,by rw[x1];simp only[yb,hc],x2,x3⟩
end
section
variable {P:Program}{c:Ctx}{G:Nat->C}{zl:Nat->Nat->Prop}{s:ag}{a:Act}{w:World}{o:Oper}{K:ag->Prop}
def gJ:List Operand->List (AV×PM)->Bool
 |[],[]=>true
 |x'::l',(x,m)::l=>aK x' x && (match m with|.gI n=>decide (0<n)|.mut _=>(dR l).isNone|_=>true) && gJ l' l
 |_,_=>false
def MV(a:Act):List Operand->List (AV×PM)->List C->Prop
 |[],[],[]=>True
 |x'::l',(_,.mv)::l,m::ms=>m.val=a.eval x'/\MV a l' l ms
 |_::l',(_,.af)::l,_::ms=>MV a l' l ms
 |_::l',(_,.gI _)::l,_::ms=>MV a l' l ms
 |_::l',(_,.mut _)::l,_::ms=>MV a l' l ms
 |_,_,_=>False
def FD:∀{l':List Operand} {l:List (AV×PM)},gJ l' l=true->∀{G:Nat->C} {s:ag},St c G zl s a w->
  ∃ms G',ms.map C.er=(bW l s).1/\MV a l' l ms/\bN w zl c.zb G ms G' (bW l s).2
 |[],[],_,G,s,h=>⟨[],G,rfl,trivial,bN.nil h.inv⟩
 |x'::l',(x,pm)::l,hc,G,s,h=>by
  simp only[gJ,ax] at hc;have other:(bW ((x,pm)::l) s=(.dead::(bW l s).1,(bW l s).2))->(∀m ms,MV a l' l ms->MV a (x'::l') ((x,pm)::l) (m::ms))->∃ms G',ms.map C.er=(bW ((x,pm)::l) s).1/\MV a (x'::l') ((x,pm)::l) ms/\bN w zl c.zb G ms G' (bW ((x,pm)::l) s).2:=λe hm=>by obtain⟨ms,G',g1,g2,g3⟩:=FD hc.2 h;rw[e];exact⟨.dead undef::ms,G',by simp[C.er,g1],hm _ _ g2,bN.cons (fD.self h.inv trivial trivial λ_ _ h=>h) g3⟩
  cases pm with
  |mv=>obtain⟨p,p1,p2,p3⟩:=cx h hc.1.1;obtain⟨y,G1,f1,f2,f3,f4⟩:=qZ .mv h.inv p3;obtain⟨ms,G',g1,g2,g3⟩:=FD hc.2 (h.yu f4);rw[p1] at f1 g1 g3 f4;exact⟨y::ms,G',by simp[bW,f1,g1],⟨by rw[f2,p2],g2⟩,bN.cons f4 g3⟩
  |af=>exact other rfl λ_ _ h=>h
  |gI n=>exact other rfl λ_ _ h=>h
  | «mut» n=>exact other rfl λ_ _ h=>h
 |[],_::_,hc,_,_,_=>by cases hc
 |_::_,[],hc,_,_,_=>by cases hc
def CT{G2:Nat->C}{s2:ag}{bD:Nat->Nat->Prop}(h:St c G2 zl s2 a w)(hb:∀b k,c.zb b k->bD b k)(hG:∀t b k,(G2 t).fp b k->bD b k){y:C}(hy:y.ok w (Zf zl bD))(Eb:y.bare):∀{l':List Operand} {l:List (AV×PM)},gJ l' l=true->∀{ms:List C},MV a l' l ms->
  (∀x∈ms,x.ok w (Zf zl bD)/\x.bare/\∀b k,x.fp b k->¬y.fp b k)->(ms.Pairwise λa b=>∀x k,a.fp x k->¬b.fp x k)->(∀(i:Nat) (x:AV) (n:Nat) (x':Operand),l[i]?=some (x,PM.mut n)->l'[i]?=some x'->y.val=a.eval x')->
  ∃cs:List C,cs.map C.er=gi s2 y.er l (ms.map C.er)/\cs.map C.val=l'.map a.eval/\(∀x∈cs,x.ok w (Zf zl bD)/\x.bare/\∀b k,x.fp b k->(∃m∈ms,m.fp b k)\/((dR l).isSome=true/\y.fp b k))/\cs.Pairwise λa b=>∀x k,a.fp x k->¬b.fp x k
 |[],[],_,[],_,_,_,_=>⟨[],rfl,rfl,λ_ hx=>(by cases hx),List.Pairwise.nil⟩
 |x'::l',(x,pm)::l,hc,[],hm,_,_,_=>by cases pm<;>exact hm.elim
 |x'::l',(x,pm)::l,hc,m::ms,hm,uo,gN,oH=>by
  simp only[gJ,ax] at hc;have wT:=eC.1 gN;have ih:=λ(hm:MV a l' l ms)=>CT h hb hG hy Eb hc.2 hm (λx hx=>uo x (cE _ hx)) wT.2 (λi x n x' h1 h2=>oH (i+1) x n x' (by simpa using h1) (by simpa using h2))
  have Qh:∀z:C,z.val=a.eval x'->fR w zl bD z->MV a l' l ms->gi s2 y.er ((x,pm)::l) ((m::ms).map C.er)=z.er::gi s2 y.er l (ms.map C.er)->((dR l).isSome=true->(dR ((x,pm)::l)).isSome=true)->∃cs:List C,cs.map C.er=gi s2 y.er ((x,pm)::l) ((m::ms).map C.er)/\cs.map C.val=(x'::l').map a.eval/\
    (∀z∈cs,z.ok w (Zf zl bD)/\z.bare/\∀b k,z.fp b k->(∃m'∈m::ms,m'.fp b k)\/((dR ((x,pm)::l)).isSome=true/\y.fp b k))/\cs.Pairwise λa b=>∀x k,a.fp x k->¬b.fp x k:=λz z1 z2 hm' he hmo=>by
   obtain⟨cs,c1,c2,c3,c4⟩:=ih hm';refine⟨z::cs,by rw[he,bq,c1],by simp[z1,c2],λu hu=>?_,eC.2 ⟨λu _ b k hf=>(z2.cT b k hf).elim,c4⟩⟩;rcases bO.1 hu with rfl|hu;·exact⟨z2.ok,z2.bare,λb k hf=>(z2.cT b k hf).elim⟩
   ·obtain⟨u1,u2,u3⟩:=c3 u hu;exact⟨u1,u2,λb k hf=>(u3 b k hf).imp (λ⟨m',hm',hf⟩=>⟨m',cE _ hm',hf⟩) λhh=>⟨hmo hh.1,hh.2⟩⟩
  obtain⟨p,p1,p2,p3⟩:=cx h hc.1.1;cases pm with
  |af=>obtain⟨z,z1,z2,z3⟩:=aek h.inv hb hG p3;rw[p1] at z1;exact Qh z (by rw[z2,p2]) z3 hm (by simp only[bq,gi,z1]) λhh=>hh
  |gI n=>obtain⟨z,z1,z2,z3⟩:=aej h.inv hb hG p3 n (by simpa using hc.1.2);rw[p1] at z1;exact Qh z (by rw[z2,p2]) z3 hm (by simp only[bq,gi,z1]) λhh=>hh
  |mv=>
   obtain⟨hv,hm⟩:=hm;obtain⟨cs,c1,c2,c3,c4⟩:=ih hm;obtain⟨m1,m2,m3⟩:=uo m (bz ..);refine⟨m::cs,by simp only[bq,gi,c1],by simp[hv,c2],λu hu=>?_,eC.2 ⟨λu hu b k hf hf'=>?_,c4⟩⟩
   ·rcases bO.1 hu with rfl|hu;·exact⟨m1,m2,λb k hf=>.inl ⟨u,bz ..,hf⟩⟩
    ·obtain⟨u1,u2,u3⟩:=c3 u hu;exact⟨u1,u2,λb k hf=>(u3 b k hf).imp (λ⟨m',hm',hf⟩=>⟨m',cE _ hm',hf⟩) id⟩
   ·rcases(c3 u hu).2.2 b k hf' with ⟨m',hm',ig⟩|⟨_,ig⟩;·exact wT.1 m' hm' b k hf ig
    ·exact m3 b k hf ig
  | «mut» n=>
   obtain⟨cs,c1,c2,c3,c4⟩:=ih hm;have hno:dR l=none:=by simpa using hc.1.2
   have hv:=oH 0 x n x' rfl rfl;refine⟨y::cs,by simp only[bq,gi,c1],by simp[hv,c2],λu hu=>?_,eC.2 ⟨λu hu b k hf hf'=>?_,c4⟩⟩
   ·rcases bO.1 hu with rfl|hu;·exact⟨hy,Eb,λb k hf=>.inr ⟨rfl,hf⟩⟩
    ·obtain⟨u1,u2,u3⟩:=c3 u hu;refine⟨u1,u2,λb k hf=>(u3 b k hf).imp (λ⟨m',hm',hf⟩=>⟨m',cE _ hm',hf⟩) λhh=>⟨rfl,hh.2⟩⟩
   ·rcases(c3 u hu).2.2 b k hf' with ⟨m',hm',ig⟩|⟨hh,_⟩;·exact(uo m' (cE _ hm')).2.2 b k ig hf
    ·rw[hno] at hh;cases hh
 |[],_::_,hc,_,_,_,_,_=>by cases hc
 |_::_,[],hc,_,_,_,_,_=>by cases hc
 |[],[],_,_::_,hm,_,_,_=>hm.elim
def WE{G2:Nat->C}{s2:ag}{bD:Nat->Nat->Prop}(h:St c G2 zl s2 a w)(hb:∀b k,c.zb b k->bD b k)(hG:∀t b k,(G2 t).fp b k->bD b k){x:AV}{x':Operand}(hx:aK x' x=true){f:FuncId}{cs:List X}(he:ak s2 x=.fn f cs):
  ∃l:List C,l.map C.er=oA s2 (some x)/\a.eval x'=.func (.func f) #[] (l.map C.val).toArray/\∀x∈l,fR w zl bD x:=by
 obtain⟨p,p1,p2,p3⟩:=cx h hx;rw[he] at p1;cases p with
 |fn g n fc=>
  simp only[C.er,X.fn.injEq] at p1;obtain⟨rfl,p1⟩:=p1
  obtain⟨l',l1,l2,l3⟩:=KL h.inv hb hG ((List.range n).map fc) λx hx=>by
   obtain⟨j,hj,rfl⟩:=aT.1 hx;have hj':j<n:=by simpa using hj
   exact⟨(p3.ok j hj').1,p3.rf j hj',(p3.ok j hj').2⟩
  refine⟨l',?_,?_,l3⟩;·rw[l1,oA,he,<-p1,cH];rfl
  ·rw[<-p2,l2,cH];rfl
 |_=>simp[C.er] at p1
end
end M
namespace M
open Go Go.RowKit
variable [Bs]
def jO{l:List X}:X.clean.cB l=true↔∀x∈l,x.clean=true:=by
 induction l with
 |nil=>simp[X.clean.cB]
 |cons a l ih=>simp[X.clean.cB,ih]
def NC{l:List (List X)}:X.clean.bn l=true↔∀x∈l,∀y∈x,y.clean=true:=by
 induction l with
 |nil=>simp[X.clean.bn]
 |cons a l ih=>simp[X.clean.bn,ih,jO]
namespace C
def dX:C->C
 |.row _ sz A len cap e=>.row .sl sz A len cap λi j=>(e i j).dX
 |.ptr _ g o n c=>.ptr .sl g o n λj=>(c j).dX
 |.agg n c=>.agg n λj=>(c j).dX
 |.aj n c=>.aj n λj=>(c j).dX
 |.fn f n c=>.fn f n λj=>(c j).dX
 |.ref v _ _=>.dead v
 |.ai v _ _ _ _=>.dead v
 |.cut v _ _ _ _=>.dead v
 |.dead v=>.dead v
 |.int k n=>.int k n
 |.bool b=>.bool b
 |.str s=>.str s
def xN:∀c:C,c.dX.er=c.er.md .sl
 |.row m sz A len cap e=>by simp only[dX,er,X.md];rw[X.FA .sl (λ_=>List.range sz) (λi j=>(e i j).er)];congr 1;exact cu λi _=>cu λj _=>xN (e i j)
 |.ptr m g o n c=>by simp only[dX,er,X.md,X.nV];congr 1;exact cu λj _=>xN (c j)
 |.agg n c=>by simp only[dX,er,X.md,X.nV];congr 1;exact cu λj _=>xN (c j)
 |.aj n c=>by simp only[dX,er,X.md,X.nV];congr 1;exact cu λj _=>xN (c j)
 |.fn f n c=>by simp only[dX,er,X.md,X.nV];congr 1;exact cu λj _=>xN (c j)
 |.ref _ _ _=>by simp only[dX,er,X.md]
 |.ai _ _ _ _ _=>by simp only[dX,er,X.md]
 |.cut _ _ _ _ _=>by simp only[dX,er,X.md]
 |.dead _=>by simp only[dX,er,X.md]
 |.int _ _=>by simp only[dX,er,X.md]
 |.bool _=>by simp only[dX,er,X.md]
 |.str _=>by simp only[dX,er,X.md]
def xP:∀c:C,c.dX.val=c.val
 |.row m sz A len cap e=>rfl
 |.ptr m g o n c=>rfl
 |.agg n c=>by simp only[dX,val];congr 2;exact cu λj _=>xP (c j)
 |.aj n c=>by simp only[dX,val];congr 2;exact cu λj _=>xP (c j)
 |.fn f n c=>by simp only[dX,val];congr 2;exact cu λj _=>xP (c j)
 |.ref _ _ _=>rfl
 |.ai _ _ _ _ _=>rfl
 |.cut _ _ _ _ _=>rfl
 |.dead _=>rfl
 |.int _ _=>rfl
 |.bool _=>rfl
 |.str _=>rfl
def sR:∀(c:C) (b k:Nat),¬c.dX.fp b k
 |.row m sz A len cap e,b,k=>λh=>by cases h.1
 |.ptr m g o n c,b,k=>λh=>by cases h.1
 |.agg n c,b,k=>λ⟨j,_,hf⟩=>sR (c j) b k hf
 |.aj n c,b,k=>λ⟨j,_,hf⟩=>sR (c j) b k hf
 |.fn f n c,b,k=>λh=>h
 |.ref _ _ _,b,k=>λh=>h
 |.ai _ _ _ _ _,b,k=>λh=>h
 |.cut _ _ _ _ _,b,k=>λh=>h
 |.dead _,b,k=>λh=>h
 |.int _ _,b,k=>λh=>h
 |.bool _,b,k=>λh=>h
 |.str _,b,k=>λh=>h
def Ko{c:C}(h:c.cell):c.dX.cell:=by cases c<;>first|exact h|exact h.elim|trivial
def acj{c:C}(h:c.fJ):c.dX.fJ:=by cases c<;>first|exact h|exact h.elim|trivial
def acm{c:C}(h:c.cK):c.dX.cK:=by cases c<;>first|exact h|exact h.elim|trivial
def Qz(c:C):c.dX.fits .sl:=by cases c<;>first|trivial|exact .inr (.inl rfl)
def ack{c:C}(h:c.plain):c.dX.plain:=by cases c<;>first|exact h|exact h.elim|trivial
variable {w:World}{zl aE zb:Nat->Nat->Prop}
def xO(hz:∀b k,zl b k->aE b k):∀c:C,c.er.clean=true->(∀b k,c.fp b k->aE b k)->c.ok w (Zf zl zb)->c.dX.ok w (Zf aE zb)
 |.row m sz A len cap e,hcl,hf,h=>by
  obtain⟨h1,h2,h3,h4,h5⟩:=h;simp only[er,X.clean,ax] at hcl;refine⟨h1,λi j hi hj=>?_,λi j hi hj=>?_,λhm=>by (cases hm),λi j hi hj b k hh=>(sR _ b k hh).elim⟩
  ·obtain⟨g,o,hA,hc,oL⟩:=h2 i j hi hj;refine⟨g,o,hA,by rw[xP];exact hc,λ_=>?_⟩;cases m with
   |own=>exact hf _ _ ⟨rfl,.inl ⟨o,hA⟩⟩
   |sl=>exact hz _ _ (oL (by simp))
   |af=>simp at hcl
  ·obtain⟨a1,a2,a3,a4⟩:=h3 i j hi hj;exact⟨Ko a1,acm a2,Qz _,xO hz (e i j) (NC.1 hcl.2 _ (aT.2 ⟨i,by simpa using hi,rfl⟩) _ (aT.2 ⟨j,by simpa using hj,rfl⟩)) (λb k hk=>hf b k (jX a1 a3 hi hj hk)) a4⟩
 |.ptr m g o n c,hcl,hf,h=>by
  obtain⟨h1,h2,h3,h4⟩:=h;simp only[er,X.clean,ax] at hcl;refine⟨λj hj=>?_,h2,λj hj=>?_,λj hj b k hh=>(sR _ b k hh).elim⟩
  ·obtain⟨a1,a2,a3⟩:=h1 j hj;refine⟨by rw[xP];exact a1,λ_=>?_,λhm=>by (cases hm)⟩;cases m with
   |own=>exact hf _ _ ⟨rfl,.inl ⟨rfl,by omega,by omega⟩⟩
   |sl=>exact hz _ _ (a2 (by simp))
   |af=>simp at hcl
  ·obtain⟨a1,a2,a3⟩:=h3 j hj;exact⟨Ko a1,Qz _,xO hz (c j) (jO.1 hcl.2 _ (aT.2 ⟨j,by simpa using hj,rfl⟩)) (λb k hk=>hf b k (kJ a1 a2 hj hk)) a3⟩
 |.agg n c,hcl,hf,h=>by simp only[er,X.clean] at hcl;exact⟨λj hj=>⟨Ko (h.1 j hj).1,xO hz (c j) (jO.1 hcl _ (aT.2 ⟨j,by simpa using hj,rfl⟩)) (λb k hk=>hf b k ⟨j,hj,hk⟩) (h.1 j hj).2⟩,λj hj b k hh=>(sR _ b k hh).elim⟩
 |.aj n c,hcl,hf,h=>by simp only[er,X.clean] at hcl;exact⟨λj hj=>⟨acj (h.1 j hj).1,xO hz (c j) (jO.1 hcl _ (aT.2 ⟨j,by simpa using hj,rfl⟩)) (λb k hk=>hf b k ⟨j,hj,hk⟩) (h.1 j hj).2⟩,λj hj b k hh=>(sR _ b k hh).elim⟩
 |.fn f n c,hcl,hf,h=>by simp only[er,X.clean] at hcl;exact λj hj=>⟨xO hz (c j) (jO.1 hcl _ (aT.2 ⟨j,by simpa using hj,rfl⟩)) (λb k hk=>((h j hj).2 b k hk).elim) (h j hj).1,λb k hh=>sR _ b k hh⟩
 |.ref _ _ _,_,_,_=>trivial
 |.ai _ _ _ _ _,_,_,_=>trivial
 |.cut _ _ _ _ _,_,_,_=>trivial
 |.dead _,_,_,_=>trivial
 |.int _ _,_,_,_=>trivial
 |.bool _,_,_,_=>trivial
 |.str _,_,_,h=>h
end C
variable {w:World}{zl zb:Nat->Nat->Prop}{G:Nat->C}{s:ag}
def Inv.more{aE:Nat->Nat->Prop}(h:Inv w zl zb G s)(h1:∀b k,zl b k->aE b k)(h2:∀b k,aE b k->(zl b k\/∀t,¬(G t).fp b k)/\b<w.heap.size):Inv w aE zb G s where
 er:=h.er
 ok:=λt=>C.gy (λm b k hz=>by
  cases m with
  |own=>exact hz
  |sl=>exact h1 b k hz
  |af=>exact hz.imp (h1 b k) id) _ (h.ok t)
 sep:=h.sep
 fz:=λt b k hf=>⟨λhz=>by
  rcases(h2 b k hz).1 with hh|hh;·exact(h.fz t b k hf).1 hh
  ·exact hh t hf,(h.fz t b k hf).2⟩
 rf:=h.rf
 cA:=λb k hz=>hz.elim (λhz=>(h2 b k hz).2) λhz=>h.cA b k (.inr hz)
section
variable {P:Program}{c:Ctx}{a:Act}{o:Oper}{K:ag->Prop}
def St.more{aE:Nat->Nat->Prop}(h:St c G zl s a w)(h1:∀b k,zl b k->aE b k)(h2:∀b k,aE b k->(zl b k\/∀t,¬(G t).fp b k)/\b<w.heap.size)(h3:∀b k,aE b k->zl b k\/c.F0 b k\/c.w0.heap.size<=b):St c G aE s a w where
 inv:=h.inv.more h1 h2
 val:=h.val
 size:=h.size
 small:=h.small
 defers:=h.defers
 tr:=⟨h.tr.ext,h.tr.dom,λb k hz=>h1 b k (h.tr.pV b k hz),λb k hz=>(h3 b k hz).elim (h.tr.zl b k) .inr,h.tr.gl,h.tr.zA⟩
 args:=h.args
def Ra{d:Nat}{v:Value}(hd:a.tmps.getD d undef=v)(hn:d<a.tmps.size):a.put (some d) v=a:=by
 unfold Act.put;simp only;congr 1;apply Gz;intro i;by_cases e:d=i;·subst e;rw[Te hn,<-hd,vF,CG hn];rfl
 ·rw[Mm e]
def OU{d:Nat}{s':ag}(h:St c G zl s a w)(hn:d<c.nt)(cs:List C)(hcs:∀x∈cs,yQ w zl c.zb G x)(k:List C->C)(kx:List X->X)(hk:∀l:List C,l.length=cs.length->(k l).er=kx (l.map C.er))
  (hkv:∀l:List C,l.map C.val=cs.map C.val->(k l).val=a.tmps.getD d undef)(DV:∀{aE:Nat->Nat->Prop},∀l:List C,l.length=cs.length->(∀x∈l,x.plain/\x.ok w (Zf aE c.zb)/\∀b k,¬x.fp b k)->(k l).ok w (Zf aE c.zb)/\(∀b q,¬(k l).fp b q)/\∀G,(k l).rf G)
  (hg:kA d (cs.map C.er) kx s=some s'):∃G' aE,St c G' aE s' a w:=by
 obtain⟨l,G1,e1,e2,e3,e4,e5⟩:=Ce cs G s h.inv hcs;unfold kA at hg;rw[<-e1] at hg;cases hcl:X.clean.cB (l.map C.er) with
 |false=>rw[hcl] at hg;cases hg
 |true=>
  rw[hcl,mg] at hg;have hlen:l.length=cs.length:=by have:=dw List.length e2;simpa using this
  let aE:Nat->Nat->Prop:=λb k=>zl b k\/∃y∈l,y.fp b k;have h1:St c G1 zl (bY (cs.map C.er) s).2 a w:=h.move e4.inv e4.val (Ext.refl (λ_ _=>False) w) (λ_ _ hs=>hs.elim) (λt b k hf=>.inl ⟨t,e4.mono t b k hf⟩)
  have h2:St c G1 aE (bY (cs.map C.er) s).2 a w:=h1.more (λb k hz=>.inl hz) (λb k hz=>by
   rcases hz with hz|⟨y,hy,hf⟩;·exact⟨.inl hz,h1.inv.cA b k (.inl hz)⟩
   ·exact⟨.inr λt=>(e4.all y hy).2.1 t b k hf,C.fE _ (e4.all y hy).1 b k hf⟩) (λb k hz=>by
   rcases hz with hz|⟨y,hy,hf⟩;·exact .inl hz
   ·obtain⟨t,ht⟩:=(e4.all y hy).2.2.2 b k hf;exact .inr (h.tr.dom t b k ht))
  let m:=l.map C.dX;have hml:m.length=cs.length:=by simp[m,hlen]
  have aaW:m.map C.er=X.dQ .sl (l.map C.er):=by rw[X.nV];simp only[m,cH];exact cu λx _=>C.xN x
  have PC:m.map C.val=cs.map C.val:=by rw[<-e2];simp only[m,cH];exact cu λx _=>C.xP x
  have hmem:∀x∈m,x.plain/\x.ok w (Zf aE c.zb)/\∀b k,¬x.fp b k:=λx hx=>by obtain⟨y,hy,rfl⟩:=aT.1 hx;exact⟨C.ack (e3 y hy),C.xO (λb k hz=>.inl hz) y (jO.1 hcl _ (j8 hy)) (λb k hf=>.inr ⟨y,hy,hf⟩) (e4.all y hy).1,C.sR y⟩
  rw[<-aaW] at hg;cases hb:gH (cs.map C.er) (m.map C.er) (bY (cs.map C.er) s).2 with
  |none=>rw[hb] at hg;cases hg
  |some s3=>
   rw[hb] at hg;simp only[cC,dr] at hg;subst hg;obtain⟨G2,g1,g2,g3⟩:=CX cs m h2.inv hml (λv r p hm=>e5 v r p ((hcs _ hm).weak v r p rfl)) (λi x y hx hy=>by have hy':=hmem y (ri hy);refine⟨hy'.1,?_,hy'.2.1⟩;have:=dw (λt:List Value=>t[i]?) PC;simpa [cS,hx,hy] using this) (λy hy=>⟨λt b k hf=>((hmem y hy).2.2 b k hf).elim,λb k hf=>((hmem y hy).2.2 b k hf).elim⟩) (rK λx hx=>(hmem x hx).2.2) hb
   have h3:St c G2 aE s3 a w:=h2.move g1 g2 (Ext.refl (λ_ _=>False) w) (λ_ _ hs=>hs.elim) (λt b k hf=>by
    rcases g3 t b k hf with hh|⟨y,hy,hh⟩;·exact .inl ⟨t,hh⟩
    ·exact((hmem y hy).2.2 b k hh).elim)
   obtain⟨o1,o2,o3⟩:=DV m hml hmem;obtain⟨G3,h4⟩:=h3.put hn o1 (λt _ b k hf=>(o2 b k hf).elim) (λb k hf=>(o2 b k hf).elim) (o3 G2) (λb k hf=>(o2 b k hf).elim);rw[hk m hml,Ra (hkv m PC).symm (by rw[h.size];exact hn)] at h4;exact⟨G3,aE,h4⟩
def ZY{fz:Bool}{d:Nat}{s':ag}(h:St c G zl s a w)(hn:d<c.nt)(hg:ghost fz d s=some s'):∃G' aE,St c G' aE s' a w:=by
 obtain⟨e1,e2,e3⟩:=QU h d;have hd:d<base:=iK hn h.small;have hval:a.tmps.getD d undef=(G d).val:=(h.val d hd).symm;unfold ghost at hg;cases fz with
 |false=>
  obtain⟨y,G1,f1,f2,f3,f4⟩:=qZ .mv h.inv e3;rw[e1] at f1 f4;have oK:y.val=a.tmps.getD d undef:=by rw[f2,e2,hval]
  simp only[rq,dr] at hg;subst hg;obtain⟨G2,h2⟩:=h.Le f4 hn;rw[f1,Ra oK.symm (by rw[h.size];exact hn)] at h2;exact⟨G2,zl,h2⟩
 |true=>
  simp only[mg] at hg;rw[<-e1] at hg;cases hx:(G d).alias d [] with
  |agg n f=>
   rw[hx] at hg e2 e3;have er:(C.agg n f).er=.agg (((List.range n).map f).map C.er):=by simp only[C.er,cH];rfl
   rw[er] at hg;have hlen:((List.range n).map f).length=n:=by simp
   refine OU h hn ((List.range n).map f) (λx hx=>?_) gF .agg (λl _=>vO l) (λl hl=>?_) (λl hl hm=>⟨⟨λj hj=>⟨C.lK (hm _ (cP hj _)).1,(hm _ (cP hj _)).2.1⟩,λj hj b q hf=>((hm _ (cP hj _)).2.2 b q hf).elim⟩,λb q hf=>?_,λG j hj=>C.pG (hm _ (cP hj _)).1 G⟩) hg
   ·obtain⟨j,hj,rfl⟩:=aT.1 hx;have hj':j<n:=by simpa using hj
    exact⟨(e3.ok.1 j hj').1,(e3.ok.1 j hj').2,λb k hf=>e3.cT b k ⟨j,hj',hf⟩,λv r p e=>Cj (by rw[<-e];exact e3.rf j hj')⟩
   ·rw[yR,hl,hval,<-e2];simp only[C.val,cH];rfl
   ·obtain⟨x,hx,hf⟩:=(rI _ _ _).1 hf;exact(hm x hx).2.2 b q hf
  |ref v r p=>
   rw[hx] at hg e2 e3;refine OU h hn [.ref v r p] (λx hx=>?_) (λl=>l.headD (.dead undef)) (λl=>l.headD .dead) (λl hl=>?_) (λl hl=>?_) (λl hl hm=>?_) hg;·obtain rfl:=fG.1 hx;exact⟨KO e3.rf,trivial,λb k hf=>hf,λv' r' p' e=>by cases e;exact Cj e3.rf⟩
   ·cases l with
    |nil=>simp at hl
    |cons x l=>rfl
   ·cases l with
    |nil=>simp at hl
    |cons x l=>
     have:x.val=v:=by have:=dw List.head? hl;simpa [C.val] using this
     show x.val=_;rw[this,hval,<-e2];rfl
   ·cases l with
    |nil=>simp at hl
    |cons x l=>obtain⟨a1,a2,a3⟩:=hm x (bz ..);exact⟨a2,a3,λG=>C.pG a1 G⟩
  |_=>rw[hx] at hg;simp only[C.er,dr] at hg;subst hg;exact⟨G,zl,h⟩
def adE(h:St c G zl s a w){d sz:Nat}{fz agg:Bool}{ty:TypeId}{x:AV}{x':Operand}(ho:o.op=.load ty x')(hsz:∃i,P.info? ty=some i/\i.size=sz)(nI:∃dd,P.underlying ty=some dd/\(match dd with|.struct _=>true|.array _ _=>true|_=>false)=agg)
  (h1:agg=true\/sz=1)(hd:o.dst=some d)(hn:d<c.nt)(hx:aK x' x=true)
  (hK:aM P (.iW d fz sz agg x) s K):dF P c o a w K:=by obtain⟨cs,k1,k2,s',k3,k4⟩:=hK;obtain⟨v,hr,G1,tu,s1,q1,q2⟩:=QS (K:=λt=>t=put d (bif agg then .agg (cs.take sz) else cs.headD .dead) s) h ho hsz nI h1 hd hn hx ⟨cs,k1,k2,rfl⟩;subst q1;obtain⟨G2,tw,h2⟩:=ZY q2 hn k3;exact⟨v,hr,G2,tw,s',k4,h2⟩
end
end M
namespace M
open Go Go.RowKit
variable [Bs]
section
variable {P:Program}{c:Ctx}{G:Nat->C}{zl:Nat->Nat->Prop}{s:ag}{a:Act}{w:World}{o:Oper}{K:ag->Prop}
def rF(P:Program)(c:Ctx)(o:Oper)(a:Act)(w:World)(K:ag->Prop)(q:Bool):Prop:=
 ∃f args,(execOp a.eval o).run P w=.ok (.enter f args) w/\Calls P f args w λe w'=>∃v,e=.returned v/\Rel q w w'/\∃G' aE s',K s'/\St c G' aE s' (a.put o.dst v) w'
def KQ{f:FuncId}{fn:Func}(hf:P.funcs[f]?=some fn)(hname:(fn.name== "runtime.NumGoroutine")=false) (hb:fn.body.isNone=false) (args:Array Value) (w:World):(callFunc f args).run P w=.ok (.enter f args) w:=by simp only[callFunc,Sem.run_bind,run_program,Result.andThen_ok,hf,hname,hb,iw,gW,Sem.run_pure]
def St.result{aE:Nat->Nat->Prop}(h:St c G aE s a w){x:C}(d:Option Nat)(hn:∀n,d=some n->n<c.nt)(hok:x.ok w (Zf aE λ_ _=>False))(hb:x.bare)(hsep:∀t b k,x.fp b k->¬(G t).fp b k)(hfz:∀b k,x.fp b k->¬aE b k/\¬c.zb b k)
  (hdom:∀b k,x.fp b k->c.F0 b k\/c.w0.heap.size<=b):∃G',St c G' aE (fK d x.er s) (a.put d x.val) w:=by
 cases d with
 |none=>exact⟨G,h⟩
 |some n=>
  refine h.put (hn n rfl) (C.gy (λm b k hz=>?_) _ hok) (λt _=>hsep t) hfz (C.rL G _ hb) hdom;cases m with
  |own=>exact hz
  |sl=>exact hz
  |af=>exact hz.imp id λh=>h.elim
def St.after{aE:Nat->Nat->Prop}{w':World}{G1:Nat->C}{s1:ag}{S:Nat->Nat->Prop}(h:St c G zl s a w)(hi:Inv w' aE c.zb G1 s1)(hv:∀t,(G1 t).val=(G t).val)(hE:Ext S w w')(hS:∀b k,S b k->∃t,(G t).fp b k)
  (hd:∀t b k,(G1 t).fp b k->(∃u,(G u).fp b k)\/w.heap.size<=b)(hz1:∀b k,zl b k->aE b k)(hz2:∀b k,aE b k->zl b k\/(∃t,(G t).fp b k)\/w.heap.size<=b):St c G1 aE s1 a w' where
 inv:=hi
 val:=λt ht=>(hv t).trans (h.val t ht)
 size:=h.size
 small:=h.small
 defers:=h.defers
 tr:=⟨h.tr.ext.trans hE (λb k hs hb=>by
   obtain⟨t,ht⟩:=hS b k hs;rcases h.tr.dom t b k ht with hh|hh;·exact hh
   ·omega),λt b k hf=>by
   rcases hd t b k hf with ⟨u,hu⟩|hb;·exact h.tr.dom u b k hu
   ·exact .inr (mc h.tr.ext.size hb),λb k hz=>hz1 b k (h.tr.pV b k hz),λb k hz=>by
   rcases hz2 b k hz with hz|⟨t,ht⟩|hb;·exact h.tr.zl b k hz
   ·exact .inr (h.tr.dom t b k ht)
   ·exact .inr (.inr (mc h.tr.ext.size hb)),h.tr.gl,h.tr.zA⟩
 args:=λi v hi=>(hv _).trans (h.args i v hi)
def St.Ig(h:St c G zl s a w)(bD:Nat->Nat->Prop)(hz:∀b k,c.zb b k->bD b k):pX w zl bD:=λb hb=>by
 obtain⟨h1,h2⟩:=h.tr.gl b hb;refine⟨?_,λk=>(h2 k).imp (h.tr.pV b k) (hz b k)⟩;rw[<-h1]
 have hlt:b<c.w0.heap.size:=by
  rcases fN b c.w0.heap.size with h|h;·exact h
  ·rw[jH h] at h1;have:=Array.getElem?_eq_none_iff.1 h1.symm;omega
 rcases h.tr.ext.block b hlt with e|⟨arr,fS,t,fz,e1,e2,e3,e4⟩;·exact e
 ·have:fS=arr:=by apply Gz;intro i;exact e4 i (h.tr.zA b i hb)
  rw[e1,e2,this]
def Ge{G1:Nat->C}{s1:ag}{l:List C}(h:St c G zl s a w)(hT:bN w zl c.zb G l G1 s1):St c G1 zl s1 a w:=
 h.move hT.inv hT.val (Ext.refl (λ_ _=>False) w) (λ_ _ hs=>hs.elim) (λt b k hf=>.inl ⟨t,hT.mono t b k hf⟩)
structure tF (P:Program) (c:Ctx) (zl:Nat->Nat->Prop) (o:Oper) (a:Act) (w:World) (l':List Operand) (f:FuncId) (fv:Option AV):Prop where
 run:∃p8:List Value,(execOp a.eval o).run P w=.ok (.enter f ((l'.map a.eval)++p8).toArray) w/\
  ∀{G2:Nat->C} {s2:ag} {bD:Nat->Nat->Prop},St c G2 zl s2 a w->(∀b k,c.zb b k->bD b k)->(∀t b k,(G2 t).fp b k->bD b k)->rO s2 fv f->∃l:List C,l.map C.er=oA s2 fv/\l.map C.val=p8/\∀x∈l,fR w zl bD x
def jc:List (AV×PM)->Bool
 |[]=>true
 |(_,.af)::l=>jc l
 |(_,.gI _)::l=>jc l
 |_::_=>false
def Ks:∀{l:List (AV×PM)} (s:ag),jc l=true->∀x∈(bW l s).1,x=.dead
 |[],s,_,x,hx=>by cases hx
 |(_,.af)::l,s,h,x,hx=>(bO.1 hx).elim id (Ks (l:=l) s h x)
 |(_,.gI _)::l,s,h,x,hx=>(bO.1 hx).elim id (Ks (l:=l) s h x)
 |(_,.mv)::l,s,h,x,hx=>by cases h
 |(_,.mut _)::l,s,h,x,hx=>by cases h
def xT:∀{l:List (AV×PM)},jc l=true->dR l=none
 |[],_=>rfl
 |(_,.af)::l,h=>xT (l:=l) h
 |(_,.gI _)::l,h=>xT (l:=l) h
 |(_,.mv)::l,h=>by cases h
 |(_,.mut _)::l,h=>by cases h
def Nt(q:Bool)(h:St c G zl s a w){l':List Operand}{as:List (AV×PM)}(hc:gJ l' as=true)(hno:dR as=none){f:FuncId}{fv:Option AV}(hop:tF P c zl o a w l' f fv)(hq:q=true->jc as=true)(hn:∀n,o.dst=some n->n<c.nt)(hK:tS P f o.dst as fv s K):rF P c o a w K q:=by
 obtain⟨k1,k2⟩:=hK;rw[hno] at k2;obtain⟨k2,k3⟩:=k2;obtain⟨ms,G1,g1,g2,hT⟩:=FD hc h;obtain⟨p8,hrun,zK⟩:=hop.run;have h1:=Ge h hT;rw[<-g1] at k1 k3;have jA:∀b k,c.zb b k->(c.zb b k\/∃t,(G1 t).fp b k):=λb k hz=>.inl hz;have sy:∀t b k,(G1 t).fp b k->(c.zb b k\/∃t,(G1 t).fp b k):=λt b k hf=>.inr ⟨t,hf⟩;obtain⟨l,l1,l2,l3⟩:=zK (bD:=λb k=>c.zb b k\/∃t,(G1 t).fp b k) h1 jA sy k2
 have aaX:∀x∈ms,x.ok w (Zf zl λb k=>c.zb b k\/∃t,(G1 t).fp b k)/\x.bare/\∀b k,x.fp b k->¬(C.dead undef).fp b k:=λx hx=>by
  refine⟨C.gy (λm b k hz=>?_) _ (hT.all x hx).1,(C.mq x).1 (C.vU.1 k1 _ (j8 hx)),λ_ _ _ h=>h⟩;cases m with
  |own=>exact hz
  |sl=>exact hz
  |af=>exact hz.imp id .inl
 obtain⟨cs,c1,c2,c3,c4⟩:=CT (bD:=λb k=>c.zb b k\/∃t,(G1 t).fp b k) h1 jA sy (y:=.dead undef) trivial trivial hc g2 aaX hT.apart (λi x n x' hi _=>by
  exfalso
  have:∀{l:List (AV×PM)} {i:Nat},l[i]?=some (x,PM.mut n)->dR l≠none:=by
   intro l;induction l with
   |nil=>intro i hi;simp at hi
   |cons p l ih=>
    intro i hi;obtain⟨y,pm⟩:=p;cases i with
    |zero=>simp only[yJ,dr,jG] at hi;obtain⟨_,rfl⟩:=hi;simp[dR]
    |succ i=>have:=ih (by simpa using hi);cases pm<;>simp[dR]<;>first|exact this|skip
  exact this hi hno)
 have cg:∀x∈cs++l,∀b k,x.fp b k->∃m∈ms,m.fp b k:=λx hx b k hf=>by
  rcases fP.1 hx with hx|hx
  ·rcases(c3 x hx).2.2 b k hf with hh|hh;·exact hh
   ·exact hh.2.elim
  ·exact((l3 x hx).cT b k hf).elim
 have hA:nv w zl (λb k=>c.zb b k\/∃t,(G1 t).fp b k) (cs++l):={
  ok:=λx hx=>(fP.1 hx).elim (λhx=>(c3 x hx).1) λhx=>(l3 x hx).ok
  bare:=λx hx=>(fP.1 hx).elim (λhx=>(c3 x hx).2.1) λhx=>(l3 x hx).bare
  fz:=λx hx b k hf=>by obtain⟨m,hm,hf⟩:=cg x hx b k hf;exact⟨((hT.all m hm).2.2.1 b k hf).1,λhz=>hz.elim ((hT.all m hm).2.2.1 b k hf).2 λ⟨t,ht⟩=>(hT.all m hm).2.1 t b k hf ht⟩
  cA:=λb k hz=>by
   rcases hz with hz|hz|⟨t,ht⟩;·exact hT.inv.cA b k (.inl hz)
   ·exact hT.inv.cA b k (.inr hz)
   ·exact C.fE _ (hT.inv.ok t) b k ht
  apart:=vu.2 ⟨c4,rK λx hx=>(l3 x hx).cT,λx _ y hy b k _ hf=>(l3 y hy).cT b k hf⟩}
 have sg:=k3 w zl _ (cs++l) (by rw[kg,c1,l1];rfl) hA (h.Ig _ λb k hz=>.inl hz);have uw:(cs++l).map C.val=l'.map a.eval++p8:=by rw[kg,c2,l2]
 rw[uw] at sg;refine⟨f,_,hrun,sg.mono ?_⟩;rintro e w' ⟨r,ps,aE,hD,hk⟩;have hin:∀b k,aE b k->b<w'.heap.size:=λb k hz=>hD.all.cA b k (.inl hz);have kG:∀b k,(∃m∈ms,m.fp b k)->(∀t,¬(G1 t).fp b k)/\¬zl b k/\¬c.zb b k:=λb k ⟨m,hm,hf⟩=>⟨λt=>(hT.all m hm).2.1 t b k hf,(hT.all m hm).2.2.1 b k hf⟩;have k9:∀b k,(∃x∈cs++l,x.fp b k)->∃m∈ms,m.fp b k:=λb k ⟨x,hx,hf⟩=>cg x hx b k hf;have Ah:∀b k,aE b k->zl b k\/(∃m∈ms,m.fp b k)\/w.heap.size<=b:=λb k hz=>(hD.tw b k hz).imp id λhh=>hh.imp (k9 b k) id
 have hi:=hT.inv.MJ hD.ext (λb k hs=>kG b k (k9 b k hs)) hD.tu (λb k hz=>⟨hin b k hz,λt hf=>by
  rcases Ah b k hz with hz|hm|hb;·exact(hT.inv.fz t b k hf).1 hz
  ·exact(kG b k hm).1 t hf
  ·have:=C.fE _ (hT.inv.ok t) b k hf;omega⟩)
 have kH:∀b k,(∃m∈ms,m.fp b k)->∃t,(G t).fp b k:=λb k ⟨m,hm,hf⟩=>(hT.all m hm).2.2.2 b k hf;have h2:St c G1 aE (bW as s).2 a w':=h.after hi hT.val hD.ext (λb k hs=>kH b k (k9 b k hs)) (λt b k hf=>.inl ⟨t,hT.mono t b k hf⟩) hD.tu (λb k hz=>(Ah b k hz).imp id λhh=>hh.imp (kH b k) id);have hrd:∀b k,r.fp b k->(∃m∈ms,m.fp b k)\/w.heap.size<=b:=λb k hf=>(hD.dom r (bz ..) b k hf).imp (k9 b k) id
 obtain⟨G3,h3⟩:=h2.result (x:=r) o.dst hn (hD.all.ok r (bz ..)) (hD.all.bare r (bz ..)) (λt b k hf hf'=>by
   rcases hrd b k hf with hm|hb;·exact(kG b k hm).1 t hf'
   ·have:=C.fE _ (hT.inv.ok t) b k hf';omega) (λb k hf=>⟨(hD.all.fz r (bz ..) b k hf).1,λhz=>by
   rcases hrd b k hf with hm|hb;·exact(kG b k hm).2.2 hz
   ·have:=hT.inv.cA b k (.inr hz);omega⟩) (λb k hf=>by
   rcases hrd b k hf with hm|hb;·obtain⟨t,ht⟩:=kH b k hm;exact h.tr.dom t b k ht
   ·exact .inr (mc h.tr.ext.size hb))
 refine⟨r.val,hD.ends,λI0=>hD.ext.mono λb k hs _=>?_,G3,aE,_,hk,h3⟩;obtain⟨m,hm,hf⟩:=k9 b k hs;have hd:=Ks s (hq I0) m.er (by rw[<-g1];exact j8 hm);cases m<;>first|exact hf|(simp[C.er] at hd)
end
end M
namespace M
open Go Go.RowKit
variable [Bs]
structure eR (w w':World) (zl aE zb:Nat->Nat->Prop) (G:Nat->C) (r:Nat) (p:Path) (D y q:C) (S M:Nat->Nat->Prop):Prop where
 sub:(G r).sub p=some D
 yD:∀b k,y.fp b k->D.fp b k
 ext:Ext S w w'
 sN:∀b k,S b k->M b k\/y.fp b k
 xZ:∀b k,M b k->(∀t,¬(G t).fp b k)/\¬zl b k/\¬zb b k
 FT:q.ok w' (Zf aE zb)
 bare:q.bare
 val:q.val=y.val
 fp:∀b k,q.fp b k->S b k\/w.heap.size<=b
 qz:∀b k,q.fp b k->¬aE b k
 z1:∀b k,zl b k->aE b k
 z2:∀b k,aE b k->zl b k\/S b k\/w.heap.size<=b
 cA:∀b k,aE b k->b<w'.heap.size
section
variable {w w':World}{zl aE zb:Nat->Nat->Prop}{G:Nat->C}{s:ag}{r:Nat}{p:Path}{D y q:C}{S M:Nat->Nat->Prop}
def eR.DG(h:eR w w' zl aE zb G r p D y q S M)(hi:Inv w zl zb G s){b k:Nat}(hf:D.fp b k):(G r).fp b k:=C.gC p h.sub (hi.ok r) hf
def eR.notM(h:eR w w' zl aE zb G r p D y q S M)(hi:Inv w zl zb G s){b k:Nat}(hf:D.fp b k):¬M b k:=λhm=>(h.xZ b k hm).1 r (h.DG hi hf)
def eR.QF(h:eR w w' zl aE zb G r p D y q S M)(hi:Inv w zl zb G s){b k:Nat}(hf:D.fp b k):¬w.heap.size<=b:=λhb=>by have:=C.fE _ (hi.ok r) b k (h.DG hi hf);omega
def eR.qD(h:eR w w' zl aE zb G r p D y q S M)(hi:Inv w zl zb G s){b k:Nat}(hq:q.fp b k)(hf:D.fp b k):y.fp b k:=by
 rcases h.fp b k hq with hs|hb;·exact(h.sN b k hs).resolve_left (h.notM hi hf)
 ·exact(h.QF hi hf hb).elim
def eR.zD(h:eR w w' zl aE zb G r p D y q S M)(hi:Inv w zl zb G s){b k:Nat}(hz:aE b k)(hf:D.fp b k):y.fp b k:=by
 rcases h.z2 b k hz with hz|hs|hb;·exact((hi.fz r b k (h.DG hi hf)).1 hz).elim
 ·exact(h.sN b k hs).resolve_left (h.notM hi hf)
 ·exact(h.QF hi hf hb).elim
def eR.SD(h:eR w w' zl aE zb G r p D y q S M)(hi:Inv w zl zb G s){b k:Nat}(hs:S b k)(hf:D.fp b k):y.fp b k:=(h.sN b k hs).resolve_left (h.notM hi hf)
def eR.Z(h:eR w w' zl aE zb G r p D y q S M)(hi:Inv w zl zb G s):∀m b k,Zf zl zb m b k->¬S b k:=λm b k hz hs=>by
 rcases h.sN b k hs with hm|hy
 ·obtain⟨_,a1,a2⟩:=h.xZ b k hm;cases m with
  |own=>exact hz
  |sl=>exact a1 hz
  |af=>exact hz.elim a1 a2
 ·exact hi.yM r m b k hz (h.DG hi (h.yD b k hy))
def eR.mono(h:eR w w' zl aE zb G r p D y q S M):∀m b k,Zf zl zb m b k->Zf aE zb m b k:=λm b k hz=>by
 cases m with
 |own=>exact hz
 |sl=>exact h.z1 b k hz
 |af=>exact hz.imp (h.z1 b k) id
def eR.back(h:eR w w' zl aE zb G r p D y q S M)(hi:Inv w zl zb G s){d0:C}(hok:d0.ok w' (Zf aE zb))(hF:C.gd D d0)(hl:C.gY D d0)(hrf:(d0.ay (C.belows r p)).rf λt=>(G t).ay (C.belows r p))(cg:∀b k,d0.fp b k->q.fp b k\/(D.fp b k/\¬y.fp b k))(hz:∀b k,d0.fp b k->¬aE b k):
  ∃G',Inv w' aE zb G' (iq r p d0.er s)/\(∀t,(G' t).val=(G t).val)/\∀t b k,(G' t).fp b k->q.fp b k\/((∃u,(G u).fp b k)/\¬y.fp b k):=by
 have h1:=hi.eV r p;have hs1:((G r).ay (C.belows r p)).sub p=some (D.ay (C.belows r p)):=C.iY _ p _ _ (hi.ok r) h.sub;have zS:∀t b k,((G t).ay (C.belows r p)).fp b k↔(G t).fp b k:=λt b k=>C.cM _ _ b k
 have hFB:C.gd (D.ay (C.belows r p)) (d0.ay (C.belows r p)):=by
  cases hF with
  |row=>exact .row ..
  |ptr=>exact .ptr ..
 have sj:C.gY (D.ay (C.belows r p)) (d0.ay (C.belows r p)):=by
  cases hF with
  |row m m' sz A len cap e e'=>exact⟨rfl,λh=>h,λh=>h,λh=>h,hl.fits⟩
  |ptr m m' g o n c c'=>exact⟨rfl,λh=>h,λh=>h,λh=>h,hl.fits⟩
 obtain⟨i1,i2,i3⟩:=h1.G4 r p (λt=>C.gx _ _) hs1 hFB sj ⟨hrf,C.gx _ _⟩ h.ext (λb k hs=>by
   rcases h.sN b k hs with hm|hy;·obtain⟨a1,a2,a3⟩:=h.xZ b k hm;exact .inr ⟨λt hf=>a1 t ((zS t b k).1 hf),a2,a3⟩
   ·exact .inl ((C.cM _ D b k).2 (h.yD b k hy))) (C.mU _ _ hok) h.z1 (λb k oL=>⟨λhf=>hz b k ((C.cM _ d0 b k).1 hf) oL,h.cA b k oL,λt hf=>by
   refine(C.cM _ D b k).2 ?_;have hf:=(zS t b k).1 hf;rcases h.z2 b k oL with fY|hs|hb;·exact((hi.fz t b k hf).1 fY).elim
   ·rcases h.sN b k hs with hm|hy;·exact((h.xZ b k hm).1 t hf).elim
    ·exact h.yD b k hy
   ·have:=C.fE _ (hi.ok t) b k hf;omega⟩) (λb k hf=>by
   rcases(cg b k ((C.cM _ d0 b k).1 hf)).symm with hf|hf;·exact .inl ((C.cM _ D b k).2 hf.1)
   ·rcases h.fp b k hf with hs|hb
    ·rcases h.sN b k hs with hm|hy;·obtain⟨a1,a2,a3⟩:=h.xZ b k hm;exact .inr ⟨λt hf=>a1 t ((zS t b k).1 hf),a3⟩
     ·exact .inl ((C.cM _ D b k).2 (h.yD b k hy))
    ·exact .inr ⟨λt hf=>by have:=C.fE _ (hi.ok t) b k ((zS t b k).1 hf);omega,λhz=>by have:=hi.cA b k (.inr hz);omega⟩)
 rw[C.xG] at i1;refine⟨_,i1,λt=>(i2 t).trans (C.iZ _ _),λt b k hf=>?_⟩;rcases i3 t b k hf with hf|hf
 ·rcases cg b k ((C.cM _ d0 b k).1 hf) with hf|hf;·exact .inl hf
  ·exact .inr ⟨⟨r,h.DG hi hf.1⟩,hf.2⟩
 ·exact .inr ⟨⟨t,(zS t b k).1 hf.1⟩,λhy=>hf.2 ((C.cM _ D b k).2 (h.yD b k hy))⟩
end
end M
namespace M
open Go Go.RowKit
variable [Bs]
def RU{α:Type}(f g:Nat->α){nn c n:Nat}(h:c+n<=nn):((List.range nn).map λj=>if c<=j/\j<c+n then g (j - c) else f j)=((List.range nn).map f).take c++(List.range n).map g++((List.range nn).map f).drop (c+n):=by
 apply gX;intro i;rw[C.cX];have II:(((List.range nn).map f).take c).length=c:=by simp;omega
 have jy:(((List.range nn).map f).take c++(List.range n).map g).length=c+n:=by rw[fO,II];simp
 by_cases h0:i<nn
 ·rw[aq h0];by_cases h1:i<c;·rw[az (by omega),pQ (by omega),pQ (by omega),Mc h1,C.cX,aq h0]
  ·by_cases h2:i<c+n;·rw[aq ⟨by omega,h2⟩,pQ (by omega),nr (by omega),II,C.cX,aq (by omega)]
   ·rw[az (by omega),nr (by omega),jy,yK,C.cX,show c+n+(i - (c+n))=i by omega,aq h0]
 ·rw[az h0,nr (by omega),jy,yK,C.cX,az (by omega)]
section
variable {w w':World}{zl aE zb:Nat->Nat->Prop}{G:Nat->C}{s:ag}{r:Nat}{p:Path}{S M:Nat->Nat->Prop}
def eR.ptr{g o nn n c:Nat}{f qf:Nat->C}(h:eR w w' zl aE zb G r p (.ptr .own g o nn f) (.ptr .own g (o+c) n λj=>f (j+c)) (.ptr .own g (o+c) n qf) S M)(hi:Inv w zl zb G s)(hn:c+n<=nn):
  ∃G',Inv w' aE zb G' (iq r p (.ptr .own (((List.range nn).map λj=>(f j).er).take c++((List.range n).map λj=>(qf j).er)++((List.range nn).map λj=>(f j).er).drop (c+n))) s)/\(∀t,(G' t).val=(G t).val)/\∀t b k,(G' t).fp b k->(C.ptr .own g (o+c) n qf).fp b k\/((∃u,(G u).fp b k)/\¬(C.ptr .own g (o+c) n λj=>f (j+c)).fp b k):=by
 obtain⟨D1,D2,D3,D4⟩:=C.gT p h.sub (hi.ok r);obtain⟨q1,q2,q3,q4⟩:=h.FT;have nN:∀j,j<n->∀b k,(qf j).fp b k->(C.ptr .own g (o+c) n qf).fp b k:=λj hj b k hf=>C.kJ (q3 j hj).1 (q3 j hj).2.1 hj hf;have nH:∀j,j<nn->∀b k,(f j).fp b k->(C.ptr .own g o nn f).fp b k:=λj hj b k hf=>C.kJ (D3 j hj).1 (D3 j hj).2.1 hj hf;have ql:∀k,o<=k->k<o+nn->(C.ptr .own g o nn f).fp g k:=λk h1 h2=>⟨rfl,.inl ⟨rfl,h1,h2⟩⟩
 have mM:∀k,o<=k->k<o+nn->(C.ptr .own g (o+c) n λj=>f (j+c)).fp g k->o+c<=k/\k<o+c+n:=λk h1 h2 ⟨_,hf⟩=>by
  rcases hf with hf|⟨j,hj,hf⟩;·exact hf.2
  ·exact((D4 (j+c) (by omega) g k hf).1 rfl ⟨rfl,h1,h2⟩).elim
 have nO:∀j,j<nn->¬(c<=j/\j<c+n)->∀b k,(f j).fp b k->¬(C.ptr .own g (o+c) n λj=>f (j+c)).fp b k:=λj hj hne b k hf ⟨_,hf'⟩=>by
  rcases hf' with hf'|⟨j',hj',hf'⟩;·exact(D4 j hj b k hf).1 rfl ⟨hf'.1,by omega,by omega⟩
  ·exact(D4 j hj b k hf).2 (j'+c) (by omega) (by omega) hf'
 let d:Nat->C:=λj=>if c<=j/\j<c+n then qf (j - c) else f j
 have iA:∀j,c<=j/\j<c+n->d j=qf (j - c):=λj hj=>aq hj;have iB:∀j,¬(c<=j/\j<c+n)->d j=f j:=λj hj=>az hj
 have hok:(C.ptr .own g o nn d).ok w' (Zf aE zb):=by
  refine⟨λj hj=>⟨?_,λhm=>(hm rfl).elim,λ_=>(h.ext.frozen D2).trans ((D1 j hj).2.2 rfl)⟩,iK D2 h.ext.size,λj hj=>?_,λj hj b k hf=>⟨λ_ hb=>?_,λj' hj' hne=>?_⟩⟩
  ·by_cases hr:c<=j/\j<c+n;·rw[iA j hr];have:=(q1 (j - c) (by omega)).1;rwa [show o+c+(j - c)=o+j by omega] at this
   ·rw[iB j hr];exact h.ext.cell (λhs=>hr (by have:=mM (o+j) (by omega) (by omega) (h.SD hi hs (ql _ (by omega) (by omega)));omega)) (D1 j hj).1
  ·by_cases hr:c<=j/\j<c+n;·rw[iA j hr];obtain⟨a1,a2,a3⟩:=q3 (j - c) (by omega);exact⟨a1,a2,a3⟩
   ·rw[iB j hr];obtain⟨a1,a2,a3⟩:=D3 j hj;exact⟨a1,a2,C.gy h.mono _ (C.eX h.ext (h.Z hi) _ (λb k hf hs=>nO j hj hr b k hf (h.SD hi hs (nH j hj b k hf))) a3)⟩
  ·obtain⟨rfl,fk,fm⟩:=hb;by_cases hr:c<=j/\j<c+n;·rw[iA j hr] at hf;have:=mM k fk fm (h.qD hi (nN _ (by omega) _ _ hf) (ql k fk fm));exact(q4 (j - c) (by omega) _ k hf).1 rfl ⟨rfl,this.1,this.2⟩
   ·rw[iB j hr] at hf;exact(D4 j hj _ k hf).1 rfl ⟨rfl,fk,fm⟩
  ·by_cases hr:c<=j/\j<c+n
   ·rw[iA j hr] at hf;by_cases hr':c<=j'/\j'<c+n;·rw[iA j' hr'];exact(q4 (j - c) (by omega) b k hf).2 (j' - c) (by omega) (by omega)
    ·rw[iB j' hr'];exact λhf'=>nO j' hj' hr' b k hf' (h.qD hi (nN _ (by omega) _ _ hf) (nH j' hj' b k hf'))
   ·rw[iB j hr] at hf;by_cases hr':c<=j'/\j'<c+n;·rw[iA j' hr'];exact λhf'=>nO j hj hr b k hf (h.qD hi (nN _ (by omega) _ _ hf') (nH j hj b k hf))
    ·rw[iB j' hr'];exact(D4 j hj b k hf).2 j' hj' hne
 have aae:=Inv.vf.Cb p ((hi.eV r p).ok r) (C.iY (C.belows r p) p _ _ (hi.ok r) h.sub) ((hi.eV r p).rf r)
 obtain⟨G',i1,i2,i3⟩:=h.back hi (d0:=.ptr .own g o nn d) hok (.ptr ..) ⟨rfl,λh=>h,λh=>h,λh=>h,λ_ h=>h⟩ (λj hj=>by
   by_cases hr:c<=j/\j<c+n;·show ((d j).ay _).rf _;rw[iA j hr];exact C.nW _ _ (C.rL _ _ (h.bare (j - c) (by omega)))
   ·show ((d j).ay _).rf _;rw[iB j hr];exact aae j hj) (λb k hf=>by
   obtain⟨_,hf|⟨j,hj,hf⟩⟩:=hf
   ·obtain⟨rfl,h1,h2⟩:=hf;by_cases hr:o+c<=k/\k<o+c+n;·exact .inl ⟨rfl,.inl ⟨rfl,hr.1,hr.2⟩⟩
    ·exact .inr ⟨ql k h1 h2,λhy=>hr (mM k h1 h2 hy)⟩
   ·by_cases hr:c<=j/\j<c+n;·rw[iA j hr] at hf;exact .inl (nN _ (by omega) _ _ hf)
    ·rw[iB j hr] at hf;exact .inr ⟨nH j hj b k hf,nO j hj hr b k hf⟩) (λb k hf hz=>by
   obtain⟨_,hf|⟨j,hj,hf⟩⟩:=hf;·obtain⟨rfl,h1,h2⟩:=hf;have:=mM k h1 h2 (h.zD hi hz (ql k h1 h2));exact h.qz _ k ⟨rfl,.inl ⟨rfl,this.1,this.2⟩⟩ hz
   ·by_cases hr:c<=j/\j<c+n;·rw[iA j hr] at hf;exact h.qz b k (nN _ (by omega) _ _ hf) hz
    ·rw[iB j hr] at hf;exact nO j hj hr b k hf (h.zD hi hz (nH j hj b k hf)))
 have kD:(C.ptr .own g o nn d).er=.ptr .own (((List.range nn).map λj=>(f j).er).take c++((List.range n).map λj=>(qf j).er)++((List.range nn).map λj=>(f j).er).drop (c+n)):=by rw[<-RU (λj=>(f j).er) (λj=>(qf j).er) hn];simp only[C.er];congr 1;refine cu λj _=>?_;show (if _ then _ else _:C).er=_;split<;>rfl
 rw[kD] at i1;exact⟨G',i1,i2,i3⟩
def eR.row{z len cap:Nat}{A:Option Ad}{e qe:Nat->Nat->C}(h:eR w w' zl aE zb G r p (.row .own z A len cap e) (.row .own z A len cap e) (.row .own z A len cap qe) S M)(hi:Inv w zl zb G s):
  ∃G',Inv w' aE zb G' (iq r p (.row .own z (dD z len qe)) s)/\(∀t,(G' t).val=(G t).val)/\∀t b k,(G' t).fp b k->(C.row .own z A len cap qe).fp b k\/((∃u,(G u).fp b k)/\¬(C.row .own z A len cap e).fp b k):=
 h.back hi (d0:=.row .own z A len cap qe) h.FT (.row ..) ⟨rfl,λh=>h,λh=>h,λh=>h,λ_ h=>h⟩ trivial (λb k hf=>.inl hf) (λb k hf=>h.qz b k hf)
def eR.elem{z g o len cap n c i:Nat}{e:Nat->Nat->C}{qf:Nat->C}(h:eR w w' zl aE zb G r p (.row .own z (some (g,o,none)) len cap e) (.ptr .own g (o+i*z+c) n λj=>e i (j+c)) (.ptr .own g (o+i*z+c) n qf) S M)(hi:Inv w zl zb G s)(nM:i<len)(hn:c+n<=z)(hqs:∀j,j<n->(qf j).cK):
  ∃G',Inv w' aE zb G' (iq r p (.row .own z ((dD z len e).set i (((List.range z).map λj=>(e i j).er).take c++((List.range n).map λj=>(qf j).er)++((List.range z).map λj=>(e i j).er).drop (c+n)))) s)/\(∀t,(G' t).val=(G t).val)/\∀t b k,(G' t).fp b k->(C.ptr .own g (o+i*z+c) n qf).fp b k\/((∃u,(G u).fp b k)/\¬(C.ptr .own g (o+i*z+c) n λj=>e i (j+c)).fp b k):=by
 obtain⟨D1,D2,D3,D4,D5⟩:=C.gT p h.sub (hi.ok r);obtain⟨q1,q2,q3,q4⟩:=h.FT;have nN:∀j,j<n->∀b k,(qf j).fp b k->(C.ptr .own g (o+i*z+c) n qf).fp b k:=λj hj b k hf=>C.kJ (q3 j hj).1 (q3 j hj).2.1 hj hf;have nH:∀i' j,i'<len->j<z->∀b k,(e i' j).fp b k->(C.row .own z (some (g,o,none)) len cap e).fp b k:=λi' j hi' hj b k hf=>C.jX (D3 i' j hi' hj).1 (D3 i' j hi' hj).2.2.1 hi' hj hf;have ql:∀k,(C.row .own z (some (g,o,none)) len cap e).fp g k:=λk=>⟨rfl,.inl ⟨o,rfl⟩⟩
 have mM:∀k,(C.ptr .own g (o+i*z+c) n λj=>e i (j+c)).fp g k->o+i*z+c<=k/\k<o+i*z+c+n:=λk ⟨_,hf⟩=>by
  rcases hf with hf|⟨j,hj,hf⟩;·exact hf.2
  ·exact((D5 i (j+c) nM (by omega) g k hf).1 rfl o rfl).elim
 have nO:∀i' j,i'<len->j<z->¬(i'=i/\c<=j/\j<c+n)->∀b k,(e i' j).fp b k->¬(C.ptr .own g (o+i*z+c) n λj=>e i (j+c)).fp b k:=λi' j hi' hj hne b k hf ⟨_,hf'⟩=>by
  rcases hf' with hf'|⟨j',hj',hf'⟩;·exact(D5 i' j hi' hj b k hf).1 rfl o (by rw[hf'.1])
  ·exact(D5 i' j hi' hj b k hf).2 i (j'+c) nM (by omega) (λe=>by simp only[jG] at e;exact hne ⟨e.1,by omega,by omega⟩) hf'
 let d:Nat->Nat->C:=λi' j=>if i'=i/\c<=j/\j<c+n then qf (j - c) else e i' j
 have iA:∀i' j,i'=i/\c<=j/\j<c+n->d i' j=qf (j - c):=λi' j hj=>aq hj;have iB:∀i' j,¬(i'=i/\c<=j/\j<c+n)->d i' j=e i' j:=λi' j hj=>az hj
 have hok:(C.row .own z (some (g,o,none)) len cap d).ok w' (Zf aE zb):=by
  refine⟨D1,λi' j hi' hj=>⟨g,o,rfl,?_,λhm=>(hm rfl).elim⟩,λi' j hi' hj=>?_,λ_=>?_,λi' j hi' hj b k hf=>⟨λ_ o' hA=>?_,λi2 j2 hi2 hj2 hne=>?_⟩⟩
  ·by_cases hr:i'=i/\c<=j/\j<c+n;·rw[iA i' j hr];obtain⟨rfl,h1,h2⟩:=hr;have:=(q1 (j - c) (by omega)).1;rwa [show o+i'*z+c+(j - c)=o+i'*z+j by omega] at this
   ·rw[iB i' j hr];obtain⟨g',o',hA,hcl,_⟩:=D2 i' j hi' hj;injection hA with hA
    injection hA with e1 e2
    injection e2 with e2
    subst e1;subst e2;refine h.ext.cell (λhs=>hr ?_) hcl;have:=mM _ (h.SD hi hs (ql _));have hj0:o+i'*z+j - (o+i*z)<z:=by omega
    have:=KC hj hj0 (show i'*z+j=i*z+(o+i'*z+j - (o+i*z)) by omega);exact⟨this.1,by omega,by omega⟩
  ·by_cases hr:i'=i/\c<=j/\j<c+n;·rw[iA i' j hr];obtain⟨a1,a2,a3⟩:=q3 (j - c) (by omega);exact⟨a1,hqs _ (by omega),a2,a3⟩
   ·rw[iB i' j hr];obtain⟨a1,a2,a3,a4⟩:=D3 i' j hi' hj;exact⟨a1,a2,a3,C.gy h.mono _ (C.eX h.ext (h.Z hi) _ (λb k hf hs=>nO i' j hi' hj hr b k hf (h.SD hi hs (nH i' j hi' hj b k hf))) a4)⟩
  ·rcases D4 rfl with ⟨hA,_⟩|⟨g',o',arr,t,fz,hA,hh,hsz,hfr⟩;·cases hA
   ·injection hA with hA
    injection hA with e1 e2
    injection e2 with e2
    subst e1;subst e2;have hg:g<w.heap.size:=(gb.1 hh).1;rcases h.ext.block g hg with e'|⟨a1,a2,t',k7,r1,r2,r3,r4⟩;·exact .inr ⟨g,o,arr,t,fz,rfl,e'.trans hh,hsz,λk hk hk'=>(h.ext.frozen hg).trans (hfr k hk hk')⟩
    ·rw[hh] at r1;injection r1 with r1
     injection r1 with s1 s2 s3
     subst s1;exact .inr ⟨g,o,a2,t',k7,rfl,r2,by omega,λk hk hk'=>(h.ext.frozen hg).trans (hfr k hk hk')⟩
  ·injection hA with hA
   injection hA with e1 e2
   subst e1;by_cases hr:i'=i/\c<=j/\j<c+n;·rw[iA i' j hr] at hf;have:=mM k (h.qD hi (nN _ (by omega) _ _ hf) (ql k));exact(q4 (j - c) (by omega) _ k hf).1 rfl ⟨rfl,this.1,this.2⟩
   ·rw[iB i' j hr] at hf;exact(D5 i' j hi' hj _ k hf).1 rfl o rfl
  ·by_cases hr:i'=i/\c<=j/\j<c+n
   ·rw[iA i' j hr] at hf;by_cases hr':i2=i/\c<=j2/\j2<c+n;·rw[iA i2 j2 hr'];exact(q4 (j - c) (by omega) b k hf).2 (j2 - c) (by omega) (λe=>hne (by simp only[jG];exact⟨by rw[hr.1,hr'.1],by omega⟩))
    ·rw[iB i2 j2 hr'];exact λhf'=>nO i2 j2 hi2 hj2 hr' b k hf' (h.qD hi (nN _ (by omega) _ _ hf) (nH i2 j2 hi2 hj2 b k hf'))
   ·rw[iB i' j hr] at hf;by_cases hr':i2=i/\c<=j2/\j2<c+n;·rw[iA i2 j2 hr'];exact λhf'=>nO i' j hi' hj hr b k hf (h.qD hi (nN _ (by omega) _ _ hf') (nH i' j hi' hj b k hf))
    ·rw[iB i2 j2 hr'];exact(D5 i' j hi' hj b k hf).2 i2 j2 hi2 hj2 hne
 obtain⟨G',i1,i2,i3⟩:=h.back hi (d0:=.row .own z (some (g,o,none)) len cap d) hok (.row ..) ⟨rfl,λh=>h,λh=>h,λh=>h,λ_ h=>h⟩ trivial (λb k hf=>by
   obtain⟨_,hf|⟨i',j,hi',hj,hf⟩⟩:=hf
   ·obtain⟨o',hA⟩:=hf;injection hA with hA
    injection hA with e1 e2
    subst e1;by_cases hr:o+i*z+c<=k/\k<o+i*z+c+n;·exact .inl ⟨rfl,.inl ⟨rfl,hr.1,hr.2⟩⟩
    ·exact .inr ⟨ql k,λhy=>hr (mM k hy)⟩
   ·by_cases hr:i'=i/\c<=j/\j<c+n;·rw[iA i' j hr] at hf;exact .inl (nN _ (by omega) _ _ hf)
    ·rw[iB i' j hr] at hf;exact .inr ⟨nH i' j hi' hj b k hf,nO i' j hi' hj hr b k hf⟩) (λb k hf hz=>by
   obtain⟨_,⟨o',hA⟩|⟨i',j,hi',hj,hf⟩⟩:=hf
   ·injection hA with hA
    injection hA with e1 e2
    subst e1;have:=mM k (h.zD hi hz (ql k));exact h.qz _ k ⟨rfl,.inl ⟨rfl,this.1,this.2⟩⟩ hz
   ·by_cases hr:i'=i/\c<=j/\j<c+n;·rw[iA i' j hr] at hf;exact h.qz b k (nN _ (by omega) _ _ hf) hz
    ·rw[iB i' j hr] at hf;exact nO i' j hi' hj hr b k hf (h.zD hi hz (nH i' j hi' hj b k hf)))
 have kD:(C.row .own z (some (g,o,none)) len cap d).er=.row .own z ((dD z len e).set i (((List.range z).map λj=>(e i j).er).take c++((List.range n).map λj=>(qf j).er)++((List.range z).map λj=>(e i j).er).drop (c+n))):=by
  rw[<-RU (λj=>(e i j).er) (λj=>(qf j).er) hn];simp only[C.er];congr 1;symm;refine C.BE _ _ len i _ λi' hi'=>?_;split;·rename_i hii;subst hii;refine cu λj _=>?_;show (if _ then _ else _:C).er=_;simp only[tn];split<;>rfl
  ·rename_i hii;refine cu λj _=>?_;show (if _ then _ else _:C).er=_;rw[az (λhh=>hii hh.1)]
 rw[kD] at i1;exact⟨G',i1,i2,i3⟩
end
end M
namespace M
open Go Go.RowKit
variable [Bs]
section
variable {P:Program}{c:Ctx}{G:Nat->C}{zl:Nat->Nat->Prop}{s:ag}{a:Act}{w:World}{o:Oper}{K:ag->Prop}
def Kt:∀{l':List Operand} {l:List (AV×PM)} {x:AV} {n:Nat},gJ l' l=true->dR l=some (x,n)->∃i x',l[i]?=some (x,PM.mut n)/\l'[i]?=some x'/\aK x' x=true/\(∀(j:Nat) (x2:AV) (n2:Nat),l[j]?=some (x2,PM.mut n2)->j=i)/\∀ps:List X,kL l ps=ps.getD i .dead
 |[],[],x,n,_,h=>by cases h
 |SP::l',(x0,pm)::l,x,n,hc,h=>by
  simp only[gJ,ax] at hc
  have other:dR l=some (x,n)->(∀n2,pm≠PM.mut n2)->(∀(y:X) ps,kL ((x0,pm)::l) (y::ps)=kL l ps)->(kL ((x0,pm)::l) []=.dead)->∃i x',((x0,pm)::l)[i]?=some (x,PM.mut n)/\(SP::l')[i]?=some x'/\aK x' x=true/\(∀(j:Nat) (x2:AV) (n2:Nat),((x0,pm)::l)[j]?=some (x2,PM.mut n2)->j=i)/\∀ps:List X,kL ((x0,pm)::l) ps=ps.getD i .dead:=λhm hpm h1 h2=>by
   obtain⟨i,x',i1,i2,i3,i4,i5⟩:=Kt hc.2 hm;refine⟨i+1,x',by simpa using i1,by simpa using i2,i3,λj x2 n2 hj=>?_,λps=>?_⟩
   ·cases j with
    |zero=>simp only[yJ,dr,jG] at hj;exact(hpm n2 hj.2).elim
    |succ j=>rw[i4 j x2 n2 (by simpa using hj)]
   ·cases ps with
    |nil=>rw[h2];rfl
    |cons y ps=>rw[h1,i5];rfl
  cases pm with
  |mv=>exact other h (λ_ e=>by cases e) (λ_ _=>rfl) rfl
  |af=>exact other h (λ_ e=>by cases e) (λ_ _=>rfl) rfl
  |gI m=>exact other h (λ_ e=>by cases e) (λ_ _=>rfl) rfl
  | «mut» m=>
   simp only[dR,dr,jG] at h;obtain⟨rfl,rfl⟩:=h;refine⟨0,SP,rfl,rfl,hc.1.1,λj x2 n2 hj=>?_,λps=>?_⟩
   ·cases j with
    |zero=>rfl
    |succ j=>
     exfalso;have hno:dR l=none:=by simpa using hc.1.2
     have:∀{l:List (AV×PM)} {i:Nat},l[i]?=some (x2,PM.mut n2)->dR l≠none:=by
      intro l;induction l with
      |nil=>intro i hi;simp at hi
      |cons p l ih=>
       intro i hi;obtain⟨y,pm⟩:=p;cases i with
       |zero=>simp only[yJ,dr,jG] at hi;obtain⟨_,rfl⟩:=hi;simp[dR]
       |succ i=>have:=ih (by simpa using hi);cases pm<;>simp[dR]<;>first|exact this|skip
     exact this (by simpa using hj) hno
   ·cases ps<;>rfl
 |[],_::_,_,_,hc,_=>by cases hc
 |_::_,[],_,_,hc,_=>by cases hc
def Ku(h:St c G zl s a w){l':List Operand}{as:List (AV×PM)}(hc:gJ l' as=true){x:AV}{n:Nat}(oH:dR as=some (x,n)){f:FuncId}{fv:Option AV}(hop:tF P c zl o a w l' f fv)(hn:∀n,o.dst=some n->n<c.nt)
  {ms:List C}{G1:Nat->C}{sm:ag}(hT:bN w zl c.zb G ms G1 sm)(g2:MV a l' as ms)(hmb:∀m∈ms,m.bare){r:Nat}{p:Path}{D y:C}(hsub:(G1 r).sub p=some D)(qt:y.ok w (Zf zl c.zb))(Eb:y.bare)(oK:∀(i:Nat) (x':Operand),as[i]?=some (x,PM.mut n)->l'[i]?=some x'->y.val=a.eval x')(I6:∀b k,y.fp b k->D.fp b k)
  (zK:rO (iJ r p .dead sm) fv f){back:X->(ag->Prop)->Prop}(hk:AC P f (gi (iJ r p .dead sm) y.er as (ms.map C.er)++oA (iJ r p .dead sm) fv) λq ps=>back (kL as ps) λs'=>K (fK o.dst q s'))
  (aar:∀{w':World} {aE:Nat->Nat->Prop} {S M:Nat->Nat->Prop} {q:C},eR w w' zl aE c.zb G1 r p D y q S M->∀Kx,back q.er Kx->∃s',Kx s'/\∃G',Inv w' aE c.zb G' s'/\(∀t,(G' t).val=(G1 t).val)/\∀t b k,(G' t).fp b k->q.fp b k\/((∃u,(G1 u).fp b k)/\¬y.fp b k)):rF P c o a w K false:=by
 obtain⟨p8,hrun,aav⟩:=hop.run;have h1:=Ge h hT;obtain⟨D',G2,t1,t2,t3,t4,t5,t6,t7,t8,t9,t10,t11,t12⟩:=h1.inv.vf r p D hsub;have h2:St c G2 zl (iJ r p .dead sm) a w:=h1.move t3 t10 (Ext.refl (λ_ _=>False) w) (λ_ _ hs=>hs.elim) (λt b k hf=>.inl ⟨t,t11 t b k hf⟩);have abw:∀b k,y.fp b k->∀t,¬(G2 t).fp b k:=λb k hf t=>t8 t b k ((t12 b k).2 (I6 b k hf));have Ea:∀b k,y.fp b k->(G1 r).fp b k:=λb k hf=>C.gC p hsub (hT.inv.ok r) (I6 b k hf);have jA:∀b k,c.zb b k->(c.zb b k\/∃t,(G2 t).fp b k):=λb k hz=>.inl hz;have sy:∀t b k,(G2 t).fp b k->(c.zb b k\/∃t,(G2 t).fp b k):=λt b k hf=>.inr ⟨t,hf⟩;obtain⟨l,l1,l2,l3⟩:=aav (bD:=λb k=>c.zb b k\/∃t,(G2 t).fp b k) h2 jA sy zK
 have PN:∀m b k,Zf zl c.zb m b k->Zf zl (λb k=>c.zb b k\/∃t,(G2 t).fp b k) m b k:=λm b k hz=>by
  cases m with
  |own=>exact hz
  |sl=>exact hz
  |af=>exact hz.imp id .inl
 obtain⟨i,x',i1,i2,i3,i4,i5⟩:=Kt hc oH;have PX:=oK i x' i1 i2
 obtain⟨cs,c1,c2,c3,c4⟩:=CT (bD:=λb k=>c.zb b k\/∃t,(G2 t).fp b k) h2 jA sy (y:=y) (C.gy PN _ qt) Eb hc g2 (λx hx=>⟨C.gy PN _ (hT.all x hx).1,hmb x hx,λb k hf hf'=>(hT.all x hx).2.1 r b k hf (Ea b k hf')⟩) hT.apart (λj x2 n2 x2' hj hj'=>by
  have:=i4 j x2 n2 hj;subst this;rw[i2] at hj';injection hj' with hj'
  rw[<-hj'];exact PX)
 have cg:∀x∈cs++l,∀b k,x.fp b k->(∃m∈ms,m.fp b k)\/y.fp b k:=λx hx b k hf=>by
  rcases fP.1 hx with hx|hx;·exact((c3 x hx).2.2 b k hf).imp id λhh=>hh.2
  ·exact((l3 x hx).cT b k hf).elim
 have kG:∀b k,(∃m∈ms,m.fp b k)->(∀t,¬(G1 t).fp b k)/\¬zl b k/\¬c.zb b k:=λb k ⟨m,hm,hf⟩=>⟨λt=>(hT.all m hm).2.1 t b k hf,(hT.all m hm).2.2.1 b k hf⟩
 have hA:nv w zl (λb k=>c.zb b k\/∃t,(G2 t).fp b k) (cs++l):={
  ok:=λx hx=>(fP.1 hx).elim (λhx=>(c3 x hx).1) λhx=>(l3 x hx).ok
  bare:=λx hx=>(fP.1 hx).elim (λhx=>(c3 x hx).2.1) λhx=>(l3 x hx).bare
  fz:=λx hx b k hf=>by
   rcases cg x hx b k hf with hm|hy;·obtain⟨a1,a2,a3⟩:=kG b k hm;exact⟨a2,λhz=>hz.elim a3 λ⟨t,ht⟩=>a1 t (t11 t b k ht)⟩
   ·have:=hT.inv.fz r b k (Ea b k hy);exact⟨this.1,λhz=>hz.elim this.2 λ⟨t,ht⟩=>abw b k hy t ht⟩
  cA:=λb k hz=>by
   rcases hz with hz|hz|⟨t,ht⟩;·exact hT.inv.cA b k (.inl hz)
   ·exact hT.inv.cA b k (.inr hz)
   ·exact C.fE _ (t3.ok t) b k ht
  apart:=vu.2 ⟨c4,rK λx hx=>(l3 x hx).cT,λx _ y hy b k _ hf=>(l3 y hy).cT b k hf⟩}
 have sg:=hk w zl _ (cs++l) (by rw[kg,c1,l1]) hA (h.Ig _ λb k hz=>.inl hz);have uw:(cs++l).map C.val=l'.map a.eval++p8:=by rw[kg,c2,l2]
 rw[uw] at sg;refine⟨f,_,hrun,sg.mono ?_⟩;rintro e w' ⟨r0,ps,aE,hD,hkk⟩;have nM:i<ps.length:=by have h1:=dw List.length hD.vals;have h2:=dw List.length uw;simp only[cW,fO] at h1 h2;have h3:=(aQ.1 i2).1;omega
 have hq:ps[i]?=some ps[i]:=cm nM;have PI:ps[i]∈ps:=cU nM
 have hqv:(ps[i]).val=y.val:=by
  have:(ps.map C.val)[i]?=(l'.map a.eval++p8)[i]?:=by rw[hD.vals,uw]
  rw[cS,hq,pQ (by simpa using (aQ.1 i2).1),cS,i2] at this;simp only[cC,dr] at this;rw[this,PX]
 have hmp:kL as (ps.map C.er)=(ps[i]).er:=by rw[i5];exact qj (by rw[cS,hq];rfl) _
 rw[hmp] at hkk;have D6:=cE r0 PI
 have Pd:eR w w' zl aE c.zb G1 r p D y ps[i] (λb k=>∃x∈cs++l,x.fp b k) (λb k=>∃m∈ms,m.fp b k):={
  sub:=hsub
  yD:=I6
  ext:=hD.ext
  sN:=λb k ⟨x,hx,hf⟩=>cg x hx b k hf
  xZ:=kG
  FT:=C.gy (λm b k hz=>by
   cases m with
   |own=>exact hz
   |sl=>exact hz
   |af=>exact hz.imp id λh=>h.elim) _ (hD.all.ok _ D6)
  bare:=hD.all.bare _ D6
  val:=hqv
  fp:=λb k hf=>hD.dom _ D6 b k hf
  qz:=λb k hf=>(hD.all.fz _ D6 b k hf).1
  z1:=hD.tu
  z2:=hD.tw
  cA:=λb k hz=>hD.all.cA b k (.inl hz)}
 obtain⟨s',hKs,G',j1,j2,j3⟩:=aar Pd _ hkk;have kH:∀b k,(∃m∈ms,m.fp b k)->∃t,(G t).fp b k:=λb k ⟨m,hm,hf⟩=>(hT.all m hm).2.2.2 b k hf
 have r7:∀b k,(∃x∈cs++l,x.fp b k)->∃t,(G t).fp b k:=λb k ⟨x,hx,hf⟩=>by
  rcases cg x hx b k hf with hm|hy;·exact kH b k hm
  ·exact⟨r,hT.mono r b k (Ea b k hy)⟩
 have h3:St c G' aE s' a w':=h.after j1 (λt=>(j2 t).trans (hT.val t)) hD.ext r7 (λt b k hf=>by
   rcases j3 t b k hf with hq|⟨⟨u,hu⟩,_⟩;·exact(Pd.fp b k hq).imp (r7 b k) id
   ·exact .inl ⟨u,hT.mono u b k hu⟩) hD.tu (λb k hz=>(hD.tw b k hz).imp id λhh=>hh.imp (r7 b k) id)
 have hrm:=bz (a:=r0) (l:=ps)
 obtain⟨G3,h4⟩:=h3.result (x:=r0) o.dst hn (hD.all.ok r0 hrm) (hD.all.bare r0 hrm) (λt b k hf hf'=>by
   rcases j3 t b k hf' with hq|⟨⟨u,hu⟩,hny⟩;·exact(eC.1 hD.all.apart).1 _ PI b k hf hq
   ·rcases hD.dom r0 hrm b k hf with ⟨x,hx,hf⟩|hb
    ·rcases cg x hx b k hf with hm|hy;·exact(kG b k hm).1 u hu
     ·exact hny hy
    ·have:=C.fE _ (hT.inv.ok u) b k hu;omega) (λb k hf=>⟨(hD.all.fz r0 hrm b k hf).1,λhz=>by
   rcases hD.dom r0 hrm b k hf with ⟨x,hx,hf⟩|hb
   ·rcases cg x hx b k hf with hm|hy;·exact(kG b k hm).2.2 hz
    ·exact(hT.inv.fz r b k (Ea b k hy)).2 hz
   ·have:=hT.inv.cA b k (.inr hz);omega⟩) (λb k hf=>by
   rcases hD.dom r0 hrm b k hf with hs|hb;·obtain⟨t,ht⟩:=r7 b k hs;exact h.tr.dom t b k ht
   ·exact .inr (mc h.tr.ext.size hb))
 exact⟨r0.val,hD.ends,(λh=>by cases h),G3,aE,_,hKs,h4⟩
end
end M
namespace M
open Go Go.RowKit
variable [Bs]
section
variable {P:Program}{c:Ctx}{G:Nat->C}{zl:Nat->Nat->Prop}{s:ag}{a:Act}{w:World}{o:Oper}{K:ag->Prop}
def HO{x:C}{m:Md}{xs:List X}(h:x.er=.ptr m xs):∃g o n f,x=.ptr m g o n f/\xs=(List.range n).map λj=>(f j).er:=by
 cases x with
 |ptr m' g o n f=>
  simp only[C.er] at h;injection h with h1 h2
  subst h1;exact⟨g,o,n,f,rfl,h2.symm⟩
 |_=>simp[C.er] at h
def aew{m m':Md}{z z' len len' cap cap':Nat}{A A':Option Ad}{e e':Nat->Nat->C}(h:(C.row m z A len cap e).val=(C.row m' z' A' len' cap' e').val):A=A'/\len=len'/\cap=cap':=by
 simp only[C.val] at h;injection h with h1 h2 h3
 refine⟨?_,h2,h3⟩;cases A with
 |none=>cases A' with
  |none=>rfl
  |some q=>simp at h1
 |some q=>cases A' with
  |none=>simp at h1
  |some q'=>
   simp only[cC,dr,Addr.mk.injEq,vE] at h1
   rw[show q=q' from Prod.ext h1.1 (Prod.ext h1.2.1 h1.2.2)]
def Q3(n:Nat)(f:Nat->C){k sz:Nat}(h:k+sz<=n):((List.range sz).map λj=>(f (j+k)).er)=(((List.range n).map λj=>(f j).er).drop k).take sz:=by rw[<-mh,pI,<-pU,<-pU,vz,oh (by omega),cH];rfl
def Ns(h:St c G zl s a w){l':List Operand}{as:List (AV×PM)}(hc:gJ l' as=true){x:AV}{n:Nat}(oH:dR as=some (x,n)){f:FuncId}{fv:Option AV}(hop:tF P c zl o a w l' f fv)(hn:∀n,o.dst=some n->n<c.nt)(hK:tS P f o.dst as fv s K):rF P c o a w K false:=by
 obtain⟨k1,k2⟩:=hK;rw[oH] at k2;simp only at k2;obtain⟨ms,G1,g1,g2,hT⟩:=FD hc h;have h1:=Ge h hT;rw[<-g1] at k1 k2;have hmb:∀m∈ms,m.bare:=λm hm=>(C.mq m).1 (C.vU.1 k1 _ (j8 hm));obtain⟨i,x',i1,i2,i3,i4,i5⟩:=Kt hc oH;obtain⟨u,u1,u2,u3⟩:=cx h1 i3;rw[<-u1] at k2
 have hval:∀y:C,y.val=u.val->∀(j:Nat) (x2:Operand),as[j]?=some (x,PM.mut n)->l'[j]?=some x2->y.val=a.eval x2:=λy hy j x2 hj hj'=>by
  have:=i4 j x n hj;subst this;rw[i2] at hj';injection hj' with hj'
  rw[hy,u2,hj']
 cases u with
 |ref v r p=>
  obtain⟨y',z',hs,hF,hv,m,z1,A,len,cap,e,rfl⟩:=u3.rf;cases hF with
  |row m m' sz' A len cap e e'=>
   simp only[C.er,placeOf,xS] at k2;split at k2
   ·rename_i z xs hlk;obtain⟨k2,k3,k4⟩:=k2;simp only[look] at hlk;rw[<-h1.inv.er,C.gB,hs] at hlk;simp only[cC,dr] at hlk;obtain⟨A2,alb,cap2,e2,he,rfl⟩:=zm hlk;injection he with b1 b2 b3 b4 b5 b6
    subst b1;subst b2;subst b3;subst b4;subst b5;subst b6;have hok:=C.gT p hs (h1.inv.ok r)
    refine Ku h hc oH hop hn hT g2 hmb hs (y:=.row .own z1 A len cap e') (back:=λy Kx=>match y with
     |.row .own z' ys=>z'=z1/\Kx (iq r p (.row .own z1 ys) (bW as s).2)
     |_=>False) hok trivial (hval _ hv) (λb k hf=>hf) k3 (by rw[hlk];exact k4) λ{w' aE S M q} hM Kx hb=>?_
    split at hb;·rename_i z' ys hq;obtain⟨rfl,hb⟩:=hb;obtain⟨A3,alc,ai5,e3,rfl,rfl⟩:=zm hq;obtain⟨c1,c2,c3⟩:=aew hM.val;subst c1;subst c2;subst c3;obtain⟨G',j1,j2,j3⟩:=hM.row h1.inv;exact⟨_,hb,G',j1,j2,j3⟩
    ·exact hb.elim
   ·exact k2.elim
 |ai v r p i k=>
  obtain⟨D,hs,hp⟩:=u3.rf;have hok:=C.gT p hs (h1.inv.ok r);simp only[C.er,placeOf,xS] at k2;have hlk:look (bW as s).2 r p=some D.er:=by simp only[look];rw[<-h1.inv.er,C.gB,hs];rfl
  rw[hlk] at k2;rcases hp with ⟨m,z,g,o',len,cap,e,rfl,rfl⟩|⟨m,g,o',nn,f',rfl,rfl,rfl⟩
  ·simp only[C.er] at k2;cases m with
   |own=>
    simp only[C.cX] at k2;split at k2
    ·rename_i e0 lp;split at lp
     ·rename_i hi;injection lp with lp
      obtain⟨k0,k2,k3,k4⟩:=k2;have hkn:k+n<=z:=by rw[<-lp] at k0;simpa using k0
      obtain⟨D1,D2,D3,D4,D5⟩:=hok;have Af:(C.ptr .own g (o'+i*z+k) n λj=>e i (j+k)).er=.ptr .own ((e0.drop k).take n):=by rw[<-lp,<-Q3 z (λj=>e i j) hkn];rfl
      have hfr:∀j,j<z->w.frozen? ⟨g,o'+i*z+j,none⟩=false/\g<w.heap.size:=λj hj=>by
       rcases D4 rfl with ⟨hA,_⟩|⟨g',o2,arr,t,fz,hA,hh,hsz,hfr⟩;·cases hA
       ·injection hA with hA
        injection hA with e1 e2
        injection e2 with e2
        subst e1;subst e2;refine⟨hfr _ (by omega) ?_,(gb.1 hh).1⟩;have:(i+1)*z<=cap*z:=ke _ (by omega);rw[fe] at this;omega
      have iC:g<w.heap.size:=by
       rcases D4 rfl with ⟨hA,_⟩|⟨g',o2,arr,t,fz,hA,hh,hsz,hfr⟩;·cases hA
       ·injection hA with hA
        injection hA with e1 e2
        subst e1;exact(gb.1 hh).1
      have qt:(C.ptr .own g (o'+i*z+k) n λj=>e i (j+k)).ok w (Zf zl c.zb):=by
       refine⟨λj hj=>⟨?_,λhm=>(hm rfl).elim,λ_=>?_⟩,iC,λj hj=>?_,λj hj b k' hf=>⟨λ_ hb=>?_,λj' hj' hne=>?_⟩⟩
       ·obtain⟨g',o2,hA,hcl,_⟩:=D2 i (j+k) hi (by omega);injection hA with hA
        injection hA with e1 e2
        injection e2 with e2
        subst e1;subst e2;rw[show o'+i*z+k+j=o'+i*z+(j+k) by omega];exact hcl
       ·rw[show o'+i*z+k+j=o'+i*z+(j+k) by omega];exact(hfr (j+k) (by omega)).1
       ·obtain⟨a1,a2,a3,a4⟩:=D3 i (j+k) hi (by omega);exact⟨a1,a3,a4⟩
       ·exact(D5 i (j+k) hi (by omega) b k' hf).1 rfl o' (by rw[hb.1])
       ·exact(D5 i (j+k) hi (by omega) b k' hf).2 i (j'+k) hi (by omega) (λe=>by simp only[jG] at e;omega)
      refine Ku h hc oH hop hn hT g2 hmb hs (back:=λy Kx=>match y with
       |.ptr .own ys=>ys.length=n/\gS ys=true/\Kx (iq r p (.row .own z ((dD z len e).set i (e0.take k++ys++e0.drop (k+n)))) (bW as s).2)
       |_=>False) qt ((C.mq _).1 (by rw[Af];exact k2)) (hval _ rfl) (λb k' hf=>?_) k3 (by rw[Af];exact k4) λ{w' aE S M q} hM Kx hb=>?_
      ·obtain⟨_,hf|⟨j,hj,hf⟩⟩:=hf;·exact⟨rfl,.inl ⟨o',by rw[hf.1]⟩⟩
       ·exact⟨rfl,.inr ⟨i,j+k,hi,by omega,hf⟩⟩
      ·split at hb
       ·rename_i ys hq;obtain⟨fk,fm,mI⟩:=hb;obtain⟨g3,o3,n3,f3,rfl,rfl⟩:=HO hq;have lB:=hM.val;simp only[C.val] at lB;injection lB with lB
        injection lB with lB
        injection lB with c1 c2 c3
        subst c1;subst c2;have IQ:n3=n:=by simpa using fk
        subst IQ;obtain⟨G',j1,j2,j3⟩:=hM.elem h1.inv hi hkn (λj hj=>RS (F2 fm _ (aT.2 ⟨j,by simpa using hj,rfl⟩)));rw[lp] at j1;exact⟨_,mI,G',j1,j2,j3⟩
       ·exact hb.elim
     ·cases lp
    ·exact k2.elim
   |sl=>exact k2.elim
   |af=>exact k2.elim
  ·simp only[C.er] at k2;cases m with
   |own=>
    obtain⟨k0,k2,k3,k4⟩:=k2;have hkn:k+n<=nn:=by simpa using k0
    obtain⟨D1,D2,D3,D4⟩:=hok;have Af:(C.ptr .own g (o'+k) n λj=>f' (j+k)).er=.ptr .own ((((List.range nn).map λj=>(f' j).er).drop k).take n):=by rw[<-Q3 nn f' hkn];rfl
    have qt:(C.ptr .own g (o'+k) n λj=>f' (j+k)).ok w (Zf zl c.zb):=by
     refine⟨λj hj=>⟨?_,λhm=>(hm rfl).elim,λ_=>?_⟩,D2,λj hj=>D3 (j+k) (by omega),λj hj b k' hf=>⟨λ_ hb=>?_,λj' hj' hne=>?_⟩⟩;·rw[show o'+k+j=o'+(j+k) by omega];exact(D1 (j+k) (by omega)).1
     ·rw[show o'+k+j=o'+(j+k) by omega];exact(D1 (j+k) (by omega)).2.2 rfl
     ·exact(D4 (j+k) (by omega) b k' hf).1 rfl ⟨hb.1,by omega,by omega⟩
     ·exact(D4 (j+k) (by omega) b k' hf).2 (j'+k) (by omega) (by omega)
    refine Ku h hc oH hop hn hT g2 hmb hs (back:=λy Kx=>match y with
     |.ptr .own ys=>ys.length=n/\Kx (iq r p (.ptr .own (((List.range nn).map λj=>(f' j).er).take k++ys++((List.range nn).map λj=>(f' j).er).drop (k+n))) (bW as s).2)
     |_=>False) qt ((C.mq _).1 (by rw[Af];exact k2)) (hval _ rfl) (λb k' hf=>?_) k3 (by rw[Af];exact k4) λ{w' aE S M q} hM Kx hb=>?_
    ·obtain⟨_,hf|⟨j,hj,hf⟩⟩:=hf;·exact⟨rfl,.inl ⟨hf.1,by omega,by omega⟩⟩
     ·exact⟨rfl,.inr ⟨j+k,by omega,hf⟩⟩
    ·split at hb
     ·rename_i ys hq;obtain⟨fk,mI⟩:=hb;obtain⟨g3,o3,n3,f3,rfl,rfl⟩:=HO hq;have lB:=hM.val;simp only[C.val] at lB;injection lB with lB
      injection lB with lB
      injection lB with c1 c2 c3
      subst c1;subst c2;have IQ:n3=n:=by simpa using fk
      subst IQ;obtain⟨G',j1,j2,j3⟩:=hM.ptr h1.inv hkn;exact⟨_,mI,G',j1,j2,j3⟩
     ·exact hb.elim
   |sl=>exact k2.elim
   |af=>exact k2.elim
 |_=>exact k2.elim
def H7{f:FuncId}(h:aC P f=true):∃fn,P.funcs[f]?=some fn/\(fn.name== "runtime.NumGoroutine")=false/\fn.body.isNone=false:=by
 unfold aC at h;split at h;·rename_i fn hf;simp only[ax,ru] at h;exact⟨fn,hf,h.1,h.2⟩
 ·cases h
def adq(h:St c G zl s a w){f:FuncId}{fn:Func}{as':Array Operand}{as:List (AV×PM)}{ts:Array TypeId}(ho:o.op=.call {callee:=.value (.func f),args:=as',argTypes:=ts})(hf:P.funcs[f]?=some fn)(hname:(fn.name== "runtime.NumGoroutine")=false) (hb:fn.body.isNone=false)
  (hn:∀n,o.dst=some n->n<c.nt) (hc:gJ as'.toList as=true) (hK:aM P (.call o.dst f as) s K):rF P c o a w K (jc as):=by
 have hop:tF P c zl o a w as'.toList f none:=⟨[],by simp only[execOp,ho,resolve,Act.eval,Deferred.ofValue,Sem.run_bind,Sem.run_pure,Result.andThen_ok,invoke,KQ hf hname hb];congr 2;apply pO;simp,λ_ _ _ _=>⟨[],rfl,rfl,λ_ hx=>(by cases hx)⟩⟩
 cases hm:dR as with
 |none=>exact Nt _ h hc hm hop (λh=>h) hn hK
 |some q=>
  have hq:jc as=false:=by
   cases hq:jc as with
   |false=>rfl
   |true=>rw[xT hq] at hm;cases hm
  rw[hq];exact Ns h hc hm hop hn hK
def adt(h:St c G zl s a w){x:AV}{x':Operand}{as':Array Operand}{as:List (AV×PM)}{ts:Array TypeId}(ho:o.op=.call {callee:=.value x',args:=as',argTypes:=ts})(hx:aK x' x=true)
  (hn:∀n,o.dst=some n->n<c.nt)(hc:gJ as'.toList as=true)(hK:aM P (.jq o.dst x as) s K):rF P c o a w K (jc as):=by
 simp only[aM] at hK;split at hK
 ·rename_i f cs he;obtain⟨hf,hK⟩:=hK;obtain⟨fn,hf1,ig,hf3⟩:=H7 hf;obtain⟨p,p1,p2,p3⟩:=cx h hx;rw[he] at p1;cases p with
  |fn g n fc=>
   simp only[C.er,X.fn.injEq] at p1;obtain⟨rfl,p1⟩:=p1
   have hop:tF P c zl o a w as'.toList g (some x):=⟨(List.range n).map λj=>(fc j).val,by
    simp only[execOp,ho,resolve,<-p2,C.val,Deferred.ofValue,Sem.run_bind,Sem.run_pure,Result.andThen_ok,invoke,KQ hf1 ig hf3];congr 2;apply pO;simp,λ{G2 s2 bD} h2 hb hG hi=>by
    simp only[rO] at hi;split at hi;·rename_i g' cs' he';subst hi;obtain⟨l,l1,l2,l3⟩:=WE h2 hb hG hx he';refine⟨l,l1,?_,l3⟩;rw[<-p2] at l2;simp only[C.val,Value.func.injEq,tn] at l2;exact(Array.mk.injEq _ _▸l2:_).symm
    ·exact hi.elim⟩
   cases hm:dR as with
   |none=>exact Nt _ h hc hm hop (λh=>h) hn hK
   |some q=>
    have hq:jc as=false:=by
     cases hq:jc as with
     |false=>rfl
     |true=>rw[xT hq] at hm;cases hm
    rw[hq];exact Ns h hc hm hop hn hK
  |_=>simp[C.er] at p1
 ·exact hK.elim
end
end M
namespace M
open Go Go.RowKit
variable [Bs]
section
variable {P:Program}{c:Ctx}{G:Nat->C}{zl:Nat->Nat->Prop}{s:ag}{a:Act}{w:World}{o:Oper}{K:ag->Prop}
def ae1{x:C}(hc:x.cell)(hs:M.cK x.er=true):x.plain:=by cases x<;>first|trivial|exact hc|(simp[C.er,M.cK] at hs)
def adX{x:C}(h:x.plain):x.bare:=by cases x<;>first|trivial|exact h.elim
def aeZ{l:List X}(h:gS l=true):∀x∈l,M.cK x=true:=by
 induction l with
 |nil=>intro x hx;cases hx
 |cons a l ih=>
  simp only[gS,ax] at h;intro x hx;rcases bO.1 hx with rfl|hx;·exact h.1
  ·exact ih h.2 x hx
def GJ:∀{l':List Operand} {l:List (AV×PM)},gJ l' l=true->jc l=true->MV a l' l (l.map λ_=>.dead undef)
 |[],[],_,_=>trivial
 |x'::l',(x,.af)::l,hc,hq=>GJ (l':=l') (l:=l) (by simp only[gJ,ax] at hc;exact hc.2) hq
 |x'::l',(x,.gI n)::l,hc,hq=>GJ (l':=l') (l:=l) (by simp only[gJ,ax] at hc;exact hc.2) hq
 |x'::l',(x,.mv)::l,hc,hq=>by cases hq
 |x'::l',(x,.mut _)::l,hc,hq=>by cases hq
 |[],_::_,hc,_=>by cases hc
 |_::_,[],hc,_=>by cases hc
def WD(h:St c G zl s a w){x':Operand}{l':List Operand}{x:AV}{as:List (AV×PM)}(hx:aK x' x=true)(hc:gJ l' as=true)(hq:jc as=true){f:FuncId}(hop:tF P c zl o a w (x'::l') f none)(hn:∀n,o.dst=some n->n<c.nt)(hK:aM P (.rM o.dst f x as) s K):rF P c o a w K false:=by
 obtain⟨p,p1,p2,p3⟩:=cx h hx;simp only[aM] at hK;rw[<-p1] at hK;cases p with
 |agg n f0=>
  have per:(C.agg n f0).er=.agg (((List.range n).map f0).map C.er):=by simp only[C.er,cH];rfl
  rw[per] at hK;simp only at hK;obtain⟨k1,k3⟩:=hK
  have hcells:∀c'∈(List.range n).map f0,yQ w zl c.zb G c':=λc' jT=>by
   obtain⟨j,hj,rfl⟩:=aT.1 jT;have hj':j<n:=by simpa using hj
   exact⟨(p3.ok.1 j hj').1,(p3.ok.1 j hj').2,λb k hf=>p3.cT b k ⟨j,hj',hf⟩,λv r p e=>Cj (by rw[<-e];exact p3.rf j hj')⟩
  obtain⟨l0,G1,e1,e2,e3,e4,e5⟩:=Ce _ G s h.inv hcells;obtain⟨p8,hrun,zK⟩:=hop.run;have h1:=Ge h e4;rw[<-e1] at k1 k3;have jA:∀b k,c.zb b k->(c.zb b k\/∃t,(G1 t).fp b k):=λb k hz=>.inl hz;have sy:∀t b k,(G1 t).fp b k->(c.zb b k\/∃t,(G1 t).fp b k):=λt b k hf=>.inr ⟨t,hf⟩;obtain⟨l,q1,q2,q3⟩:=zK h1 jA sy trivial;have hl0:l=[]:=by simpa [oA] using q1
  subst hl0;have hcap:p8=[]:=by simpa using q2.symm
  subst hcap
  obtain⟨ze,r1,r2,r3,r4⟩:=CT h1 jA sy (y:=.dead undef) trivial trivial hc (GJ hc hq) (λx hx=>by
   obtain⟨_,_,rfl⟩:=aT.1 hx;exact⟨trivial,trivial,λb k hf=>hf.elim⟩) (rK λx hx=>by
   obtain⟨_,_,rfl⟩:=aT.1 hx
   exact λb k hf=>hf) (λi x n x' hi _=>by
    exfalso;have hno:=xT hq
    have:∀{l:List (AV×PM)} {i:Nat},l[i]?=some (x,PM.mut n)->dR l≠none:=by
     intro l;induction l with
     |nil=>intro i hi;simp at hi
     |cons y l ih=>
      intro i hi;obtain⟨y,pm⟩:=y;cases i with
      |zero=>simp only[yJ,dr,jG] at hi;obtain⟨_,rfl⟩:=hi;simp[dR]
      |succ i=>have:=ih (by simpa using hi);cases pm<;>simp[dR]<;>first|exact this|skip
    exact this hi hno)
  have DW:∀x∈ze,∀b k,¬x.fp b k:=λx hx b k hf=>by
   rcases(r3 x hx).2.2 b k hf with ⟨m,hm,hh⟩|⟨hh,_⟩;·obtain⟨_,_,rfl⟩:=aT.1 hm;exact hh
   ·rw[xT hq] at hh;cases hh
  have oJ:l0.length=n:=by have:=dw List.length e2;simpa using this
  have PW:∀b k,(gF l0).fp b k->∃m∈l0,m.fp b k:=λb k hf=>(rI _ _ _).1 hf
  have hpl:∀x∈l0,x.ok w (Zf zl λb k=>c.zb b k\/∃t,(G1 t).fp b k):=λx hx=>C.gy (λm b k hz=>by
   cases m with
   |own=>exact hz
   |sl=>exact hz
   |af=>exact hz.imp id .inl) _ (e4.all x hx).1
  have hA:nv w zl (λb k=>c.zb b k\/∃t,(G1 t).fp b k) (gF l0::ze):={
   ok:=λx hx=>by
    rcases bO.1 hx with rfl|hx;·exact⟨λj hj=>⟨C.lK (e3 _ (cP hj _)),hpl _ (cP hj _)⟩,λj hj b k hf j' hj' hne=>x8 e4.apart _ hj hj' hne hf⟩
    ·exact(r3 x hx).1
   bare:=λx hx=>by
    rcases bO.1 hx with rfl|hx;·exact λj hj=>adX (e3 _ (cP hj (C.dead undef)))
    ·exact(r3 x hx).2.1
   fz:=λx hx b k hf=>by
    rcases bO.1 hx with rfl|hx;·obtain⟨m,hm,hf⟩:=PW b k hf;exact⟨((e4.all m hm).2.2.1 b k hf).1,λhz=>hz.elim ((e4.all m hm).2.2.1 b k hf).2 λ⟨t,ht⟩=>(e4.all m hm).2.1 t b k hf ht⟩
    ·exact(DW x hx b k hf).elim
   cA:=λb k hz=>by
    rcases hz with hz|hz|⟨t,ht⟩;·exact e4.inv.cA b k (.inl hz)
    ·exact e4.inv.cA b k (.inr hz)
    ·exact C.fE _ (e4.inv.ok t) b k ht
   apart:=eC.2 ⟨λx hx b k _ hf=>DW x hx b k hf,rK DW⟩}
  have sg:=k3 w zl _ (gF l0::ze) (by rw[bq,r1,vO];simp only[cH];rfl) hA (h1.Ig _ λb k hz=>.inl hz)
  have PY:(gF l0).val=a.eval x':=by rw[yR,e2,<-p2];simp only[C.val,cH];rfl
  have uw:(gF l0::ze).map C.val=(x'::l').map a.eval++[]:=by rw[bq,PY,r2];simp
  rw[uw] at sg;refine⟨f,_,hrun,sg.mono ?_⟩;rintro e w' ⟨r,ps,aE,hD,hk⟩;have hin:∀b k,aE b k->b<w'.heap.size:=λb k hz=>hD.all.cA b k (.inl hz);have kG:∀b k,(∃m∈l0,m.fp b k)->(∀t,¬(G1 t).fp b k)/\¬zl b k/\¬c.zb b k:=λb k ⟨m,hm,hf⟩=>⟨λt=>(e4.all m hm).2.1 t b k hf,(e4.all m hm).2.2.1 b k hf⟩
  have k9:∀b k,(∃x∈gF l0::ze,x.fp b k)->∃m∈l0,m.fp b k:=λb k ⟨x,hx,hf⟩=>by
   rcases bO.1 hx with rfl|hx;·exact PW b k hf
   ·exact(DW x hx b k hf).elim
  have Ah:∀b k,aE b k->zl b k\/(∃m∈l0,m.fp b k)\/w.heap.size<=b:=λb k hz=>(hD.tw b k hz).imp id λhh=>hh.imp (k9 b k) id
  have hi:=e4.inv.MJ hD.ext (λb k hs=>kG b k (k9 b k hs)) hD.tu (λb k hz=>⟨hin b k hz,λt hf=>by
   rcases Ah b k hz with hz|hm|hb;·exact(e4.inv.fz t b k hf).1 hz
   ·exact(kG b k hm).1 t hf
   ·have:=C.fE _ (e4.inv.ok t) b k hf;omega⟩)
  have kH:∀b k,(∃m∈l0,m.fp b k)->∃t,(G t).fp b k:=λb k ⟨m,hm,hf⟩=>(e4.all m hm).2.2.2 b k hf;have D0:∀x∈r::ps,∀b k,x.fp b k->(∃m∈l0,m.fp b k)\/w.heap.size<=b:=λx hx b k hf=>(hD.dom x hx b k hf).imp (k9 b k) id
  have PE:∀x∈r::ps,∀t b k,x.fp b k->¬(G1 t).fp b k:=λx hx t b k hf hf'=>by
   rcases D0 x hx b k hf with hm|hb;·exact(kG b k hm).1 t hf'
   ·have:=C.fE _ (e4.inv.ok t) b k hf';omega
  have PG:∀x∈r::ps,∀b k,x.fp b k->¬aE b k/\¬c.zb b k:=λx hx b k hf=>⟨(hD.all.fz x hx b k hf).1,λhz=>by
   rcases D0 x hx b k hf with hm|hb;·exact(kG b k hm).2.2 hz
   ·have:=e4.inv.cA b k (.inr hz);omega⟩
  cases ps with
  |nil=>exact hk.elim
  |cons p0 ps=>
   cases p0 with
   |agg n0 g0=>
    simp only[bq,C.er] at hk;obtain⟨j1,s',j2,j3⟩:=hk;have DZ:(C.agg n0 g0)∈r::C.agg n0 g0::ps:=cE _ (bz ..);have hv0:(C.agg n0 g0).val=(C.agg n f0).val:=by have:=dw List.head? hD.vals;simp only[bq,List.head?_cons,dr] at this;rw[this,PY,p2]
    simp only[C.val,Value.agg.injEq,Array.mk.injEq,List.toArray_inj] at hv0;have kI:n0=n:=by have:=dw List.length hv0;simpa using this
    subst kI;have IX:=hD.all.ok _ DZ;have DS:∀y∈(List.range n0).map g0,∀b k,y.fp b k->(C.agg n0 g0).fp b k:=λy hy b k hf=>by obtain⟨j,hj,rfl⟩:=aT.1 hy;exact⟨j,by simpa using hj,hf⟩
    rw[show ((List.range n0).map λj=>(g0 j).er)=((List.range n0).map g0).map C.er by simp only[cH];rfl] at j1 j2
    obtain⟨G2,g1,g2,g3⟩:=CX ((List.range n0).map f0) ((List.range n0).map g0) hi (by simp) (λv r p hm=>e5 v r p ((hcells _ hm).weak v r p rfl)) (λi cc y hi1 hi2=>by
     have hy:y∈(List.range n0).map g0:=ri hi2;obtain⟨j,hj,rfl⟩:=aT.1 hy;have hj':j<n0:=by simpa using hj
     refine⟨ae1 (IX.1 j hj').1 (aeZ j1 _ (j8 hy)),?_,C.gy (λm b k hz=>by
      cases m with
      |own=>exact hz
      |sl=>exact hz
      |af=>exact hz.imp id λh=>h.elim) _ (IX.1 j hj').2⟩
     have:=dw (λt:List Value=>t[i]?) hv0;rw[show ((List.range n0).map λj=>(g0 j).val)=((List.range n0).map g0).map C.val by simp only[cH];rfl,show ((List.range n0).map λj=>(f0 j).val)=((List.range n0).map f0).map C.val by simp only[cH];rfl,cS (l:=(List.range n0).map g0),cS (l:=(List.range n0).map f0),hi1,hi2] at this;simpa using this) (λy hy=>⟨λt b k hf=>PE _ DZ t b k (DS y hy b k hf),λb k hf=>PG _ DZ b k (DS y hy b k hf)⟩) (by
     rw[Cx];refine GB ?_ List.nodup_range;intro i j hi hj hne b k hf;exact IX.2 i (by simpa using hi) b k hf j (by simpa using hj) hne) j2
    have Ae:∀b k,(∃y∈(List.range n0).map g0,y.fp b k)->(∃m∈l0,m.fp b k)\/w.heap.size<=b:=λb k ⟨y,hy,hf⟩=>D0 _ DZ b k (DS y hy b k hf)
    have h2:St c G2 aE s' a w':=h.after g1 (λt=>(g2 t).trans (e4.val t)) hD.ext (λb k hs=>kH b k (k9 b k hs)) (λt b k hf=>by
     rcases g3 t b k hf with hh|hh;·exact .inl ⟨t,e4.mono t b k hh⟩
     ·exact(Ae b k hh).imp (kH b k) id) hD.tu (λb k hz=>(Ah b k hz).imp id λhh=>hh.imp (kH b k) id)
    have hr:r∈r::C.agg n0 g0::ps:=bz ..
    obtain⟨G3,h3⟩:=h2.result (x:=r) o.dst hn (hD.all.ok r hr) (hD.all.bare r hr) (λt b k hf hf'=>by
      rcases g3 t b k hf' with hh|⟨y,hy,hh⟩;·exact PE r hr t b k hf hh
      ·exact(eC.1 hD.all.apart).1 _ (bz ..) b k hf (DS y hy b k hh)) (PG r hr) (λb k hf=>by
      rcases D0 r hr b k hf with hm|hb;·obtain⟨t,ht⟩:=kH b k hm;exact h.tr.dom t b k ht
      ·exact .inr (mc h.tr.ext.size hb))
    exact⟨r.val,hD.ends,λI0=>by (cases I0),G3,aE,_,j3,h3⟩
   |_=>exact hk.elim
 |_=>exact hK.elim
def ads(h:St c G zl s a w){f:FuncId}{fn:Func}{as':Array Operand}{x:AV}{x':Operand}{l':List Operand}{as:List (AV×PM)}{ts:Array TypeId}(ho:o.op=.call {callee:=.value (.func f),args:=as',argTypes:=ts})(hl:as'.toList=x'::l')(hf:P.funcs[f]?=some fn)(hname:(fn.name== "runtime.NumGoroutine")=false) (hb:fn.body.isNone=false)
  (hn:∀n,o.dst=some n->n<c.nt) (hx:aK x' x=true) (hc:gJ l' as=true) (hq:jc as=true) (hK:aM P (.rM o.dst f x as) s K):rF P c o a w K false:=by
 have hop:tF P c zl o a w (x'::l') f none:=⟨[],by simp only[execOp,ho,resolve,Act.eval,Deferred.ofValue,Sem.run_bind,Sem.run_pure,Result.andThen_ok,invoke,KQ hf hname hb];rw[<-hl];congr 2;apply pO;simp,λ_ _ _ _=>⟨[],rfl,rfl,λ_ hx=>(by cases hx)⟩⟩
 exact WD h hx hc hq hop hn hK
end
end M
namespace M
open Go Go.RowKit
variable [Bs]
section
variable {P:Program}{ops:Array Oper}{Q:Exit->Act->World->Prop}
def wpAnyQ(P:Program)(ops:Array Oper)(quiet:Nat->Bool)(Q:Exit->Act->World->Prop):Nat->Array Bool->Act->World->Prop
 |0,listed,a,w=>Region.ready .any ops listed=[]/\Q .normal a w
 |fuel+1,listed,a,w=>(Region.ready .any ops listed=[]->Q .normal a w)/\
  ∀i∈Region.ready .any ops listed,wpOp P ops Q i (λa' w'=>Rel (quiet i) w w'/\wpAnyQ P ops quiet Q fuel (listed.setIfInBounds i true) a' w') a w
def wpAnyQ.any{quiet:Nat->Bool}:∀{fuel:Nat} {listed:Array Bool} {a:Act} {w:World},wpAnyQ P ops quiet Q fuel listed a w->wpAny P .any ops Q fuel listed a w
 |0,_,_,_,h=>h
 |fuel+1,_,_,_,h=>⟨h.1,λi hi=>wpOp_mono (λ_ _ h=>h.2.any) (h.2 i hi)⟩
def ow(P:Program)(ops:Array Oper)(o:Oper)(v:Value)(a:Act)(w:World):Prop:=
 (Region.wanted o (yielded ops a.tmps)=true/\∀w',Ext (λ_ _=>False) w w'->(execOp a.eval o).run P w'=.ok (.value v) w')\/
 (Region.wanted o (yielded ops a.tmps)=false/\v=undef)
def ow.wpOp{i:Nat}{o:Oper}{v:Value}{a:Act}{w:World}(hi:ops[i]?=some o)(hy:ow P ops o v a w){K:Act->World->Prop}(h:K (a.put o.dst v) w):wpOp P ops Q i K a w:=by
 unfold Go.wpOp;simp only[hi];rcases hy with ⟨hw,hv⟩|⟨hw,rfl⟩;·simp only[hw,eL,Oper.wp,hv w (Ext.refl _ _),Oper.upon];exact .inl h
 ·simp only[hw,iw,gW];exact h
def rE(P:Program)(ops:Array Oper)(o:Oper)(v:Value)(a:Act):Prop:=
 (Region.wanted o (yielded ops a.tmps)=true/\∀w',(execOp a.eval o).run P w'=.ok (.value v) w')\/
 (Region.wanted o (yielded ops a.tmps)=false/\v=undef)
def rE.later{o:Oper}{v:Value}{a:Act}(h:rE P ops o v a)(w:World):ow P ops o v a w:=h.imp (λh=>⟨h.1,λw' _=>h.2 w'⟩) id
def CO(ops:Array Oper)(o:Oper)(a a':Act):Prop:=execOp a'.eval o=execOp a.eval o/\Region.wanted o (yielded ops a'.tmps)=Region.wanted o (yielded ops a.tmps)
def ow.same{o:Oper}{v:Value}{a a':Act}{w w':World}(hy:ow P ops o v a w)(h:CO ops o a a')(hE:Ext (λ_ _=>False) w w'):ow P ops o v a' w':=by unfold ow;rw[h.1,h.2];exact hy.imp (λhh=>⟨hh.1,λw2 h2=>hh.2 w2 (hE.trans h2 λ_ _ h _=>h)⟩) id
def rE.same{o:Oper}{v:Value}{a a':Act}(hy:rE P ops o v a)(h:CO ops o a a'):rE P ops o v a':=by unfold rE;rw[h.1,h.2];exact hy
def SO{j:Nat}{oi oj:Oper}{v:Value}(hj:ops[j]?=some oj)(hap:oi.apart ops oj=true)(hsi:∀cs b,oi.op≠.select cs b)(hsj:∀cs b,oj.op≠.select cs b)
  (hQ:∀c a w,Q (.panic c) (a.put oi.dst v) w->Q (.panic c) a w){K:Act->World->Prop}{a:Act}{w:World}(h:wpOp P ops Q j K (a.put oi.dst v) w):
  wpOp P ops Q j (λa' w'=>CO ops oi a a'/\K (a'.put oi.dst v) w') a w:=by
 obtain⟨h1,h2,h3⟩:=Oper.apart_spec hap;have keep:∀u,CO ops oi a (a.put oj.dst u):=λu=>⟨execOp_put oi hsi a oj.dst u h3,wanted_put oi a oj.dst u h3⟩;have put:∀u,(a.put oj.dst u).put oi.dst v=(a.put oi.dst v).put oj.dst u:=λu=>(Act.put_comm a v u h2).symm;unfold Go.wpOp at*;simp only[hj] at*;rw[wanted_put oj a oi.dst v h1] at h;by_cases hw:Region.wanted oj (yielded ops a.tmps)=true
 ·rw[aq hw] at h⊢;have mJ:execOp (a.put oi.dst v).eval oj=execOp a.eval oj:=execOp_put oj hsj a oi.dst v h1;refine h.imp (λh=>?_) λh=>⟨?_,h.2⟩
  ·unfold Oper.wp at*;rw[mJ] at h;generalize (execOp a.eval oj).run P w=r at h⊢;match r,h with
   |.ok (.value u) w',h=>exact⟨keep u,by rw[put];exact h⟩
   |.ok .skip w',h=>exact⟨keep _,by rw[put];exact h⟩
   |.ok (.defer d) w',h=>
    refine⟨by have k:=keep undef;unfold Act.put at*;cases hd:oj.dst<;>rw[hd] at k<;>exact⟨k.1,k.2⟩,?_⟩
    have h':K (({a.put oi.dst v with defers:=d::(a.put oi.dst v).defers}:Act).put oj.dst undef) w':=h;rw[Act.put_defers,Act.put_comm _ v undef h2] at h';exact h'
   |.ok (.enter f args) w',h=>
    refine Calls.mono h λe w'' he=>?_;match e,he with
    |.returned u,he=>exact⟨keep u,by rw[put];exact he⟩
    |.panicked c,he=>exact hQ _ _ _ he
    |.outgrown,he=>exact he
   |.ok (.row row args) w',h=>exact Rows.mono h λu w'' he=>⟨keep u,by rw[put];exact he⟩
   |.halt (.panic u) w',h=>exact hQ _ _ _ h
  ·have:=h.1;unfold Oper.asks at this⊢;rwa [mJ] at this
 ·rw[az hw] at h⊢;exact⟨keep _,by rw[put];exact h⟩
def Down(ops:Array Oper)(listed:Array Bool):Prop:=∀k ok,ops[k]?=some ok->listed.getD k false=true->∀e∈ok.after,Region.binds .any e=true->listed.getD e.on false=true
def wk(ops : Array Oper)(t : Nat -> Nat -> Bool) : Bool := (List.range ops.size).all λj => (List.range ops.size).all λi => !t j i || (match ops[j]? with
 |some oj=>oj.after.any λe=>Region.binds .any e && (e.on==i||(decide (e.on<j) && t e.on i))
 |none=>false)
def KI{t:Nat->Nat->Bool}(jT:wk ops t=true){listed:Array Bool}(hd:Down ops listed){i:Nat}(hi:listed.getD i false=false):∀(n j:Nat),j<n->j<ops.size->i<ops.size->(∀oj,ops[j]?=some oj->∀e∈oj.after,Region.binds .any e=true->listed.getD e.on false=true)->t j i=false
 |0,j,hj,_,_,_=>by omega
 |n+1,j,hj,DU,Py,hall=>by
  cases ht:t j i with
  |false=>rfl
  |true=>
   exfalso;have hc:=jT;simp only[wk,rz,oc] at hc;have h1:=hc j DU i Py;rw[ht] at h1;simp only[Bool.not_true,Bool.false_or] at h1;split at h1
   ·rename_i oj gu;obtain⟨e,he,hb⟩:=Array.any_eq_true'.1 h1;simp only[ax,ry,ei,bx] at hb;have hl:=hall oj gu e he hb.1;rcases hb.2 with h2|⟨h2,h3⟩;·rw[h2,hi] at hl;cases hl
    ·have:=KI jT hd hi n e.on (by omega) (by omega) Py (λoe hoe e' he' hb'=>hd e.on oe hoe hl e' he' hb');rw[this] at h3;cases h3
   ·cases h1
def Down.set{listed:Array Bool}(h:Down ops listed){j:Nat}{oj:Oper}(hj:ops[j]?=some oj)(hall:∀e∈oj.after,Region.binds .any e=true->listed.getD e.on false=true):Down ops (listed.setIfInBounds j true):=by
 intro k ok hk hl e he hb;by_cases hjk:j=k
 ·subst hjk;rw[hj] at hk;injection hk with hk
  subst hk;exact getD_set_true (hall e he hb)
 ·rw[getD_set_ne false hjk] at hl;exact getD_set_true (h k ok hk hl e he hb)
def wpAnyQ_first{quiet:Nat->Bool}{i:Nat}{oi:Oper}{v:Value}(hi:ops[i]?=some oi)(hsel:∀(j:Nat) (o:Oper) cs b,ops[j]?=some o->o.op≠.select cs b)(hQ:∀c a w,Q (.panic c) (a.put oi.dst v) w->Q (.panic c) a w){t:Nat->Nat->Bool}(ij:wk ops t=true):
  ∀(fuel:Nat) (listed:Array Bool) (a:Act) (w:World),
   Down ops listed->(∀j oj,ops[j]?=some oj->j≠i->listed.getD j true=false->t j i=false->oi.apart ops oj=true/\quiet j=true)->
   i∈Region.ready .any ops listed->ow P ops oi v a w->
   wpAnyQ P ops quiet Q fuel (listed.setIfInBounds i true) (a.put oi.dst v) w->wpAnyQ P ops quiet Q (fuel+1) listed a w:=by
 intro fuel;induction fuel with
 |zero=>
  intro listed a w _ _ hr hy H;refine⟨λh=>(by rw[h] at hr;cases hr),λj hj=>?_⟩;by_cases hji:j=i;·subst hji;exact hy.wpOp hi ⟨Rel.refl _ _,H⟩
  ·have:=ready_mono hj hji;rw[H.1] at this;cases this
 |succ fuel ih=>
  intro listed a w zM hfree hr hy H;refine⟨λh=>(by rw[h] at hr;cases hr),λj hj=>?_⟩;by_cases hji:j=i;·subst hji;exact hy.wpOp hi ⟨Rel.refl _ _,H⟩
  ·have h1:=H.2 j (ready_mono hj hji);obtain⟨zT,oj,gu,hall⟩:=mem_ready.1 hj
   have hi0:listed.getD i false=false:=by
    have h0:=(mem_ready.1 hr).1;rcases fN i listed.size with h'|h';·simpa [h'] using h0
    ·simp[jH h']
   have hnot:t j i=false:=KI ij zM hi0 (j+1) j (by omega) (gb.1 gu).1 (gb.1 hi).1 (λoj' qq e he hb=>by
    rw[gu] at qq;injection qq with qq
    rw[<-qq] at he;exact hall e he hb)
   obtain⟨hap,hqu⟩:=hfree j oj gu hji zT hnot;have h2:=SO gu hap (λcs b=>hsel i oi cs b hi) (λcs b=>hsel j oj cs b gu) hQ h1
   have IC:∀k ok,ops[k]?=some ok->k≠i->(listed.setIfInBounds j true).getD k true=false->
     t k i=false->oi.apart ops ok=true/\quiet k=true:=λk ok hk hki hun hno=>by
    refine hfree k ok hk hki ?_ hno;by_cases hjk:j=k;·subst hjk;exact zT
    ·rw[getD_set_ne true hjk] at hun;exact hun
   refine wpOp_mono (λa' w' ⟨hsame,hrel,h3⟩=>⟨hrel,ih (listed.setIfInBounds j true) a' w' (zM.set gu hall) IC (ready_mono hr (vB hji)) (hy.same hsame (hrel hqu)) ?_⟩) h2;rw[Th _ _ hji];exact h3
def ah4{quiet:Nat->Bool}{i:Nat}{oi:Oper}{v:Value}(hi:ops[i]?=some oi)(hsel:∀(j:Nat) (o:Oper) cs b,ops[j]?=some o->o.op≠.select cs b)(hQ:∀c a w,Q (.panic c) (a.put oi.dst v) w->Q (.panic c) a w){t:Nat->Nat->Bool}(ij:wk ops t=true):
  ∀(fuel:Nat) (listed:Array Bool) (a:Act) (w:World),
   Down ops listed->(∀j oj,ops[j]?=some oj->j≠i->listed.getD j true=false->t j i=false->oi.apart ops oj=true)->
   i∈Region.ready .any ops listed->rE P ops oi v a->
   wpAnyQ P ops quiet Q fuel (listed.setIfInBounds i true) (a.put oi.dst v) w->wpAnyQ P ops quiet Q (fuel+1) listed a w:=by
 intro fuel;induction fuel with
 |zero=>
  intro listed a w _ _ hr hy H;refine⟨λh=>(by rw[h] at hr;cases hr),λj hj=>?_⟩;by_cases hji:j=i;·subst hji;exact(hy.later w).wpOp hi ⟨Rel.refl _ _,H⟩
  ·have:=ready_mono hj hji;rw[H.1] at this;cases this
 |succ fuel ih=>
  intro listed a w zM hfree hr hy H;refine⟨λh=>(by rw[h] at hr;cases hr),λj hj=>?_⟩;by_cases hji:j=i;·subst hji;exact(hy.later w).wpOp hi ⟨Rel.refl _ _,H⟩
  ·have h1:=H.2 j (ready_mono hj hji);obtain⟨zT,oj,gu,hall⟩:=mem_ready.1 hj
   have hi0:listed.getD i false=false:=by
    have h0:=(mem_ready.1 hr).1;rcases fN i listed.size with h'|h';·simpa [h'] using h0
    ·simp[jH h']
   have hnot:t j i=false:=KI ij zM hi0 (j+1) j (by omega) (gb.1 gu).1 (gb.1 hi).1 (λoj' qq e he hb=>by
    rw[gu] at qq;injection qq with qq
    rw[<-qq] at he;exact hall e he hb)
   have hap:=hfree j oj gu hji zT hnot;have h2:=SO gu hap (λcs b=>hsel i oi cs b hi) (λcs b=>hsel j oj cs b gu) hQ h1
   have IC:∀k ok,ops[k]?=some ok->k≠i->(listed.setIfInBounds j true).getD k true=false->
     t k i=false->oi.apart ops ok=true:=λk ok hk hki hun hno=>by
    refine hfree k ok hk hki ?_ hno;by_cases hjk:j=k;·subst hjk;exact zT
    ·rw[getD_set_ne true hjk] at hun;exact hun
   refine wpOp_mono (λa' w' ⟨hsame,hrel,h3⟩=>⟨hrel,ih (listed.setIfInBounds j true) a' w' (zM.set gu hall) IC (ready_mono hr (vB hji)) (hy.same hsame) ?_⟩) h2;rw[Th _ _ hji];exact h3
end
end M
namespace M
open Go Go.RowKit
variable [Bs]
def lV(P:Program)(t:TypeId):Option TypeId:=match P.underlying t with
 |some (.slice e)=>some e
 |_=>none
def isStr(P:Program)(t:TypeId):Bool:=match P.underlying t with
 |some .string=>true
 |_=>false
def JX(P:Program)(t:TypeId):Bool:=match P.underlying t with
 |some .bool=>true
 |_=>false
def isInt(P:Program)(t:TypeId)(k:IntKind):Bool:=match P.underlying t with
 |some (.int k')=>decide (k'=k)
 |_=>false
def ld(P:Program)(t:TypeId)(n:Nat):Bool:=match P.info? t with
 |some i=>decide (i.size=n)
 |none=>false
def UC:TypeDesc->Bool
 |.struct _=>true
 |.array _ _=>true
 |_=>false
def uJ(P:Program)(t:TypeId)(b:Bool):Bool:=match P.underlying t with
 |some d=>UC d==b
 |none=>false
section
variable {P:Program}{t:TypeId}
def nZ{e:TypeId}(h:lV P t=some e):P.underlying t=some (.slice e):=by
 unfold lV at h;split at h;·rename_i e' he;injection h with h;subst h;exact he
 ·cases h
def Bv(h:isStr P t=true):P.underlying t=some .string:=by
 unfold isStr at h;split at h;·assumption
 ·cases h
def abD(h:JX P t=true):P.underlying t=some .bool:=by
 unfold JX at h;split at h;·assumption
 ·cases h
def JY{k:IntKind}(h:isInt P t k=true):P.underlying t=some (.int k):=by
 unfold isInt at h;split at h;·rename_i k' hk;rw[hk,yH h]
 ·cases h
def r8{n:Nat}(h:ld P t n=true):∃i,P.info? t=some i/\i.size=n:=by
 unfold ld at h;split at h;·rename_i i hi;exact⟨i,hi,yH h⟩
 ·cases h
def Bu{b:Bool}(h:uJ P t b=true):∃dd,P.underlying t=some dd/\(match dd with|.struct _=>true|.array _ _=>true|_=>false)=b:=by
 unfold uJ at h;split at h;·rename_i d hd;refine⟨d,hd,?_⟩;rw[ei] at h;rw[<-h];cases d<;>rfl
 ·cases h
end
def dx(nt:Nat)(o:Oper)(d:Nat):Bool:=(match o.dst with|some d'=>d'==d|none=>false) && decide (d<nt)
def dG{nt:Nat}{o:Oper}{d:Nat}(h:dx nt o d=true):o.dst=some d/\d<nt:=by
 simp only[dx,ax,bx] at h;refine⟨?_,h.2⟩;have:=h.1;split at this;·rename_i d' hd;rw[hd];simpa using this
 ·cases this
def x9:cz->Bool
 |.mv _ _|.pick _ _ _ _|.un _ _ _|.bin _ _ _ _|.beq _ _ _ _|.rH _ _ _ _ _|.sS _ _ _|.conv _ _ _|.text _ _|.load _ _ _ _|.aI _ _|.qg _ _ _|.mE _ _ _ _ _|.iV _ _ _ _|.jF _ _ _|.rJ _ _ _ _ _ _
 |.ext _ _ _|.va _ _ _ _|.lR _ _ _ _ _|.lF _ _ _|.len _ _|.s7 _ _|.mn _ _|.mx _ _|.iW _ _ _ _ _=>true
 |_=>false
def sY:cz->Bool
 |.bU _ _ _|.box _ _ _|.new _ _|.make _ _ _ _ _|.bytes _ _|.lit _ _ _ _|.build _ _ _ _=>true
 |.call _ _ as=>jc as
 |.jq _ _ as=>jc as
 |x=>x9 x
def Dd(P:Program)(nt:Nat)(o:Oper):cz->Bool
 |.mv d x=>dx nt o d && (match o.op with|.move x'=>aK x' x|.assign x'=>aK x' x|_=>false)
 |.pick d c a b=>dx nt o d && (match o.op with|.pick c' a' b'=>aK c' c && aK a' a && aK b' b|_=>false)
 |.un d op x=>dx nt o d && (match o.op with|.unOp op' _ x'=>decide (op'=op) && aK x' x|_=>false)
 |.bin d op x y=>dx nt o d && (match o.op with|.binOp op' _ x' y' _=>decide (op'=op) && aK x' x && aK y' y|_=>false)
 |.beq d neg x y=>dx nt o d && (match o.op with|.binOp op' ty x' y' _=>decide (op'=bif neg then .neq else .eql) && JX P ty && aK x' x && aK y' y|_=>false)
 |.sS d neg x=>dx nt o d && (match o.op with|.binOp op' ty x' (.const (.slice none 0 0)) _=>decide (op'=bif neg then .neq else .eql) && (lV P ty).isSome && aK x' x|_=>false)
 |.rH d neg ks x y=>dx nt o d && (match o.op with|.binOp op' ty x' y' _=>decide (op'=bif neg then .neq else .eql) && HZ P ty ks && aK x' x && aK y' y|_=>false)
 |.conv d k x=>dx nt o d && (match o.op with|.convert src dst x'=>(P.underlying src).isSome && isInt P dst k && aK x' x|_=>false)
 |.text d x=>dx nt o d && (match o.op with|.convert src dst x'=>(match lV P src with|some el=>isInt P el .u8 && isStr P dst && aK x' x|none=>false)|_=>false)
 |.load d sz agg x=>dx nt o d && (match o.op with|.load ty x'=>ld P ty sz && uJ P ty agg && (agg||decide (sz=1)) && aK x' x|_=>false)
 |.iW d fz sz agg x=>dx nt o d && (match o.op with|.load ty x'=>ld P ty sz && uJ P ty agg && (agg||decide (sz=1)) && aK x' x|_=>false)
 |.aI d x=>dx nt o d && (match o.op with|.nilCheck x'=>aK x' x|_=>false)
 |.qg d x off=>dx nt o d && (match o.op with|.fieldAddr ty x' fi=>(match P.underlying ty with|some (.struct fs)=>(match fs[fi]? with|some f=>decide (f.offset=off) && !ld P f.type 0 && (P.info? f.type).isSome && aK x' x|none=>false)|_=>false)|_=>false)
 |.mE d x off sz agg=>dx nt o d && (match o.op with|.field ty x' fi=>(match P.underlying ty with|some (.struct fs)=>(match fs[fi]? with|some f=>decide (f.offset=off) && ld P f.type sz && uJ P f.type agg && (agg||decide (sz=1)) && aK x' x|none=>false)|_=>false)|_=>false)
 |.iV d sz x y=>dx nt o d && (match o.op with|.indexAddr ty x' y'=>(match lV P ty with|some el=>ld P el sz && decide (0<sz) && aK x' x && aK y' y|none=>false)|_=>false)
 |.jF d x y=>dx nt o d && (match o.op with|.index ty x' y'=>isStr P ty && aK x' x && aK y' y|_=>false)
 |.rJ d n sz agg x y=>dx nt o d && (match o.op with|.index ty x' y'=>(match P.underlying ty with|some (.array n' el)=>decide (n'=n) && ld P el sz && uJ P el agg && (agg||decide (sz=1)) && aK x' x && aK y' y|_=>false)|_=>false)
 |.ext d x i=>dx nt o d && (match o.op with|.extract x' i'=>i'==i && aK x' x|_=>false)
 |.va d x lo hi=>dx nt o d && (match o.op with|.slice ty x' lo' hi' none=>isStr P ty && aK x' x && nC lo' lo && nC hi' hi|_=>false)
 |.lR d sz x lo hi=>dx nt o d && (match o.op with|.slice ty x' lo' hi' none=>(match lV P ty with|some el=>ld P el sz && aK x' x && nC lo' lo && nC hi' hi|none=>false)|_=>false)
 |.lF d f cs=>dx nt o d && (match o.op with|.makeFunc (.func f') fs cs'=>f'==f && fs.toList.isEmpty && mw cs'.toList cs|_=>false)
 |.len d x=>dx nt o d && (match o.op with|.call ⟨.builtin .len,as,ts⟩=>(match as.toList,ts.toList with|[x'],[ty]=>(lV P ty).isSome && aK x' x|_,_=>false)|_=>false)
 |.s7 d x=>dx nt o d && (match o.op with|.call ⟨.builtin .len,as,ts⟩=>(match as.toList,ts.toList with|[x'],[ty]=>isStr P ty && aK x' x|_,_=>false)|_=>false)
 |.mn d [x,y]=>dx nt o d && (match o.op with|.call ⟨.builtin .min,as,_⟩=>(match as.toList with|[x',y']=>aK x' x && aK y' y|_=>false)|_=>false)
 |.mx d [x,y]=>dx nt o d && (match o.op with|.call ⟨.builtin .max,as,_⟩=>(match as.toList with|[x',y']=>aK x' x && aK y' y|_=>false)|_=>false)
 |_=>false
section
variable {P:Program}{c:Ctx}{G:Nat->C}{zl:Nat->Nat->Prop}{s:ag}{a:Act}{w:World}{o:Oper}{K:ag->Prop}
def O8(op:BinOp)(ty:TypeId)(p q:Operand)(a b:Option Addr)(l m n k:Nat):eqGuard op ty p q (.slice a l m) (.slice b n k)=pure ():=by unfold eqGuard;cases op<;>rfl
def aeo{sz len:Nat}{e:Nat->Nat->C}(h:gA (dD sz len e)=true):0<len/\0<sz:=by
 unfold dD at h;cases len with
 |zero=>cases h
 |succ len=>
  cases sz with
  |zero=>rw[Cy] at h;cases h
  |succ sz=>exact⟨Nat.succ_pos _,Nat.succ_pos _⟩
def adK(h:St c G zl s a w){d:Nat}{neg:Bool}{ty ty':TypeId}{e:TypeId}{x:AV}{x':Operand}(ho:o.op=.binOp (bif neg then .neq else .eql) ty x' (.const (.slice none 0 0)) ty')(ht:P.underlying ty=some (.slice e))(hd:o.dst=some d)(hn:d<c.nt)(hx:aK x' x=true)
  (hK:aM P (.sS d neg x) s K):dF P c o a w K:=by
 obtain⟨p,p1,p2,p3⟩:=cx h hx;simp only[aM] at hK;split at hK
 ·rename_i m z xs h1;rw[<-p1] at h1;obtain⟨A,len,cap,f,rfl,hxs⟩:=zm h1;have hb:gA xs=true->(A.map λq=>(⟨q.1,q.2.1,q.2.2⟩:Addr)).isNone=false:=λhc=>by rw[hxs] at hc;obtain⟨h1,h2⟩:=aeo hc;obtain⟨g,o',hA,_⟩:=p3.ok.2.1 0 0 h1 h2;rw[hA];rfl
  have gM:=hK _ hb;obtain⟨nb,hnb⟩:∃nb,(A.map λq=>(⟨q.1,q.2.1,q.2.2⟩:Addr)).isNone=nb:=⟨_,rfl⟩;rw[hnb] at gM;have hc:a.eval (.const (.slice none 0 0))=.slice none 0 0:=rfl;refine dO h hd hn (x:=.bool (xor neg nb)) trivial (λ_ _ _ _ _ _ e=>(by cases e)) trivial (λw' _=>?_) gM;cases neg;·simp only[execOp,ho,hc,<-p2,C.val,O8,Sem.run_bind,Sem.run_pure,Result.andThen_ok,rq,Lib.run_eql_slice_nil w' ty e _ _ _ _ _ ht,Bool.false_bne,hnb]
  ·simp only[execOp,ho,hc,<-p2,C.val,O8,Sem.run_bind,Sem.run_pure,Result.andThen_ok,mg,run_neq_slice_nil w' ty e _ _ _ ht,Bool.true_bne,hnb]
 ·exact hK.elim
def FQ{b:Bool}{n m:Nat}(h:(b||decide (n=m))=true):b=true\/n=m:=by simpa using h
def yt{α:Type}{xs:Array α}{x:α}(h:xs.toList=[x]):xs= #[x]:=pO h
def Gd{α:Type}{xs:Array α}{x y:α}(h:xs.toList=[x,y]):xs= #[x,y]:=pO h
def Hy(h:St c G zl s a w){x:cz}(hc:Dd P c.nt o x=true)(hK:aM P x s K):dF P c o a w K:=by
 unfold Dd at hc;split at hc
 ·simp only[ax] at hc;obtain⟨hd,hn⟩:=dG hc.1;have hc:=hc.2;split at hc;·rename_i ho;exact QT h (.inl ho) hd hn hc hK
  ·rename_i ho;exact QT h (.inr ho) hd hn hc hK
  ·cases hc
 ·simp only[ax] at hc;obtain⟨hd,hn⟩:=dG hc.1;have hc:=hc.2;split at hc;·rename_i ho;simp only[ax] at hc;exact adL h ho hd hn hc.1.1 hc.1.2 hc.2 hK
  ·cases hc
 ·simp only[ax] at hc;obtain⟨hd,hn⟩:=dG hc.1;have hc:=hc.2;split at hc;·rename_i ho;simp only[ax,bx] at hc;obtain⟨rfl,hx⟩:=hc;exact adS h ho hd hn hx hK
  ·cases hc
 ·simp only[ax] at hc;obtain⟨hd,hn⟩:=dG hc.1;have hc:=hc.2;split at hc;·rename_i ho;simp only[ax,bx] at hc;obtain⟨⟨rfl,hx⟩,hy⟩:=hc;exact adl h ho hd hn hx hy hK
  ·cases hc
 ·simp only[ax] at hc;obtain⟨hd,hn⟩:=dG hc.1;have hc:=hc.2;split at hc;·rename_i ho;simp only[ax,bx] at hc;obtain⟨⟨⟨rfl,ht⟩,hx⟩,hy⟩:=hc;exact adk h ho (abD ht) hd hn hx hy hK
  ·cases hc
 ·simp only[ax] at hc;obtain⟨hd,hn⟩:=dG hc.1;have hc:=hc.2;split at hc;·rename_i ho;simp only[ax,bx] at hc;obtain⟨⟨rfl,ht⟩,hx⟩:=hc;obtain⟨el,ht⟩:=vD.1 ht;exact adK h ho (nZ ht) hd hn hx hK
  ·cases hc
 ·simp only[ax] at hc;obtain⟨hd,hn⟩:=dG hc.1;have hc:=hc.2;split at hc;·rename_i ho;simp only[ax,bx] at hc;obtain⟨⟨⟨rfl,ht⟩,hx⟩,hy⟩:=hc;exact adg h ho ht hd hn hx hy hK
  ·cases hc
 ·simp only[ax] at hc;obtain⟨hd,hn⟩:=dG hc.1;have hc:=hc.2;split at hc;·rename_i ho;simp only[ax] at hc;obtain⟨⟨hs,ht⟩,hx⟩:=hc;obtain⟨sd,hs⟩:=vD.1 hs;exact adx h ho hs (JY ht) hd hn hx hK
  ·cases hc
 ·simp only[ax] at hc;obtain⟨hd,hn⟩:=dG hc.1;have hc:=hc.2;split at hc
  ·rename_i ho;split at hc;·rename_i el hel;simp only[ax] at hc;exact adR h ho (nZ hel) (JY hc.1.1) (Bv hc.1.2) hd hn hc.2 hK
   ·cases hc
  ·cases hc
 ·simp only[ax] at hc;obtain⟨hd,hn⟩:=dG hc.1;have hc:=hc.2;split at hc;·rename_i ho;simp only[ax] at hc;exact QS h ho (r8 hc.1.1.1) (Bu hc.1.1.2) (FQ hc.1.2) hd hn hc.2 hK
  ·cases hc
 ·simp only[ax] at hc;obtain⟨hd,hn⟩:=dG hc.1;have hc:=hc.2;split at hc;·rename_i ho;simp only[ax] at hc;exact adE h ho (r8 hc.1.1.1) (Bu hc.1.1.2) (FQ hc.1.2) hd hn hc.2 hK
  ·cases hc
 ·simp only[ax] at hc;obtain⟨hd,hn⟩:=dG hc.1;have hc:=hc.2;split at hc;·rename_i ho;exact adu h ho hd hn hc hK
  ·cases hc
 ·simp only[ax] at hc;obtain⟨hd,hn⟩:=dG hc.1;have hc:=hc.2;split at hc
  ·rename_i ho;split at hc
   ·rename_i fs hfs;split at hc;·rename_i f hf;simp only[ax,bx,ru] at hc;obtain⟨⟨⟨h1,h2⟩,h3⟩,h4⟩:=hc;obtain⟨i,hi⟩:=vD.1 h3;refine adz h ho hfs hf h1 ⟨i,hi,λh0=>?_⟩ hd hn h4 hK;simp[ld,hi,h0] at h2
    ·cases hc
   ·cases hc
  ·cases hc
 ·simp only[ax] at hc;obtain⟨hd,hn⟩:=dG hc.1;have hc:=hc.2;split at hc
  ·rename_i ho;split at hc
   ·rename_i fs hfs;split at hc;·rename_i f hf;simp only[ax,bx] at hc;obtain⟨⟨⟨⟨h1,h2⟩,h3⟩,h4⟩,h5⟩:=hc;exact adA h ho hfs hf h1 (r8 h2) (Bu h3) (FQ h4) hd hn h5 hK
    ·cases hc
   ·cases hc
  ·cases hc
 ·simp only[ax] at hc;obtain⟨hd,hn⟩:=dG hc.1;have hc:=hc.2;split at hc
  ·rename_i ho;split at hc;·rename_i el hel;simp only[ax,bx] at hc;obtain⟨⟨⟨h1,h2⟩,h3⟩,h4⟩:=hc;exact adB h ho (nZ hel) (r8 h1) h2 hd hn h3 h4 hK
   ·cases hc
  ·cases hc
 ·simp only[ax] at hc;obtain⟨hd,hn⟩:=dG hc.1;have hc:=hc.2;split at hc;·rename_i ho;simp only[ax] at hc;exact adN h ho (Bv hc.1.1) hd hn hc.1.2 hc.2 hK
  ·cases hc
 ·simp only[ax] at hc;obtain⟨hd,hn⟩:=dG hc.1;have hc:=hc.2;split at hc
  ·rename_i ho;split at hc;·rename_i n' el hel;simp only[ax,bx] at hc;obtain⟨⟨⟨⟨⟨rfl,h2⟩,h3⟩,h4⟩,h5⟩,h6⟩:=hc;exact adh h ho hel (r8 h2) (Bu h3) (FQ h4) hd hn h5 h6 hK
   ·cases hc
  ·cases hc
 ·simp only[ax] at hc;obtain⟨hd,hn⟩:=dG hc.1;have hc:=hc.2;split at hc;·rename_i ho;simp only[ax,ei] at hc;obtain⟨rfl,hx⟩:=hc;exact ady h ho hd hn hx hK
  ·cases hc
 ·simp only[ax] at hc;obtain⟨hd,hn⟩:=dG hc.1;have hc:=hc.2;split at hc;·rename_i ho;simp only[ax] at hc;obtain⟨⟨⟨h1,h2⟩,h3⟩,h4⟩:=hc;exact adP h ho (Bv h1) hd hn h2 h3 h4 hK
  ·cases hc
 ·simp only[ax] at hc;obtain⟨hd,hn⟩:=dG hc.1;have hc:=hc.2;split at hc
  ·rename_i ho;split at hc;·rename_i el hel;simp only[ax] at hc;obtain⟨⟨⟨h1,h2⟩,h3⟩,h4⟩:=hc;exact adM h ho (nZ hel) (r8 h1) hd hn h2 h3 h4 hK
   ·cases hc
  ·cases hc
 ·simp only[ax] at hc;obtain⟨hd,hn⟩:=dG hc.1;have hc:=hc.2;split at hc;·rename_i fs cs' ho;simp only[ax,ei] at hc;obtain⟨⟨rfl,h2⟩,h3⟩:=hc;have hfs:fs= #[]:=pO (List.isEmpty_iff.1 h2);subst hfs;exact adG h ho hd hn h3 hK
  ·cases hc
 ·simp only[ax] at hc;obtain⟨hd,hn⟩:=dG hc.1;have hc:=hc.2;split at hc
  ·rename_i as ts ho;split at hc;·rename_i x' ty has hts;simp only[ax] at hc;obtain⟨el,hel⟩:=vD.1 hc.1;rw[yt has,yt hts] at ho;exact adC h ho (nZ hel) hd hn hc.2 hK
   ·cases hc
  ·cases hc
 ·simp only[ax] at hc;obtain⟨hd,hn⟩:=dG hc.1;have hc:=hc.2;split at hc
  ·rename_i as ts ho;split at hc;·rename_i x' ty has hts;simp only[ax] at hc;rw[yt has,yt hts] at ho;exact adO h ho (Bv hc.1) hd hn hc.2 hK
   ·cases hc
  ·cases hc
 ·simp only[ax] at hc;obtain⟨hd,hn⟩:=dG hc.1;have hc:=hc.2;split at hc
  ·rename_i as ts ho;split at hc;·rename_i x' y' has;simp only[ax] at hc;rw[Gd has] at ho;exact adH h ho hd hn hc.1 hc.2 hK
   ·cases hc
  ·cases hc
 ·simp only[ax] at hc;obtain⟨hd,hn⟩:=dG hc.1;have hc:=hc.2;split at hc
  ·rename_i as ts ho;split at hc;·rename_i x' y' has;simp only[ax] at hc;rw[Gd has] at ho;exact adI h ho hd hn hc.1 hc.2 hK
   ·cases hc
  ·cases hc
 ·cases hc
end
end M
namespace M
open Go Go.RowKit
variable [Bs]
def Step(P:Program)(c:Ctx)(o:Oper)(a:Act)(w:World)(K:ag->Prop)(q:Bool):Prop:=
 (∃v w',((execOp a.eval o).run P w=.ok (.value v) w'\/((execOp a.eval o).run P w=.ok .skip w'/\v=undef))/\Rel q w w'/\∃G' aE s',K s'/\St c G' aE s' (a.put o.dst v) w')\/rF P c o a w K q
section
variable {P:Program}{c:Ctx}{G:Nat->C}{zl:Nat->Nat->Prop}{s:ag}{a:Act}{w:World}{o:Oper}{K:ag->Prop}
def Good.step(h:Good P c o a w K):Step P c o a w K false:=by obtain⟨v,w',hr,h⟩:=h;exact .inl ⟨v,w',hr,λhq=>by (cases hq),h⟩
def jJ.step(h:jJ P c o a w K)(q:Bool):Step P c o a w K q:=by obtain⟨v,w',hr,hE,h⟩:=h;exact .inl ⟨v,w',.inl hr,λ_=>hE,h⟩
def Step.wp{q:Bool}(h:Step P c o a w K q)(Q:Exit->Act->World->Prop):o.wp P a w (λa' w'=>Rel q w w'/\∃G' aE s',K s'/\St c G' aE s' a' w') Q:=by
 unfold Oper.wp;rcases h with ⟨v,w',hr,hq,h⟩|⟨f,args,hr,hc⟩
 ·rcases hr with hr|⟨hr,rfl⟩;·rw[hr];exact⟨hq,h⟩
  ·rw[hr];exact⟨hq,h⟩
 ·rw[hr];refine Calls.mono hc λe w' he=>?_;obtain⟨v,rfl,hq,h⟩:=he;exact⟨hq,h⟩
def Mn(P:Program)(t:TypeId)(sz bytes:Nat)(z:List X):Bool:=match P.info? t with
 |some i=>decide (i.size=sz) && decide (i.bytes=bytes) && (match i.zero with|some v=>nD v.cells.toList z|none=>false)
 |none=>false
def aix{t:TypeId}{sz bytes:Nat}{z:List X}(h:Mn P t sz bytes z=true):∃i v,P.info? t=some i/\i.size=sz/\i.bytes=bytes/\i.zero=some v/\nD v.cells.toList z=true:=by
 unfold Mn at h;split at h
 ·rename_i i hi;simp only[ax,bx] at h;obtain⟨⟨h1,h2⟩,h3⟩:=h;split at h3;·rename_i v hv;exact⟨i,v,hi,h1,h2,hv,h3⟩
  ·cases h3
 ·cases h
def Mr(P:Program)(t:TypeId)(sz bytes:Nat):Bool:=match P.info? t with
 |some i=>decide (i.size=sz) && decide (i.bytes=bytes) && (match i.zero with|some v=>decide (v.cells.size=sz)|none=>false)
 |none=>false
def aiz{t:TypeId}{sz bytes:Nat}(h:Mr P t sz bytes=true):∃i v,P.info? t=some i/\i.size=sz/\i.bytes=bytes/\i.zero=some v/\v.cells.size=sz:=by
 unfold Mr at h;split at h
 ·rename_i i hi;simp only[ax,bx] at h;obtain⟨⟨h1,h2⟩,h3⟩:=h;split at h3;·rename_i v hv;exact⟨i,v,hi,h1,h2,hv,yH h3⟩
  ·cases h3
 ·cases h
def Mp(P:Program)(t:TypeId)(sz:Nat):Bool:=match P.info? t with
 |some i=>decide (i.size=sz) && (match i.zero with|some v=>decide (v.cells.size=sz)|none=>false)
 |none=>false
def aiy{t:TypeId}{sz:Nat}(h:Mp P t sz=true):∃i v,P.info? t=some i/\i.size=sz/\i.zero=some v/\v.cells.size=sz:=by
 unfold Mp at h;split at h
 ·rename_i i hi;simp only[ax,bx] at h;obtain⟨h1,h3⟩:=h;split at h3;·rename_i v hv;exact⟨i,v,hi,h1,hv,yH h3⟩
  ·cases h3
 ·cases h
def CJ(P:Program)(t:TypeId)(z:List X):Bool:=match P.info? t with
 |some i=>(match i.zero with|some v=>nD v.cells.toList z|none=>false)
 |none=>false
def Mq{t:TypeId}{z:List X}(h:CJ P t z=true):∃i v,P.info? t=some i/\i.zero=some v/\nD v.cells.toList z=true:=by
 unfold CJ at h;split at h
 ·rename_i i hi;split at h;·rename_i v hv;exact⟨i,v,hi,hv,h⟩
  ·cases h
 ·cases h
def placesOf(P:Program)(t:TypeId):Option (List (Nat×Nat)):=match P.underlying t with
 |some (.struct fs)=>fs.toList.mapM λf=>(P.info? f.type).map λi=>(f.offset,i.size)
 |some (.array n e)=>(P.info? e).map λi=>(List.range n).map λk=>(k*i.size,i.size)
 |_=>none
def Ox{p q:Nat->Option (Nat×Nat)}(h:∀i r,p i=some r->q i=some r):∀(parts:List (Nat×Value)) (cells r:Array Value),Instr.fill p cells parts=some r->Instr.fill q cells parts=some r
 |[],cells,r,hf=>hf
 |(i,v)::rest,cells,r,hf=>by
  unfold Instr.fill at hf⊢;cases hp:p i with
  |none=>rw[hp] at hf;cases hf
  |some pr=>
   rw[hp] at hf;rw[h i pr hp];obtain⟨off,size⟩:=pr;simp only at hf⊢;split at hf;·cases hf
   ·rename_i hc;rw[az hc];exact Ox h rest _ r hf
def adW{t:TypeId}{places:List (Nat×Nat)}(hp:placesOf P t=some places){i:TypeInfo}(hi:P.info? t=some i){v:Value}(hz:i.zero=some v):∀parts cells,Instr.fill (λi=>places[i]?) v.cells parts=some cells->P.built t parts=some cells:=by
 intro parts cells hf;unfold placesOf at hp;unfold Program.built;rw[hi];split at hp;·rename_i fs hfs;rw[hfs];simp only[hz,hp];simpa using hf
 ·rename_i n e he;rw[he];cases hie:P.info? e with
  |none=>rw[hie] at hp;cases hp
  |some ie=>
   rw[hie] at hp;simp only[cC,dr] at hp;simp only[hz,hie];refine Ox (λk r hk=>?_) _ _ _ hf;rw[<-hp,C.cX] at hk;split at hk;·exact hk
   ·cases hk
 ·cases hp
def zi(nt:Nat)(o:Oper)(d:Option Nat):Bool:=match o.dst,d with
 |some d',some d=>d'==d && decide (d<nt)
 |none,none=>true
 |_,_=>false
def HL{nt:Nat}{d:Option Nat}(h:zi nt o d=true):o.dst=d/\∀n,o.dst=some n->n<nt:=by
 unfold zi at h;split at h;·rename_i d' d hd;simp only[ax,ei,bx] at h;rw[hd,h.1];exact⟨rfl,λn hn=>by injection hn with hn;rw[<-hn];exact h.2⟩
 ·rename_i hd;rw[hd];exact⟨rfl,λn hn=>by cases hn⟩
 ·cases h
def Hz(P:Program)(nt:Nat)(o:Oper):cz->Bool
 |.bU d h x=>dx nt o d && (match o.op with|.assign x'=>aK x' x|_=>false)
 |.box d h x=>dx nt o d && (match o.op with|.box _ x'=>aK x' x|_=>false)
 |.new d z=>dx nt o d && (match o.op with|.alloc ty=>CJ P ty z|_=>false)
 |.make d sz bytes z n=>dx nt o d && (match o.op with|.makeSlice ty n1 n2=>(match lV P ty with|some el=>Mn P el sz bytes z && decide (0<bytes) && decide (0<sz) && decide (z.length=sz) && aK n1 n && aK n2 n|none=>false)|_=>false)
 |.bytes d x=>dx nt o d && (match o.op with|.convert src dst x'=>(match lV P dst with|some el=>isInt P el .u8 && isStr P src && aK x' x|none=>false)|_=>false)
 |.lit d h sz ps=>dx nt o d && (match o.op with|.buildSlice ty n ps'=>(match lV P ty with|some el=>Mp P el sz && decide (0<sz) && decide (ps'.toList.length=n) && decide (n*sz<=16777216) && y9 0 ps'.toList ps|none=>false)|_=>false)
 |.build d h z ps=>dx nt o d && (match o.op with|.build ty ps'=>(match placesOf P ty with|some places=>CJ P ty z && tV places z.length ps'.toList ps|none=>false)|_=>false)
 |.store sz h y x=>(match o.dst with|none=>true|some _=>false) && (match o.op with|.store ty y' x'=>ld P ty sz && decide (0<sz) && aK x' x && aK y' y|_=>false)
 |.app d h sz bytes x y=>dx nt o d && (match o.op with|.call ⟨.builtin .append,as,ts⟩=>(match as.toList,ts.toList with|[x',y'],[ty,ty']=>(match lV P ty,lV P ty' with|some el,some _=>Mr P el sz bytes && decide (0<bytes) && decide (0<sz) && aK x' x && aK y' y|_,_=>false)|_,_=>false)|_=>false)
 |.call d f as=>zi nt o d && (match o.op with|.call ⟨.value (.func f'),as',_⟩=>f'==f && aC P f && gJ as'.toList as|_=>false)
 |.jq d x as=>zi nt o d && (match o.op with|.call ⟨.value x',as',_⟩=>aK x' x && gJ as'.toList as|_=>false)
 |.tY sz z x=>(match o.dst with|none=>true|some _=>false) && (match o.op with|.call ⟨.builtin .clear,as,ts⟩=>(match as.toList,ts.toList with|[x'],[ty]=>(match lV P ty with|some el=>CJ P el z && decide (z.length=sz) && decide (0<sz) && aK x' x|_=>false)|_,_=>false)|_=>false)
 |.rM d f x as=>zi nt o d && (match o.op with|.call ⟨.value (.func f'),as',_⟩=>f'==f && aC P f && (match as'.toList with|x'::l'=>aK x' x && gJ l' as && jc as|[]=>false)|_=>false)
 |_=>false
def WK(h:St c G zl s a w){x:cz}(hc:Hz P c.nt o x=true)(hK:aM P x s K):Step P c o a w K (sY x):=by
 unfold Hz at hc;split at hc
 ·simp only[ax] at hc;obtain⟨hd,hn⟩:=dG hc.1;have hc:=hc.2;split at hc;·rename_i ho;exact(adj h ho hd hn hc hK).step _
  ·cases hc
 ·simp only[ax] at hc;obtain⟨hd,hn⟩:=dG hc.1;have hc:=hc.2;split at hc;·rename_i ho;exact(adn h ho hd hn hc hK).step _
  ·cases hc
 ·simp only[ax] at hc;obtain⟨hd,hn⟩:=dG hc.1;have hc:=hc.2;split at hc;·rename_i ho;obtain⟨i,v,h1,h2,h3⟩:=Mq hc;exact(adJ h ho h1 h2 h3 hd hn hK).step _
  ·cases hc
 ·simp only[ax] at hc;obtain⟨hd,hn⟩:=dG hc.1;have hc:=hc.2;split at hc
  ·rename_i ho;split at hc;·rename_i el hel;simp only[ax,bx] at hc;obtain⟨⟨⟨⟨⟨h1,h2⟩,h3⟩,h4⟩,h5⟩,h6⟩:=hc;obtain⟨i,v,i1,i2,i3,i4,i5⟩:=aix h1;exact(adF h ho (nZ hel) i1 i4 i2 i3 h2 h3 h4 i5 hd hn h5 h6 hK).step _
   ·cases hc
  ·cases hc
 ·simp only[ax] at hc;obtain⟨hd,hn⟩:=dG hc.1;have hc:=hc.2;split at hc
  ·rename_i ho;split at hc;·rename_i el hel;simp only[ax] at hc;exact(adp h ho (Bv hc.1.2) (nZ hel) (JY hc.1.1) hd hn hc.2 hK).step _
   ·cases hc
  ·cases hc
 ·simp only[ax] at hc;obtain⟨hd,hn⟩:=dG hc.1;have hc:=hc.2;split at hc
  ·rename_i ho;split at hc;·rename_i el hel;simp only[ax,bx] at hc;obtain⟨⟨⟨⟨h1,h2⟩,h3⟩,h4⟩,h5⟩:=hc;obtain⟨i,v,i1,i2,i3,i4⟩:=aiy h1;exact(adD h ho (nZ hel) i1 i3 i2 h2 i4 h3 h4 hd hn h5 hK).step _
   ·cases hc
  ·cases hc
 ·simp only[ax] at hc;obtain⟨hd,hn⟩:=dG hc.1;have hc:=hc.2;split at hc
  ·rename_i ho;split at hc;·rename_i places hp;simp only[ax] at hc;obtain⟨i,v,i1,i2,i3⟩:=Mq hc.1;exact(ado (i:=i) h ho (adW hp i1 i2) i3 hd hn hc.2 hK).step _
   ·cases hc
  ·cases hc
 ·simp only[ax] at hc;obtain⟨hd,hc⟩:=hc
  have hd:o.dst=none:=by
   split at hd;·assumption
   ·cases hd
  split at hc;·rename_i ho;simp only[ax,bx] at hc;obtain⟨⟨⟨h1,h2⟩,h3⟩,h4⟩:=hc;exact(adQ h ho (r8 h1) h2 hd h3 h4 hK).step
  ·cases hc
 ·simp only[ax] at hc;obtain⟨hd,hn⟩:=dG hc.1;have hc:=hc.2;split at hc
  ·rename_i as ts ho;split at hc
   ·rename_i x' y' ty ty' has hts;split at hc;·rename_i el Dm hel aaA;simp only[ax,bx] at hc;obtain⟨⟨⟨⟨h1,h2⟩,h3⟩,h4⟩,h5⟩:=hc;obtain⟨i,v,i1,i2,i3,i4,i5⟩:=aiz h1;rw[Gd has,Gd hts] at ho;exact(adi h ho (nZ hel) (nZ aaA) i1 i4 i2 i3 h2 h3 i5 hd hn h4 h5 hK).step
    ·cases hc
   ·cases hc
  ·cases hc
 ·simp only[ax] at hc;obtain⟨hd,hc⟩:=hc;obtain⟨hd,hn⟩:=HL hd;subst hd;split at hc;·rename_i f' as' ts ho;simp only[ax,ei] at hc;obtain⟨⟨rfl,h2⟩,h3⟩:=hc;obtain⟨fn,f1,f2,f3⟩:=H7 h2;exact .inr (adq h ho f1 f2 f3 hn h3 hK)
  ·cases hc
 ·simp only[ax] at hc;obtain⟨hd,hc⟩:=hc;obtain⟨hd,hn⟩:=HL hd;subst hd;split at hc;·rename_i x' as' ts ho;simp only[ax] at hc;exact .inr (adt h ho hc.1 hn hc.2 hK)
  ·cases hc
 ·simp only[ax] at hc;obtain⟨hd,hc⟩:=hc
  have hd:o.dst=none:=by
   split at hd;·assumption
   ·cases hd
  split at hc
  ·rename_i as ts ho;split at hc
   ·rename_i x' ty has hts;split at hc;·rename_i el hel;simp only[ax,bx] at hc;obtain⟨⟨⟨h1,h2⟩,h3⟩,h4⟩:=hc;obtain⟨i,v,i1,i2,i3⟩:=Mq h1;rw[yt has,yt hts] at ho;exact(adw h ho (nZ hel) i1 i2 i3 h2 h3 hd h4 hK).step
    ·cases hc
   ·cases hc
  ·cases hc
 ·simp only[ax] at hc;obtain⟨hd,hc⟩:=hc;obtain⟨hd,hn⟩:=HL hd;subst hd;split at hc
  ·rename_i f' as' ts ho;simp only[ax,ei] at hc;obtain⟨⟨rfl,h2⟩,h3⟩:=hc;obtain⟨fn,f1,f2,f3⟩:=H7 h2;split at h3;·rename_i x' l' hl;simp only[ax] at h3;exact .inr (ads h ho hl f1 f2 f3 hn h3.1.1 h3.1.2 h3.2 hK)
   ·cases h3
  ·cases hc
 ·cases hc
def y8(P:Program)(nt:Nat)(o:Oper)(x:cz):Bool:=bif x9 x then Dd P nt o x else Hz P nt o x
def NA(h:St c G zl s a w){x:cz}(hc:y8 P c.nt o x=true)(hK:aM P x s K):Step P c o a w K (sY x):=by
 unfold y8 at hc;cases hr:x9 x with
 |true=>rw[hr] at hc;exact(Hy h hc hK).quiet.step _
 |false=>rw[hr] at hc;exact WK h hc hK
end
end M
namespace M
open Go Go.RowKit
variable [Bs]
section
variable {P:Program}{c:Ctx}{G:Nat->C}{zl:Nat->Nat->Prop}{s s':ag}{a:Act}{w:World}{K:ag->Prop}{ops:Array Oper}
def St.congr(h:St c G zl s a w)(he:∀t,get s t=get s' t):St c G zl s' a w:=
 {h with inv:={h.inv with er:=λt=>(h.inv.er t).trans (he t)}}
def qa(P:Program)(nt:Nat)(ops:Array Oper)(i:Nat)(g:M.G):Bool:=match ops[i]? with
 |some o=>(match o.guard,g.g with
  |none,none=>true
  |some (j,b),some (t,b')=>b==b' && decide (t<base) && (match ops[j]? with|some oj=>decide (oj.dst=some t)|none=>false)
  |_,_=>false) && decide (o.dst=g.o.dst) && (match g.o.dst with|some d=>decide (d<nt)|none=>true) && y8 P nt o g.o
 |none=>false
def vM(c:Ctx)(K:ag->Prop)(a:Act)(w:World):Prop:=∃G zl s,K s/\St c G zl s a w
def S8(h:St c G zl s a w){t j:Nat}{v:Bool}(hv:get s t=.bool v)(ht:t<base){oj:Oper}(hj:ops[j]?=some oj)(hd:oj.dst=some t):yielded ops a.tmps j=some v:=by
 have hG:=h.inv.er t;rw[hv] at hG;have hc:=rV hG;have:=h.val t ht;rw[hc,C.val] at this;unfold yielded;simp only[hj,jj,hd];rw[vF] at this;cases ht:a.tmps[t]? with
 |none=>rw[ht] at this;simp[undef] at this
 |some u=>rw[ht] at this;simp only[vC] at this;rw[<-this]
def St.Gh(h:St c G zl s a w)(d:Option Nat)(hn:∀n,d=some n->n<c.nt):∃G',St c G' zl (fK d (.aj []) s) (a.put d undef) w:=by
 cases d with
 |none=>exact⟨G,h⟩
 |some n=>exact h.put (x:=.aj 0 λ_=>.dead undef) (hn n rfl) ⟨λj hj=>(by omega),λj hj=>(by omega)⟩ (λ_ _ b k ⟨j,hj,_⟩=>(by omega)) (λb k ⟨j,hj,_⟩=>(by omega)) (λj hj=>(by omega)) (λb k ⟨j,hj,_⟩=>(by omega))
def DJ{t:Nat}{v:Bool}(hv:get s t=.bool v):∀u,get s u=get ((t,.bool v)::s) u:=λu=>by
 rw[wK];split;·rename_i e;subst e;exact hv
 ·rfl
def S9(h:St c G zl s a w){t j:Nat}(hv:get s t=.aj [])(ht:t<base){oj:Oper}(hj:ops[j]?=some oj)(hd:oj.dst=some t):yielded ops a.tmps j=none:=by
 have hG:=h.inv.er t;rw[hv] at hG;have hval:=h.val t ht
 have:(G t).val=.tuple #[]:=by
  cases hc:G t with
  |aj n f=>rw[hc] at hG;simp only[C.er,X.aj.injEq,List.map_eq_nil_iff,List.range_eq_nil] at hG;subst hG;rfl
  |_=>rw[hc] at hG;simp[C.er] at hG
 rw[this] at hval;unfold yielded;simp only[hj,jj,hd];rw[vF] at hval;cases ht:a.tmps[t]? with
 |none=>rfl
 |some u=>rw[ht] at hval;simp only[vC] at hval;rw[<-hval]
def Ny{i:Nat}{g:M.G}(h:St c G zl s a w)(hc:qa P c.nt ops i g=true)(hK:pZ P g s K)(Q:Exit->Act->World->Prop):
  wpOp P ops Q i (λa' w'=>Rel (sY g.o) w w'/\vM c K a' w') a w:=by
 unfold qa at hc;split at hc
 ·rename_i o ho;simp only[ax,bx] at hc;obtain⟨⟨⟨hg,hd⟩,hn⟩,hop⟩:=hc;unfold wpOp;simp only[ho];obtain⟨gg,go⟩:=g;split at hg
  ·rename_i h1 h2;subst h2;have hw:Region.wanted o (yielded ops a.tmps)=true:=by simp[Region.wanted,h1]
   rw[aq hw];exact .inl ((NA h hop hK).wp Q)
  ·rename_i j b t b' h1 h2;subst h2;simp only[ax,ei,bx] at hg;obtain⟨⟨rfl,ht⟩,hj⟩:=hg;split at hj
   ·rename_i oj gu;have hj:=yH hj;simp only[pZ] at hK;split at hK
    ·rename_i v hv;have hy:=S8 h hv ht gu hj;obtain⟨k1,k2⟩:=hK;have sx:Region.wanted o (yielded ops a.tmps)=(v==b):=by simp only[Region.wanted,h1,hy];cases v<;>cases b<;>rfl
     rw[sx];by_cases lz:v=b;·subst lz;rw[aq (by simp)];exact .inl ((NA (h.congr (DJ hv)) hop (k1 rfl)).wp Q)
     ·have hnb:v= !b:=by cases v<;>cases b<;>first|rfl|exact absurd rfl lz
      rw[az (by simpa using lz)];subst hnb;obtain⟨G',h'⟩:=(h.congr (DJ hv)).Gh o.dst (λn kI=>by rw[hd] at kI;simp only[kI] at hn;simpa using hn)
      rw[hd] at h'⊢;exact⟨Rel.refl _ _,G',zl,_,k2 rfl,h'⟩
    ·rename_i hv;have hy:=S9 h hv ht gu hj;have sx:Region.wanted o (yielded ops a.tmps)=false:=by simp only[Region.wanted,h1,hy];rfl
     rw[sx,az (by simp)];obtain⟨G',h'⟩:=h.Gh o.dst (λn kI=>by rw[hd] at kI;simp only[kI] at hn;simpa using hn)
     rw[hd] at h'⊢;exact⟨Rel.refl _ _,G',zl,_,hK,h'⟩
    ·exact hK.elim
   ·cases hj
  ·cases hg
 ·cases hc
def WJ{i:Nat}{g:M.G}(h:St c G zl s a w)(hc:qa P c.nt ops i g=true)(hr:x9 g.o=true)(hK:pZ P g s K):
  ∃o v,ops[i]?=some o/\ow P ops o v a w/\vM c K (a.put o.dst v) w:=by
 unfold qa at hc;split at hc
 ·rename_i o ho;simp only[ax,bx] at hc;obtain⟨⟨⟨hg,hd⟩,hn⟩,hop⟩:=hc;obtain⟨gg,go⟩:=g;unfold y8 at hop;simp only at hr hop;rw[hr] at hop;simp only[mg] at hop;refine⟨o,?_⟩;split at hg
  ·rename_i h1 h2;subst h2;have hw:Region.wanted o (yielded ops a.tmps)=true:=by simp[Region.wanted,h1]
   obtain⟨v,hv,G',aE,s',k1,k2⟩:=Hy h hop hK;exact⟨v,ho,.inl ⟨hw,hv⟩,G',aE,s',k1,k2⟩
  ·rename_i j b t b' h1 h2;subst h2;simp only[ax,ei,bx] at hg;obtain⟨⟨rfl,ht⟩,hj⟩:=hg;split at hj
   ·rename_i oj gu;have hj:=yH hj;simp only[pZ] at hK;split at hK
    ·rename_i v hv;have hy:=S8 h hv ht gu hj;obtain⟨k1,k2⟩:=hK;have sx:Region.wanted o (yielded ops a.tmps)=(v==b):=by simp only[Region.wanted,h1,hy];cases v<;>cases b<;>rfl
     by_cases lz:v=b;·subst lz;obtain⟨u,hu,G',aE,s',k3,k4⟩:=Hy (h.congr (DJ hv)) hop (k1 rfl);exact⟨u,ho,.inl ⟨by rw[sx];simp,hu⟩,G',aE,s',k3,k4⟩
     ·have hnb:v= !b:=by cases v<;>cases b<;>first|rfl|exact absurd rfl lz
      subst hnb;obtain⟨G',h'⟩:=(h.congr (DJ hv)).Gh o.dst (λn kI=>by rw[hd] at kI;simp only[kI] at hn;simpa using hn)
      refine⟨undef,ho,.inr ⟨by rw[sx];simp,rfl⟩,G',zl,_,k2 rfl,?_⟩;rw[hd] at h'⊢;exact h'
    ·rename_i hv;have hy:=S9 h hv ht gu hj;have sx:Region.wanted o (yielded ops a.tmps)=false:=by simp only[Region.wanted,h1,hy];rfl
     obtain⟨G',h'⟩:=h.Gh o.dst (λn kI=>by rw[hd] at kI;simp only[kI] at hn;simpa using hn)
     refine⟨undef,ho,.inr ⟨sx,rfl⟩,G',zl,_,hK,?_⟩;rw[hd] at h'⊢;exact h'
    ·exact hK.elim
   ·cases hj
  ·cases hg
 ·cases hc
def jI(c:Ctx)(Q:Ex->ag->Prop):Exit->Act->World->Prop
 |.normal,a,w=>vM c (Q .normal) a w
 |.exit id,a,w=>vM c (Q (.exit id)) a w
 |.ret,a,w=>vM c (Q .ret) a w
 |_,_,_=>False
def rP(P:Program)(nt:Nat)(ops:Array Oper):Nat->List M.G->Bool
 |k,[]=>decide (k=ops.size)
 |k,g::l=>qa P nt ops k g && rP P nt ops (k+1) l
def QV{Q:Ex->ag->Prop}:∀(l:List M.G) (k:Nat) {G:Nat->C} {zl:Nat->Nat->Prop} {s:ag} {a:Act} {w:World},rP P c.nt ops k l=true->St c G zl s a w->kn P l s Q->wpOps P ops (jI c Q) (List.range' k l.length) a w
 |[],k,G,zl,s,a,w,hc,h,hK=>⟨G,zl,s,hK,h⟩
 |g::l,k,G,zl,s,a,w,hc,h,hK=>by simp only[rP,ax] at hc;rw[cV,List.range'_succ,wpOps_cons];refine wpOp_mono (λa' w' ⟨_,G',aE,s',k1,k2⟩=>?_) (Ny h hc.1 hK (jI c Q));exact QV l (k+1) hc.2 k2 k1
def Nz:∀(l:List M.G) (k:Nat),rP P c.nt ops k l=true->k+l.length=ops.size
 |[],k,h=>by simpa [rP] using h
 |g::l,k,h=>by simp only[rP,ax] at h;have:=Nz l (k+1) h.2;simp only[cV];omega
def aeh{Q:Ex->ag->Prop}{l:List M.G}{id:Nat}(hc:rP P c.nt ops 0 l=true)(h:St c G zl s a w)(hK:kn P l s Q):(Code.region id ops false).wp P (jI c Q) a w:=by refine wp_region ?_;have hl:=Nz l 0 hc;rw[List.range_eq_range',<-hl,oo];exact QV l 0 hc h hK
def OY(J7:List Nat)(s:ag)(t:Nat):∀ks:List Nat,get (ks.map λk=>(k,(get s k).only J7)) t=if ks.contains t then (get s t).only J7 else .dead
 |[]=>rfl
 |k::ks=>by
  simp only[bq,get];by_cases h:k=t;·subst h;simp
  ·have h1:(k==t)=false:=by simpa using h
   have h2:(k::ks).contains t=ks.contains t:=by
    simp only[List.contains_cons];have:(t==k)=false:=by simpa using λe=>h e.symm
    rw[this,Bool.false_or]
   rw[h1,h2,rq];exact OY J7 s t ks
def St.keep(h:St c G zl s a w)(ks:List Nat):∃G',St c G' zl (M.keep ks s) a w:=by
 let G':Nat->C:=λt=>if ks.contains t then (G t).ay (C.others ks) else .dead (G t).val
 have hin:∀t,ks.contains t=true->G' t=(G t).ay (C.others ks):=λt ht=>aq ht;have hout:∀t,ks.contains t=false->G' t=.dead (G t).val:=λt ht=>az (by rw[ht];simp)
 have hv:∀t,(G' t).val=(G t).val:=λt=>by
  cases ht:ks.contains t with
  |true=>rw[hin t ht,C.iZ]
  |false=>rw[hout t ht];rfl
 have cg:∀t b k,(G' t).fp b k->(G t).fp b k:=λt b k hf=>by
  cases ht:ks.contains t with
  |true=>rw[hin t ht,C.cM] at hf;exact hf
  |false=>rw[hout t ht] at hf;exact hf.elim
 refine⟨G',h.move ⟨λt=>?_,λt=>?_,λt u hne b k hf hf'=>h.inv.sep t u hne b k (cg t b k hf) (cg u b k hf'),λt b k hf=>h.inv.fz t b k (cg t b k hf),λt=>?_,h.inv.cA⟩ hv (Ext.refl (λ_ _=>False) w) (λ_ _ hs=>hs.elim) (λt b k hf=>.inl ⟨t,cg t b k hf⟩)⟩
 ·unfold M.keep;rw[OY];cases ht:ks.contains t with
  |true=>rw[hin t ht,C.BR,h.inv.er];rfl
  |false=>rw[hout t ht];rfl
 ·cases ht:ks.contains t with
  |true=>rw[hin t ht];exact C.mU _ _ (h.inv.ok t)
  |false=>rw[hout t ht];trivial
 ·cases ht:ks.contains t with
  |true=>
   rw[hin t ht];refine C.lQ (C.others ks) (λs' q y hk hs=>?_) _ (C.gx _ _) (C.nW _ _ (h.inv.rf t));have hs':ks.contains s'=true:=by simpa [C.others] using hk
   rw[hin s' hs'];rcases C.self y _ q hs with ⟨z,hz,hs2⟩|hno;·exact .inl ⟨_,hz.off _,C.iY _ q _ _ (h.inv.ok s') hs2⟩
   ·exact .inr hno
  |false=>rw[hout t ht];trivial
def Ds:cz->Bool
 |.qg _ _ _=>true
 |_=>false
def Xn{ev:Operand->Value}{o:Oper}{ty:TypeId}{fi:Nat}{x':Operand}{fs:Array Field}{f:Field}{i:TypeInfo}(ho:o.op=.fieldAddr ty x' fi)(hu:P.underlying ty=some (.struct fs))(hf:fs[fi]?=some f)(hi:P.info? f.type=some i)(hi0:i.size≠0){v:Value}{w:World}(h:(execOp ev o).run P w=.ok (.value v) w)(w':World):(execOp ev o).run P w'=.ok (.value v) w':=by
 cases hv:ev x' with
 |pointer p=>
  cases p with
  |none=>simp[execOp,ho,hv,Instr.fieldAt,Instr.sureAddr,run_underlying hu,hf] at h
  |some a=>simp[execOp,ho,hv,Instr.fieldAt,Instr.sureAddr,run_underlying hu,hf,fieldPlace,Go.sizeOf,typeInfo,hi,hi0] at h⊢;exact h
 |_=>simp[execOp,ho,hv,Instr.fieldAt,Instr.sureAddr,run_underlying hu,hf] at h
def WI{i:Nat}{g:M.G}(hc:qa P c.nt ops i g=true)(he:Ds g.o=true){o:Oper}{v:Value}(ho:ops[i]?=some o)(hl:ow P ops o v a w):rE P ops o v a:=by
 rcases hl with ⟨h1,h2⟩|h
 ·refine .inl ⟨h1,?_⟩;have h3:=h2 w (Ext.refl _ _);unfold qa at hc;rw[ho] at hc;simp only[ax] at hc;obtain⟨_,hop⟩:=hc;obtain⟨gg,go⟩:=g;cases go<;>simp only[Ds] at he<;>try (cases he)
  unfold y8 at hop;simp only[x9,mg] at hop;unfold Dd at hop;simp only[ax] at hop;have hc:=hop.2;split at hc
  ·rename_i hfo;split at hc
   ·rename_i fs hfs;split at hc;·rename_i f hf;simp only[ax,bx,ru] at hc;obtain⟨⟨⟨h5,h6⟩,h7⟩,h8⟩:=hc;obtain⟨i,hi⟩:=vD.1 h7;exact λw'=>Xn hfo hfs hf hi (λh0=>by simp[ld,hi,h0] at h6) h3 w'
    ·cases hc
   ·cases hc
  ·cases hc
 ·exact .inr h
def DT.kC:DT->List Nat
 |.nil _=>[]
 |.step i _ _=>[i]
 |.alt a b=>a.kC++b.kC
 |.kp _ t=>t.kC
def DT.quiet:DT->Nat->Bool
 |.nil _,_=>true
 |.step i g t,j=>(if i=j then sY g.o else true) && t.quiet j
 |.alt a b,j=>a.quiet j && b.quiet j
 |.kp _ t,j=>t.quiet j
def Ia(ops:Array Oper)(q:Nat->Bool)(t:Nat->Nat->Bool)(listed:Array Bool)(e:Bool)(i:Nat):Bool:=match ops[i]? with
 | some oi => (List.range ops.size).all λj => j == i || listed.getD j true || t j i || ((e || q j) && (match ops[j]? with
  |some oj=>oi.apart ops oj
  |none=>true))
 |none=>false
def gm(P:Program)(nt:Nat)(ops:Array Oper)(q:Nat->Bool)(bf:Nat->Nat->Bool):DT->Nat->Array Bool->Bool->Bool
 |.nil _,_,listed,alt=> !alt && decide (Region.ready .any ops listed=[])
 |.step i g t,fuel,listed,alt=>(match fuel with
  |0=>false
  |fuel+1=>qa P nt ops i g && (!q i||sY g.o) && (alt||decide (Region.ready .any ops listed=[i])||(x9 g.o && (Region.ready .any ops listed).contains i && Ia ops q bf listed (Ds g.o) i)) && gm P nt ops q bf t fuel (listed.setIfInBounds i true) false)
 |.alt a b,fuel,listed,alt=>(alt||decide (Region.ready .any ops listed=a.kC++b.kC)) && gm P nt ops q bf a fuel listed true && gm P nt ops q bf b fuel listed true
 |.kp _ t,fuel,listed,alt=>gm P nt ops q bf t fuel listed alt
def OS{q:Nat->Bool}{t:Nat->Nat->Bool}{listed:Array Bool}{i:Nat}{oi:Oper}{e:Bool}(hi:ops[i]?=some oi)(h:Ia ops q t listed e i=true)(j:Nat)(oj:Oper)(hj:ops[j]?=some oj)(hne:j≠i)(hun:listed.getD j true=false)(hno:t j i=false):oi.apart ops oj=true/\(e=true\/q j=true):=by simp only[Ia,hi,rz,oc] at h;have h1:=h j (gb.1 hj).1;simp only[hj,ry,ei,hne,false_or,hun,iw,hno,ax] at h1;exact⟨h1.2,h1.1⟩
def vg{q:Nat->Bool}{bf:Nat->Nat->Bool}(ij:wk ops bf=true)(hns:Region.noSelect ops=true){Q:Ex->ag->Prop}:∀(t:DT) (fuel:Nat) (listed:Array Bool) {G:Nat->C} {zl:Nat->Nat->Prop} {s:ag} {a:Act} {w:World},Down ops listed->St c G zl s a w->gZ P t s Q->
  (gm P c.nt ops q bf t fuel listed false=true->wpAnyQ P ops q (jI c Q) fuel listed a w)/\
  ((∀i∈t.kC,i∈Region.ready .any ops listed)->gm P c.nt ops q bf t fuel listed true=true->∃f,fuel=f+1/\∀i∈t.kC,wpOp P ops (jI c Q) i (λa' w'=>Rel (q i) w w'/\wpAnyQ P ops q (jI c Q) f (listed.setIfInBounds i true) a' w') a w)
 |.nil ks,fuel,listed,G,zl,s,a,w,hdn,h,hK=>by
  obtain⟨G',h'⟩:=h.keep ks;constructor
  ·intro hc;simp only[gm,Bool.not_false,Bool.true_and,bx] at hc;cases fuel with
   |zero=>exact⟨hc,G',zl,_,hK,h'⟩
   |succ f=>exact⟨λ_=>⟨G',zl,_,hK,h'⟩,by rw[hc];intro i hi;cases hi⟩
  ·intro _ hc;simp[gm] at hc
 |.step i g t,fuel,listed,G,zl,s,a,w,hdn,h,hK=>by
  cases fuel with
  |zero=>exact⟨λhc=>by simp[gm] at hc,λ_ hc=>by simp[gm] at hc⟩
  |succ f=>
   have zZ:i∈Region.ready .any ops listed->Down ops (listed.setIfInBounds i true):=λhr=>by obtain⟨_,o,ho,hall⟩:=mem_ready.1 hr;exact hdn.set ho hall
   have one:i∈Region.ready .any ops listed->gm P c.nt ops q bf t f (listed.setIfInBounds i true) false=true->qa P c.nt ops i g=true->(q i=true->sY g.o=true)->
     wpOp P ops (jI c Q) i (λa' w'=>Rel (q i) w w'/\wpAnyQ P ops q (jI c Q) f (listed.setIfInBounds i true) a' w') a w:=λwU ht hg hq=>
    wpOp_mono (λa' w' ⟨hr,G',aE,s',k1,k2⟩=>⟨λhqi=>hr (hq hqi),(vg ij hns t f _ (zZ wU) k2 k1).1 ht⟩) (Ny h hg hK (jI c Q))
   constructor
   ·intro hc;have hc0:=hc;simp only[gm,ax,ry,bx,iw,false_or] at hc;obtain⟨⟨⟨hg,hq⟩,hr⟩,ht⟩:=hc;have oI:q i=true->sY g.o=true:=λhqi=>by rw[hqi] at hq;simpa using hq
    rcases hr with hr|⟨⟨hr,hrd⟩,nJ⟩;·refine⟨λh0=>(by rw[hr] at h0;cases h0),λj hj=>?_⟩;rw[hr,fG] at hj;subst hj;exact one (by rw[hr];exact fG.2 rfl) ht hg oI
    ·obtain⟨o,v,ho,hl,G',aE,s',k1,k2⟩:=WJ h hg hr hK;have wU:i∈Region.ready .any ops listed:=by simpa using hrd
     cases he:Ds g.o with
     |true=>exact ah4 ho (Region.noSelect_spec hns) (λ_ _ _ hh=>hh.elim) ij f listed a w hdn (λj oj hj hne hun hno=>(OS ho nJ j oj hj hne hun hno).1) wU (WI hg he ho hl) ((vg ij hns t f _ (zZ wU) k2 k1).1 ht)
     |false=>rw[he] at nJ;exact wpAnyQ_first ho (Region.noSelect_spec hns) (λ_ _ _ hh=>hh.elim) ij f listed a w hdn (λj oj hj hne hun hno=>(OS ho nJ j oj hj hne hun hno).imp id λh=>h.resolve_left (by simp)) wU hl ((vg ij hns t f _ (zZ wU) k2 k1).1 ht)
   ·intro IG hc;have hc0:=hc;simp only[gm,ax,ry,bx,true_or] at hc;obtain⟨⟨⟨hg,hq⟩,_⟩,ht⟩:=hc;have oI:q i=true->sY g.o=true:=λhqi=>by rw[hqi] at hq;simpa using hq
    refine⟨f,rfl,λj hj=>?_⟩;rw[DT.kC,fG] at hj;subst hj;exact one (IG j (fG.2 rfl)) ht hg oI
 |.alt t1 t2,fuel,listed,G,zl,s,a,w,hdn,h,hK=>by
  have both:(∀i∈t1.kC++t2.kC,i∈Region.ready .any ops listed)->gm P c.nt ops q bf t1 fuel listed true=true->gm P c.nt ops q bf t2 fuel listed true=true->∃f,fuel=f+1/\∀i∈t1.kC++t2.kC,wpOp P ops (jI c Q) i (λa' w'=>Rel (q i) w w'/\wpAnyQ P ops q (jI c Q) f (listed.setIfInBounds i true) a' w') a w:=λhh h1 h2=>by
   obtain⟨f,hf,i1⟩:=(vg ij hns t1 fuel listed hdn h hK.1).2 (λi hi=>hh i (Mk _ hi)) h1;obtain⟨f',hf',i2⟩:=(vg ij hns t2 fuel listed hdn h hK.2).2 (λi hi=>hh i (Ml _ hi)) h2;have:f'=f:=by omega
   subst this;exact⟨f',hf,λi hi=>(fP.1 hi).elim (i1 i) (i2 i)⟩
  constructor
  ·intro hc;simp only[gm,ax,ry,bx,iw,false_or] at hc;obtain⟨⟨hr,h1⟩,h2⟩:=hc;obtain⟨f,rfl,hi⟩:=both (λi hi=>by rw[hr];exact hi) h1 h2;refine⟨λh0=>?_,λi hi'=>hi i (by rw[<-hr];exact hi')⟩;exfalso;rw[h0] at hr
   have ne:∀{t:DT},gm P c.nt ops q bf t (f+1) listed true=true->t.kC≠[]:=by
    intro t;induction t with
    |nil=>intro hh;simp[gm] at hh
    |step i g t _=>intro _ hh;cases hh
    |alt a b iD _=>intro hh he;simp only[gm,ax] at hh;rw[DT.kC,Tm] at he;exact iD hh.1.2 he.1
    |kp ks t ih=>exact ih
   have:=(Tm.1 hr.symm).1;exact ne h1 this
  ·intro IG hc;simp only[gm,ax,ry,bx,true_or,tn] at hc;exact both IG hc.1 hc.2
 |.kp ks t,fuel,listed,G,zl,s,a,w,hdn,h,hK=>by obtain⟨G',h'⟩:=h.keep ks;exact vg ij hns t fuel listed hdn h' hK
def waits(ops:Array Oper)(j i:Nat):Bool:=((Region.before ops).getD j 0).testBit i
def Hx(P:Program)(nt:Nat)(ops:Array Oper)(t:DT):Bool:=P.follows .mixedOrders && Region.noSelect ops && wk ops (waits ops) && gm P nt ops t.quiet (waits ops) t ops.size (Array.replicate ops.size false) false
def W5{Q:Ex->ag->Prop}{t:DT}{id:Nat}(hc:Hx P c.nt ops t=true)(h:St c G zl s a w)(hK:gZ P t s Q):(Code.region id ops true).wp P (jI c Q) a w:=by
 simp only[Hx,ax] at hc;obtain⟨⟨⟨hm,hns⟩,ij⟩,hc⟩:=hc;refine wp_region_any hm ?_;have hE:Ext (λ_ _=>False) w w.drew:=Ext.drew w _;have h':St c G zl s a w.drew:=h.move (h.inv.world hE λ_ _ hs=>hs.elim) (λ_=>rfl) hE (λ_ _ hs=>hs.elim) (λt b k hf=>.inl ⟨t,hf⟩);have hdn:Down ops (Array.replicate ops.size false):=λk ok _ hl=>by exfalso;simp only[vF,Tu] at hl;split at hl<;>simp at hl
 exact((vg ij hns t ops.size _ hdn h' hK).1 hc).any
end
end M
namespace M
open Go Go.RowKit
variable [Bs]
section
variable {P:Program}{c:Ctx}{G:Nat->C}{zl:Nat->Nat->Prop}{s s':ag}{a:Act}{w:World}
def gK(P:Program)(nt:Nat):A->Code->Bool
 |.skip,.skip=>true
 |.ret,.ret=>true
 |.exit id,.exit id'=>decide (id=id')
 |.ops l,.region _ ops false=>rP P nt ops 0 l
 |.draw t,.region _ ops true=>Hx P nt ops t
 |.seq a b,.seq x y=>gK P nt a x && gK P nt b y
 |.cond c a b,.cond c' x y=>aK c' c && gK P nt a x && gK P nt b y
 |.block id b,.block id' x=>decide (id=id') && gK P nt b x
 |.loop b,.loop x=>gK P nt b x
 |.pk _ b,x=>gK P nt b x
 |_,_=>false
def least(p:Nat->Prop):(∃n,p n)->∃m,p m/\∀k,p k->m<=k:=by
 rintro ⟨n,hn⟩;induction n using Nat.strongRecOn with
 |_ n ih=>
  by_cases h:∃k,k<n/\p k;·obtain⟨k,hk,hp⟩:=h;exact ih k hk hp
  ·exact⟨n,hn,λk hk=>by
    rcases fN k n with hlt|hge;·exact(h ⟨k,hlt,hk⟩).elim
    ·exact hge⟩
def WN:∀(t:A) (code:Code) {Q:Ex->ag->Prop} {G:Nat->C} {zl:Nat->Nat->Prop} {s:ag} {a:Act} {w:World},gK P c.nt t code=true->St c G zl s a w->eM P t s Q->code.wp P (jI c Q) a w:=by
 intro t;induction t with
 |skip=>intro code Q G zl s a w hc h hK;unfold gK at hc;cases code<;>simp at hc;exact wp_skip ⟨G,zl,s,hK,h⟩
 |ret=>intro code Q G zl s a w hc h hK;unfold gK at hc;cases code<;>simp at hc;exact wp_ret ⟨G,zl,s,hK,h⟩
 |exit id=>intro code Q G zl s a w hc h hK;unfold gK at hc;cases code<;>simp at hc;subst hc;exact wp_exit ⟨G,zl,s,hK,h⟩
 |ops l=>
  intro code Q G zl s a w hc h hK;unfold gK at hc;cases code with
  |region id os d=>
   cases d with
   |false=>exact aeh hc h hK
   |true=>simp at hc
  |_=>simp at hc
 |draw t=>
  intro code Q G zl s a w hc h hK;unfold gK at hc;cases code with
  |region id os d=>
   cases d with
   |true=>exact W5 hc h hK
   |false=>simp at hc
  |_=>simp at hc
 |seq x y JU JV=>
  intro code Q G zl s a w hc h hK;unfold gK at hc;cases code with
  |seq x' y'=>
   simp only[ax] at hc;refine wp_seq (wp_mono (JU x' hc.1 h hK) λe a w he=>?_);cases e with
   |normal=>obtain⟨G,zl,s,k,h⟩:=he;exact JV y' hc.2 h k
   |exit id=>exact he
   |ret=>exact he
   |goto l=>exact he.elim
   |panic ch=>exact he.elim
   |outgrown=>exact he.elim
  |_=>simp at hc
 |cond cc x y JU JV=>
  intro code Q G zl s a w hc h hK;unfold gK at hc;cases code with
  |cond c' x' y'=>
   simp only[ax] at hc;obtain⟨⟨h1,h2⟩,h3⟩:=hc;obtain⟨d,e1,e2,e3⟩:=cx h h1;simp only[eM] at hK;split at hK;·rename_i b hb;rw[<-e1] at hb;have:=rV hb;subst this;exact wp_cond_split (by rw[<-e2];rfl) (λht=>JU x' h2 h (hK.1 ht)) (λhf=>JV y' h3 h (hK.2 hf))
   ·exact hK.elim
  |_=>simp at hc
 |block id b ih=>
  intro code Q G zl s a w hc h hK;unfold gK at hc;cases code with
  |block id' x=>
   simp only[ax,bx] at hc;obtain⟨rfl,hc⟩:=hc;refine wp_block (wp_mono (ih x hc h hK) λe a w he=>?_);cases e with
   |normal=>exact he
   |exit i=>
    obtain⟨G,zl,s,k,h⟩:=he;simp only at k;show if i=id then jI c Q .normal a w else jI c Q (.exit i) a w
    by_cases hi:i=id;·subst hi;rw[aq rfl];simp only[beq_self_eq_true,mg] at k;exact⟨G,zl,s,k,h⟩
    ·rw[az hi];have:(i==id)=false:=by simpa using hi
     rw[this] at k;exact⟨G,zl,s,k,h⟩
   |ret=>exact he
   |goto l=>exact he.elim
   |panic ch=>exact he.elim
   |outgrown=>exact he.elim
  |_=>simp at hc
 |loop b ih=>
  intro code Q G zl s a w hc h hK;unfold gK at hc;cases code with
  |loop x=>
   obtain⟨I,⟨n,hn⟩,abl⟩:=hK;let J:Nat->Act->World->Prop:=λn a w=>vM c (I n) a w;have IL:=λa w=>least (λn=>J n a w);let μ:Act->World->Nat:=λa w=>by classical exact if hh:∃n,J n a w then Classical.choose (IL a w hh) else 0
   have hμ:∀a w,(∃n,J n a w)->J (μ a w) a w/\∀k,J k a w->μ a w<=k:=λa w hh=>by have hspec:=CD (IL a w hh);have:μ a w=Classical.choose (IL a w hh):=oq hh;rw[this];exact hspec
   refine wp_loop (λa w=>∃n,J n a w) μ ?_ λa w hI=>?_;·exact⟨n,G,zl,s,hn,h⟩
   ·obtain⟨⟨G1,tu,s1,k1,h1⟩,_⟩:=hμ a w hI;refine wp_mono (ih x hc h1 (abl _ s1 k1)) λe a' w' he=>?_;cases e with
    |normal=>obtain⟨G2,tw,s2,⟨m,hm,hI2⟩,h2⟩:=he;have hJ:J m a' w':=⟨G2,tw,s2,hI2,h2⟩;exact⟨⟨m,hJ⟩,Nat.lt_of_le_of_lt ((hμ a' w' ⟨m,hJ⟩).2 m hJ) hm⟩
    |exit id=>exact he
    |ret=>exact he
    |goto l=>exact he.elim
    |panic ch=>exact he.elim
    |outgrown=>exact he.elim
  |_=>simp at hc
 |pk ks b ih=>
  intro code Q G zl s a w hc h hK;have hc:gK P c.nt b code=true:=by cases b<;>cases code<;>first|exact hc|(rename_i d;cases d<;>exact hc)
  refine wp_mono (ih code hc h hK) λe a w he=>?_;cases e with
  |normal=>obtain⟨G,zl,s,k,h⟩:=he;obtain⟨G',h'⟩:=h.keep ks;exact⟨G',zl,_,k,h'⟩
  |exit id=>exact he
  |ret=>exact he
  |goto l=>exact he.elim
  |panic ch=>exact he.elim
  |outgrown=>exact he.elim
end
end M
namespace M
open Go Go.RowKit
variable [Bs]
def B8:Nat->List X->ag
 |_,[]=>[]
 |i,x::l=>(i,alias (base+i) [] x)::B8 (i+1) l
def B9:Nat->List X->ag
 |_,[]=>[]
 |i,x::l=>(base+i,x)::B9 (i+1) l
def ny(xs:List X):ag:=B8 0 xs++B9 0 xs
def X.mP:X->Bool
 |.aj _=>true
 |_=>false
def post(x:X):X:=bif x.clean then x else .dead
inductive RV where
 |t (n:Nat)
 |c (n sz:Nat) (agg:Bool) (ty:TypeId)
def dU:List RV->ag->List X×ag
 |[],s=>([],s)
 |.t n::l,s=>((take .mv (ak s (.t n)) s).1::(dU l (take .mv (ak s (.t n)) s).2).1,(dU l (take .mv (ak s (.t n)) s).2).2)
 |.c n sz agg _::l,s=>((match get s n with
  |.ptr .own cs=>if cs.length=sz then (bif agg then .agg (X.gv n [] cs) else (X.gv n [] cs).headD (.aj [])) else .aj []
  |_=>.aj [])::(dU l (iJ n [] .dead s)).1,(dU l (iJ n [] .dead s)).2)
def uV:List X->X
 |[x]=>x
 |l=>.aj l
def qT:Nat->Nat->ag->List X
 |_,0,_=>[]
 |i,n+1,s=>post (get s (base+i))::qT (i+1) n s
def Ends(rs:List RV)(n:Nat)(Q:X->List X->Prop):Ex->ag->Prop
 |.exit _,_=>False
 |_,s=>X.clean.cB (dU rs s).1=true/\(∀x∈(dU rs s).1,x.mP=false)/\Q (uV (dU rs s).1) (qT 0 n (dU rs s).2)
namespace C
def tX:∀c:C,c.er.clean=true->c.bare
 |.ref _ _ _,h=>by simp[er,X.clean] at h
 |.ai _ _ _ _ _,h=>by simp[er,X.clean] at h
 |.cut _ _ _ _ _,h=>by simp[er,X.clean] at h
 |.ptr m g o n c,h=>λj hj=>tX (c j) (by simp only[er,X.clean,ax] at h;exact jO.1 h.2 _ (aT.2 ⟨j,by simpa using hj,rfl⟩))
 |.agg n c,h=>λj hj=>tX (c j) (by simp only[er,X.clean] at h;exact jO.1 h _ (aT.2 ⟨j,by simpa using hj,rfl⟩))
 |.aj n c,h=>λj hj=>tX (c j) (by simp only[er,X.clean] at h;exact jO.1 h _ (aT.2 ⟨j,by simpa using hj,rfl⟩))
 |.fn f n c,h=>λj hj=>tX (c j) (by simp only[er,X.clean] at h;exact jO.1 h _ (aT.2 ⟨j,by simpa using hj,rfl⟩))
 |.dead _,_=>trivial
 |.int _ _,_=>trivial
 |.bool _,_=>trivial
 |.str _,_=>trivial
 |.row _ _ _ _ _ _,_=>trivial
variable {w:World}{zl zb:Nat->Nat->Prop}
def qc:∀c:C,c.er.clean=true->c.ok w (Zf zl zb)->c.ok w (Zf zl λ_ _=>False)
 |.ref _ _ _,h,_=>by simp[er,X.clean] at h
 |.ai _ _ _ _ _,h,_=>by simp[er,X.clean] at h
 |.cut _ _ _ _ _,h,_=>by simp[er,X.clean] at h
 |.row m sz A len cap e,h,ho=>by
  simp only[er,X.clean,ax] at h;obtain⟨h1,h2,h3,h4,h5⟩:=ho;refine⟨h1,λi j hi hj=>?_,λi j hi hj=>?_,h4,h5⟩
  ·obtain⟨g,o,q1,q2,q3⟩:=h2 i j hi hj;refine⟨g,o,q1,q2,λhm=>?_⟩;cases m with
   |own=>exact(hm rfl).elim
   |sl=>exact q3 hm
   |af=>simp at h
  ·obtain⟨a1,a2,a3,a4⟩:=h3 i j hi hj;exact⟨a1,a2,a3,qc (e i j) (NC.1 h.2 _ (aT.2 ⟨i,by simpa using hi,rfl⟩) _ (aT.2 ⟨j,by simpa using hj,rfl⟩)) a4⟩
 |.ptr m g o n c,h,ho=>by
  simp only[er,X.clean,ax] at h;obtain⟨h1,h2,h3,h4⟩:=ho;refine⟨λj hj=>?_,h2,λj hj=>?_,h4⟩
  ·obtain⟨a1,a2,a3⟩:=h1 j hj;refine⟨a1,λhm=>?_,a3⟩;cases m with
   |own=>exact(hm rfl).elim
   |sl=>exact a2 hm
   |af=>simp at h
  ·obtain⟨a1,a2,a3⟩:=h3 j hj;exact⟨a1,a2,qc (c j) (jO.1 h.2 _ (aT.2 ⟨j,by simpa using hj,rfl⟩)) a3⟩
 |.agg n c,h,ho=>by simp only[er,X.clean] at h;exact⟨λj hj=>⟨(ho.1 j hj).1,qc (c j) (jO.1 h _ (aT.2 ⟨j,by simpa using hj,rfl⟩)) (ho.1 j hj).2⟩,ho.2⟩
 |.aj n c,h,ho=>by simp only[er,X.clean] at h;exact⟨λj hj=>⟨(ho.1 j hj).1,qc (c j) (jO.1 h _ (aT.2 ⟨j,by simpa using hj,rfl⟩)) (ho.1 j hj).2⟩,ho.2⟩
 |.fn f n c,h,ho=>λj hj=>⟨qc (c j) (by simp only[er,X.clean] at h;exact jO.1 h _ (aT.2 ⟨j,by simpa using hj,rfl⟩)) (ho j hj).1,(ho j hj).2⟩
 |.dead _,_,_=>trivial
 |.int _ _,_,_=>trivial
 |.bool _,_,_=>trivial
 |.str _,_,h=>h
end C
def O1(i:Nat):∀(xs:List X) (r:ag) (t:Nat),get (B8 i xs++r) t=if i<=t/\t<i+xs.length then alias (base+t) [] (xs.getD (t - i) .dead) else get r t
 |[],r,t=>by rw[az (by simp only[jl];omega)];rfl
 |x::xs,r,t=>by
  simp only[B8,gE];rw[wK,O1 (i+1) xs];by_cases h:t=i;·subst h;rw[aq rfl,aq ⟨de _,by simp only[cV];omega⟩,Gx];rfl
  ·rw[az h];by_cases h2:i+1<=t/\t<i+1+xs.length;·rw[aq h2,aq ⟨by omega,by simp only[cV];omega⟩,show t - i=(t - (i+1))+1 by omega];rfl
   ·rw[az h2,az (by simp only[cV];omega)]
def O2(i:Nat):∀(xs:List X) (t:Nat),get (B9 i xs) t=if base+i<=t/\t<base+i+xs.length then xs.getD (t - (base+i)) .dead else .dead
 |[],t=>by rw[az (by simp only[jl];omega)];rfl
 |x::xs,t=>by
  simp only[B9];rw[wK,O2 (i+1) xs];by_cases h:t=base+i;·subst h;rw[aq rfl,aq ⟨de _,by simp only[cV];omega⟩,Gx];rfl
  ·rw[az h];by_cases h2:base+(i+1)<=t/\t<base+(i+1)+xs.length;·rw[aq h2,aq ⟨by omega,by simp only[cV];omega⟩,show t - (base+i)=(t - (base+(i+1)))+1 by omega];rfl
   ·rw[az h2,az (by simp only[cV];omega)]
def aff{w:World}{zl zb:Nat->Nat->Prop}{cs:List C}(h:nv w zl zb cs)(iC:pX w zl zb){nt:Nat}(hn:cs.length<=nt)(hnt:nt<=base):
  ∃G,St ⟨w,λb k=>∃x∈cs,x.fp b k,zl,zb,nt,cs.map C.val⟩ G zl (ny (cs.map C.er)) ⟨(cs.map C.val).toArray++Array.replicate (nt - (cs.map C.val).toArray.size) undef,[]⟩ w:=by
 let G:Nat->C:=λt=>if t<cs.length then (cs.getD t (.dead undef)).alias (base+t) [] else if base<=t/\t<base+cs.length then cs.getD (t - base) (.dead undef) else .dead undef
 have g1:∀t,t<cs.length->G t=(cs.getD t (.dead undef)).alias (base+t) []:=λt ht=>aq ht;have g2:∀t,t<cs.length->G (base+t)=cs.getD t (.dead undef):=λt ht=>by show (if _ then _ else _:C)=_;rw[az (by omega),aq (by omega),Nat.add_sub_cancel_left]
 have g3:∀t,¬t<cs.length->¬(base<=t/\t<base+cs.length)->G t=.dead undef:=λt h1 h2=>by show (if _ then _ else _:C)=_;rw[az h1,az h2]
 have hm:∀t,t<cs.length->cs.getD t (.dead undef)∈cs:=λt ht=>cP ht _
 have C9:∀t,(t<cs.length/\t<base)\/(∃u,u<cs.length/\t=base+u)\/(G t=.dead undef/\¬t<cs.length/\¬(base<=t/\t<base+cs.length)):=λt=>by
  by_cases h1:t<cs.length;·exact .inl ⟨h1,by omega⟩
  ·by_cases h2:base<=t/\t<base+cs.length;·exact .inr (.inl ⟨t - base,by omega,by omega⟩)
   ·exact .inr (.inr ⟨g3 t h1 h2,h1,h2⟩)
 have hal:∀t,t<cs.length->(G t).ok w (Zf zl zb)/\(G t).rf G/\∀b k,¬(G t).fp b k:=λt ht=>by rw[g1 t ht];have hx:=hm t ht;exact C.MC (base+t) _ (g2 t ht) (h.ok _ hx) (C.rL G _ (h.bare _ hx))
 have cg:∀t b k,(G t).fp b k->∃u,u<cs.length/\t=base+u/\(cs.getD u (.dead undef)).fp b k:=λt b k hf=>by
  rcases C9 t with ⟨h1,_⟩|⟨u,hu,rfl⟩|⟨h1,_⟩;·exact((hal t h1).2.2 b k hf).elim
  ·rw[g2 u hu] at hf;exact⟨u,hu,rfl,hf⟩
  ·rw[h1] at hf;exact hf.elim
 refine⟨G,⟨⟨λt=>?_,λt=>?_,λt u hne b k hf hf'=>?_,λt b k hf=>?_,λt=>?_,h.cA⟩,λt ht=>?_,?_,hnt,rfl,⟨Ext.refl _ _,λt b k hf=>?_,λ_ _ hz=>hz,λ_ _ hz=>.inl hz,iC,λb k hb ⟨x,hx,hf⟩=>((iC b hb).2 k).elim (h.fz x hx b k hf).1 (h.fz x hx b k hf).2⟩,λi v hi=>?_⟩⟩
 ·have hgd:∀u,(cs.map C.er).getD u .dead=(cs.getD u (.dead undef)).er:=λu=>by rw[kT,kT,cS];cases cs[u]?<;>rfl
  unfold ny;rw[O1,O2,cW,hgd,hgd];rcases C9 t with ⟨h1,h2⟩|⟨u,hu,rfl⟩|⟨h1,h2,h3⟩;·rw[aq ⟨by omega,by omega⟩,g1 t h1,C.MD,yG]
  ·rw[az (by omega),aq ⟨by omega,by omega⟩,g2 u hu,show base+u - (base+0)=u by omega]
  ·rw[az (by omega),az (by omega),h1];rfl
 ·rcases C9 t with ⟨h1,_⟩|⟨u,hu,rfl⟩|⟨h1,_⟩;·exact(hal t h1).1
  ·rw[g2 u hu];exact h.ok _ (hm u hu)
  ·rw[h1];trivial
 ·obtain⟨x,hx,e1,h1⟩:=cg t b k hf;obtain⟨y,hy,e2,h2⟩:=cg u b k hf';exact x8 h.apart _ hx hy (λe=>hne (by rw[e1,e2,e])) h1 h2
 ·obtain⟨x,hx,e1,h1⟩:=cg t b k hf;exact h.fz _ (hm x hx) b k h1
 ·rcases C9 t with ⟨h1,_⟩|⟨u,hu,rfl⟩|⟨h1,_⟩;·exact(hal t h1).2.1
  ·rw[g2 u hu];exact C.rL G _ (h.bare _ (hm u hu))
  ·rw[h1];trivial
 ·rw[vF,Array.getElem?_append];simp only[mZ,cW];by_cases h1:t<cs.length;·rw[aq h1,g1 t h1,C.ME,yL,cS,cm h1,qj (cm h1)];rfl
  ·rw[az h1,g3 t h1 (by omega),Tu];split<;>rfl
 ·simp only[LQ,mZ,cW,Array.size_replicate];omega
 ·obtain⟨x,hx,e1,h1⟩:=cg t b k hf;exact .inl ⟨_,hm x hx,h1⟩
 ·simp only[cS] at hi;cases hc:cs[i]? with
  |none=>rw[hc] at hi;cases hi
  |some x=>
   rw[hc] at hi;injection hi with hi
   have hlt:=(aQ.1 hc).1;rw[g2 i hlt,qj hc,hi]
end M
namespace M
open Go Go.RowKit
variable [Bs]
def tW(P:Program):List ResultVar->List RV->Bool
 |[],[]=>true
 |.tmp t::l,.t t'::l'=>t==t' && decide (t<base) && tW P l l'
 |.cell a ty::l,.c n sz agg ty'::l'=>a==n && decide (n<base) && ty==ty' && ld P ty sz && uJ P ty agg && (agg||decide (sz=1)) && tW P l l'
 |_,_=>false
section
variable {P:Program}{w:World}
def acE(x:C)(h:x.er.mP=false):x.fJ:=by cases x<;>first|trivial|(simp[C.er,X.mP] at h)
def Ky:List Value->Value
 |[v]=>v
 |l=>.tuple l.toArray
def B1(tmps:Array Value):ResultVar->Sem Value
 |.tmp t=>pure (tmps.getD t undef)
 |.cell a t=>do loadVar t (<-asAddr (tmps.getD a undef))
def aeI{fn:Func}{vs:List Value}(tmps:Array Value)(h:(fn.results.toList.mapM (B1 tmps)).run P w=.ok vs w):(results fn tmps).run P w=.ok (Ky vs) w:=by
 unfold results;rw[Array.mapM_eq_mapM_toList];rw[Sem.run_bind,Sem.run_map];erw [h];simp only[Result.andThen_ok,Sem.run_pure];match vs with
 |[]=>rfl
 |[v]=>rfl
 |u::v::l=>simp[Ky]
def K4{c:Ctx}{zl:Nat->Nat->Prop}{a:Act}:∀{l':List ResultVar} {l:List RV},tW P l' l=true->∀{G:Nat->C} {s:ag},St c G zl s a w->(∀x∈(dU l s).1,x.mP=false)->
  ∃cs G',cs.map C.er=(dU l s).1/\(l'.mapM (B1 a.tmps)).run P w=.ok (cs.map C.val) w/\bN w zl c.zb G cs G' (dU l s).2
 |[],[],_,G,s,h,_=>⟨[],G,rfl,by simp,bN.nil h.inv⟩
 |.tmp t::l',.t t'::l,hc,G,s,h,hk=>by
  simp only[tW,ax,ei,bx] at hc;obtain⟨⟨rfl,ht⟩,hc⟩:=hc;obtain⟨p,p1,p2,p3⟩:=cx h (o:=.tmp t) (x:=.t t) (by simp[aK,ht]);obtain⟨y,G1,f1,f2,f3,f4⟩:=qZ .mv h.inv p3;rw[p1] at f1 f4;obtain⟨cs,G',g1,g2,g3⟩:=K4 hc (h.yu f4) λx hx=>hk x (cE _ hx);refine⟨y::cs,G',by simp[dU,f1,g1],?_,bN.cons f4 g3⟩;have hv:a.tmps.getD t undef=y.val:=by rw[f2,p2];rfl
  simp only[List.mapM_cons,B1,Sem.run_bind,Sem.run_pure,Result.andThen_ok,g2,hv,bq]
 |.cell ad ty::l',.c n sz agg ty'::l,hc,G,s,h,hk=>by
  simp only[tW,ax,ei,bx] at hc;obtain⟨⟨⟨⟨⟨⟨rfl,ht⟩,rfl⟩,hsz⟩,nI⟩,h1⟩,hc⟩:=hc
  have hk0:(match get s ad with
   |.ptr .own cs=>if cs.length=sz then (bif agg then .agg (X.gv ad [] cs) else (X.gv ad [] cs).headD (.aj [])) else .aj []
   |_=>.aj []:X).mP=false:=hk _ (bz ..)
  split at hk0
  ·rename_i cs0 hg;split at hk0
   ·rename_i hlen;obtain⟨D,G1,t1,t2,t3,t4,t5,t6,t7,t8,t9,t10,t11,t12⟩:=h.inv.vf ad [] (G ad) rfl;rw[h.inv.er,hg] at t1;simp only[X.kill] at t1;obtain⟨g,o,m,f,rfl,hcs⟩:=HO t1;have hm:m=sz:=by have:=dw List.length hcs;rw[X.J6] at this;simpa [hlen] using this.symm
    subst hm;obtain⟨q1,q2,q3,q4⟩:=t4;have hin:∀j,j<m->∀b k,(f j).fp b k->(C.ptr .own g o m f).fp b k:=λj hj b k hf=>C.kJ (q3 j hj).1 (q3 j hj).2.1 hj hf;have Iv:a.tmps.getD ad undef=.pointer (some ⟨g,o,none⟩):=by rw[<-h.val ad ht,<-t2];rfl
    obtain⟨ii,hi,kE⟩:=r8 hsz;obtain⟨dd,zL,hda⟩:=Bu nI;have uv:(isAgg ty).run P w=.ok agg w:=by subst hda;simp only[isAgg,Sem.run_bind,run_underlying zL,Result.andThen_ok];cases dd<;>rfl
    have hsize:(Go.sizeOf ty).run P w=.ok m w:=by simp[Go.sizeOf,typeInfo,hi,kE]
    have hl:(loadCells ⟨g,o,none⟩ m).run P w=.ok ((List.range m).map λj=>(f j).val).toArray w:=run_loadCells w _ m _ (λj hj=>by rw[rG];exact(q1 j hj).1)
    have fin:∀y:C,(∀b k,y.fp b k->(C.ptr .own g o m f).fp b k)->y.ok w (Zf zl c.zb)->y.rf G1->y.er=(if cs0.length=m then (bif agg then .agg (X.gv ad [] cs0) else (X.gv ad [] cs0).headD (.aj [])) else .aj [])->(loadVar ty ⟨g,o,none⟩).run P w=.ok y.val w->
      ∃cs G',cs.map C.er=(dU (.c ad m agg ty::l) s).1/\((ResultVar.cell ad ty::l').mapM (B1 a.tmps)).run P w=.ok (cs.map C.val) w/\bN w zl c.zb G cs G' (dU (.c ad m agg ty::l) s).2:=λy LG yok yrf yer ais=>by
     have jw:fD w zl c.zb G y G1 (iJ ad [] .dead s):=⟨t3,yok,yrf,λt b k hf=>t8 t b k (LG b k hf),λb k hf=>h.inv.fz ad b k (t9 b k (LG b k hf)),t10,λb k hf=>⟨ad,t9 b k (LG b k hf)⟩,t11⟩;obtain⟨cs,G',g1,g2,g3⟩:=K4 hc (h.yu jw) λx hx=>hk x (cE _ hx);refine⟨y::cs,G',?_,?_,bN.cons jw g3⟩;·simp only[bq,dU,hg,yer,g1]
     ·simp only[List.mapM_cons,B1,Iv,asAddr,Sem.run_bind,Sem.run_pure,Result.andThen_ok,ais,g2,bq]
    cases agg with
    |true=>
     refine fin (.agg m f) (λb k ⟨j,hj,hf⟩=>hin j hj b k hf) ⟨λj hj=>⟨(q3 j hj).1,(q3 j hj).2.2⟩,λj hj b k hf=>(q4 j hj b k hf).2⟩ t5 ?_ ?_;·rw[aq hlen,mg,hcs];rfl
     ·simp only[loadVar,Sem.run_bind,uv,Result.andThen_ok,eL,hsize,hl,Sem.run_pure];rfl
    |false=>
     have hs1:m=1:=by simpa using h1
     subst hs1;refine fin (f 0) (λb k hf=>hin 0 (by omega) b k hf) (q3 0 (by omega)).2.2 (t5 0 (by omega)) ?_ ?_;·rw[aq hlen,rq,hcs];rfl
     ·have:=(q1 0 (by omega)).1;simp only[loadVar,Sem.run_bind,uv,Result.andThen_ok,iw,gW,run_load];simp only[nh] at this;rw[this]
   ·simp[X.mP] at hk0
  ·simp[X.mP] at hk0
 |[],_::_,hc,_,_,_,_=>by cases hc
 |.tmp _::_,[],hc,_,_,_,_=>by cases hc
 |.cell _ _::_,[],hc,_,_,_,_=>by cases hc
 |.tmp _::_,.c _ _ _ _::_,hc,_,_,_,_=>by cases hc
 |.cell _ _::_,.t _::_,hc,_,_,_,_=>by cases hc
def adZ{c:Ctx}{G:Nat->C}{zl:Nat->Nat->Prop}{s:ag}(h:Inv w zl c.zb G s)(t:Nat):∃p:C,p.er=post (get s t)/\p.val=(G t).val/\p.ok w (Zf zl λ_ _=>False)/\p.bare/\∀b k,p.fp b k->(G t).fp b k:=by
 unfold post;cases hc:(get s t).clean with
 |true=>rw[<-h.er] at hc;exact⟨G t,h.er t,rfl,C.qc _ hc (h.ok t),C.tX _ hc,λ_ _ hf=>hf⟩
 |false=>exact⟨.dead (G t).val,rfl,rfl,trivial,trivial,λ_ _ hf=>hf.elim⟩
def Q5{c:Ctx}{G:Nat->C}{zl:Nat->Nat->Prop}{s:ag}(h:Inv w zl c.zb G s):∀(n i:Nat),∃ps:List C,ps.map C.er=qT i n s/\ps.map C.val=(List.range' i n).map (λj=>(G (base+j)).val)/\(∀p∈ps,p.ok w (Zf zl λ_ _=>False)/\p.bare/\∃t,i<=t/\∀b k,p.fp b k->(G (base+t)).fp b k)/\ps.Pairwise λa b=>∀x k,a.fp x k->¬b.fp x k
 |0,i=>⟨[],rfl,rfl,λ_ hx=>(by cases hx),List.Pairwise.nil⟩
 |n+1,i=>by
  obtain⟨p,p1,p2,p3,p4,p5⟩:=adZ h (base+i);obtain⟨ps,q1,q2,q3,q4⟩:=Q5 h n (i+1);refine⟨p::ps,by simp[qT,p1,q1],by simp[List.range'_succ,p2,q2],λx hx=>?_,eC.2 ⟨λx hx b k hf hf'=>?_,q4⟩⟩
  ·rcases bO.1 hx with rfl|hx;·exact⟨p3,p4,i,de _,p5⟩
   ·obtain⟨a1,a2,t,ht,a3⟩:=q3 x hx;exact⟨a1,a2,t,by omega,a3⟩
  ·obtain⟨_,_,t,ht,a3⟩:=q3 x hx;exact h.sep (base+i) (base+t) (by omega) b k (p5 b k hf) (a3 b k hf')
structure Told (P:Program) (f:FuncId) (t:A) (rs:List RV) (n:Nat):Prop where
 told:∃fn code,P.funcs[f]?=some fn/\fn.body=some code/\gK P fn.ntmps t code=true/\tW P fn.results.toList rs=true/\fn.ntmps<=base/\n<=fn.ntmps
def Told.ac{f:FuncId}{t:A}{rs:List RV}{n:Nat}(hT:Told P f t rs n){xs:List X}(hn:xs.length=n){Q:X->List X->Prop}(h:eM P t (ny xs) (Ends rs n Q)):AC P f xs Q:=by
 intro w zl zb cs hxs hA iC;obtain⟨fn,code,hf,hb,hc,hr,hnt,kI⟩:=hT.told;have hcl:cs.length=n:=by rw[<-hn,<-hxs];simp
 obtain⟨G,hst⟩:=aff hA iC (nt:=fn.ntmps) (by omega) hnt;rw[hxs] at hst;refine calls_of_wp hf hb (wp_mono (WN t code hc hst h) λe a w' he=>?_)
 have fin:∀{G:Nat->C} {aE:Nat->Nat->Prop} {s:ag},St ⟨w,λb k=>∃x∈cs,x.fp b k,zl,zb,fn.ntmps,cs.map C.val⟩ G aE s a w'->(X.clean.cB (dU rs s).1=true/\(∀x∈(dU rs s).1,x.mP=false)/\Q (uV (dU rs s).1) (qT 0 n (dU rs s).2))->
   a.defers=[]/\∃v,(results fn a.tmps).run P w'=.ok v w'/\∃r ps aE,Mt w zl cs (.returned v) w' r ps aE/\Q r.er (ps.map C.er):=by
  intro G aE s h ⟨k1,k2,k3⟩;obtain⟨nY,G1,g1,g2,jw⟩:=K4 hr h k2;refine⟨h.defers,_,aeI a.tmps g2,?_⟩;rw[<-g1] at k1 k2 k3;obtain⟨ps,p1,p2,p3,p4⟩:=Q5 (c:=⟨w,λb k=>∃x∈cs,x.fp b k,zl,zb,fn.ntmps,cs.map C.val⟩) jw.inv n 0;have hrc:∀x∈nY,x.er.clean=true:=λx hx=>jO.1 k1 _ (j8 hx)
  obtain⟨r,r1,r2,r3,r4,r5⟩:∃r:C,r.er=uV (nY.map C.er)/\r.val=Ky (nY.map C.val)/\r.ok w' (Zf aE λ_ _=>False)/\r.bare/\∀b k,r.fp b k->∃x∈nY,x.fp b k:=by
   by_cases h1:nY.length=1;·obtain⟨x,rfl⟩:=List.length_eq_one_iff.1 h1;refine⟨x,rfl,rfl,C.qc x (hrc x (fG.2 rfl)) (jw.all x (fG.2 rfl)).1,C.tX x (hrc x (fG.2 rfl)),λb k hf=>⟨x,fG.2 rfl,hf⟩⟩
   ·refine⟨.aj nY.length λj=>nY.getD j (.dead undef),?_,?_,⟨λj hj=>⟨?_,C.qc _ (hrc _ (cP hj _)) (jw.all _ (cP hj _)).1⟩,λj hj b k hf j' hj' hne=>x8 jw.apart _ hj hj' hne hf⟩,λj hj=>C.tX _ (hrc _ (cP hj _)),λb k ⟨j,hj,hf⟩=>⟨_,cP hj _,hf⟩⟩
    ·show X.aj _=_;rw[mV nY _ C.er];cases nY with
     |nil=>rfl
     |cons x l=>cases l with
      |nil=>simp at h1
      |cons y l=>rfl
    ·show Value.tuple _=_;rw[mV nY _ C.val];cases nY with
     |nil=>rfl
     |cons x l=>cases l with
      |nil=>simp at h1
      |cons y l=>rfl
    ·have:=k2 _ (j8 (cP hj (.dead undef)));exact acE _ this
  refine⟨r,ps,aE,?_,by rw[r1,p1];exact k3⟩;have aay:∀t b k,(G1 t).fp b k->(∃y∈cs,y.fp b k)\/w.heap.size<=b:=λt b k hf=>h.tr.dom t b k (jw.mono t b k hf);have hrd:∀b k,r.fp b k->(∃y∈cs,y.fp b k)\/w.heap.size<=b:=λb k hf=>by obtain⟨x,hx,hf⟩:=r5 b k hf;obtain⟨t,ht⟩:=(jw.all x hx).2.2.2 b k hf;exact h.tr.dom t b k ht
  refine⟨by rw[r2],?_,h.tr.ext,⟨λx hx=>?_,λx hx=>?_,λx hx b k hf=>?_,λb k hz=>jw.inv.cA b k (hz.imp id λh=>h.elim),eC.2 ⟨λx hx b k hf hf'=>?_,p4⟩⟩,λx hx b k hf=>?_,h.tr.pV,h.tr.zl⟩
  ·rw[p2,List.range_eq_range'.symm];apply gX;intro i;rw[cS,cS];by_cases hi:i<n;·rw[pR hi,cm (by omega)];simp only[cC,dr];rw[jw.val];exact h.args i _ (by rw[cS,cm (by omega)];rfl)
   ·rw[iL (by simp;omega),iL (by omega)];rfl
  ·rcases bO.1 hx with rfl|hx;·exact r3
   ·exact(p3 x hx).1
  ·rcases bO.1 hx with rfl|hx;·exact r4
   ·exact(p3 x hx).2.1
  ·refine⟨?_,λh=>h⟩;rcases bO.1 hx with rfl|hx;·obtain⟨y,hy,hf⟩:=r5 b k hf;exact((jw.all y hy).2.2.1 b k hf).1
   ·obtain⟨_,_,t,_,a3⟩:=p3 x hx;exact(jw.inv.fz _ b k (a3 b k hf)).1
  ·obtain⟨y,hy,hf⟩:=r5 b k hf;obtain⟨_,_,t,_,a3⟩:=p3 x hx;exact(jw.all y hy).2.1 _ b k hf (a3 b k hf')
  ·rcases bO.1 hx with rfl|hx;·exact hrd b k hf
   ·obtain⟨_,_,t,_,a3⟩:=p3 x hx;exact aay _ b k (a3 b k hf)
 cases e with
 |normal=>obtain⟨G,aE,s,k,h⟩:=he;exact fin h k
 |ret=>obtain⟨G,aE,s,k,h⟩:=he;exact fin h k
 |exit id=>obtain⟨G,aE,s,k,h⟩:=he;exact k.elim
 |goto l=>exact he.elim
 |panic ch=>exact he.elim
 |outgrown=>exact he.elim
def Sq(P:Program)(fn:Func)(t:A)(rs:List RV)(n:Nat):Bool:=match fn.body with
 |some code=>gK P fn.ntmps t code && tW P fn.results.toList rs && decide (fn.ntmps<=base) && decide (n<=fn.ntmps)
 |none=>false
def Told.of{f:FuncId}{fn:Func}{t:A}{rs:List RV}{n:Nat}(hf:P.funcs[f]?=some fn)(h:Sq P fn t rs n=true):Told P f t rs n:=by
 unfold Sq at h;split at h;·rename_i code hc;simp only[ax,bx] at h;exact⟨fn,code,hf,hc,h.1.1.1,h.1.1.2,h.1.2,h.2⟩
 ·cases h
end
end M
namespace M
open Go
def AC.mono[Bs]{P:Program}{f:FuncId}{xs:List X}{Q Q':X->List X->Prop}(h:AC P f xs Q)(hq:∀r ps,Q r ps->Q' r ps):AC P f xs Q':=
 λw zl zb cs e a g=>(h w zl zb cs e a g).mono λ_ _ ⟨r,ps,aE,d,q⟩=>⟨r,ps,aE,d,hq _ _ q⟩
abbrev Out:=X×List X
abbrev cr:=FuncId->List X->Option Out
def lD(f:FuncId):X->Bool
 |.fn g _=>g==f
 |_=>false
def wg(s1:ag)(fv:Option AV)(f:FuncId):Bool:=match fv with
 |none=>true
 |some x=>lD f (ak s1 x)
abbrev yN:=X->Option ag
def FE(r:Nat)(p:Path)(s:ag)(n:Nat)(x:X):Option (X×yN):=
 match x with
 |.ref _ _=>(match look s r p with
  |some (.row .own z xs)=>some (.row .own z xs,λy=>match y with
   |.row .own z' ys=>if z'=z then some (iq r p (.row .own z ys) s) else none
   |_=>none)
  |_=>none)
 |.ai _ _ i c=>(match look s r p with
  |some (.ptr .own cs)=>if c+n<=cs.length then some (.ptr .own ((cs.drop c).take n),λy=>match y with
   |.ptr .own ys=>if ys.length=n then some (iq r p (.ptr .own (cs.take c++ys++cs.drop (c+n))) s) else none
   |_=>none) else none
  |some (.row .own z xs)=>(match xs[i]? with
   |some e=>if c+n<=e.length then some (.ptr .own ((e.drop c).take n),λy=>match y with
    |.ptr .own ys=>if ys.length=n then (if gS ys=true then some (iq r p (.row .own z (xs.set i (e.take c++ys++e.drop (c+n)))) s) else none) else none
    |_=>none) else none
   |none=>none)
  |_=>none)
 |_=>none
def qU(d:Option Nat)(s:ag):Option Out->Option ag
 |some o=>some (fK d o.1 s)
 |none=>none
def B0(d:Option Nat)(as:List (AV×PM))(back:yN):Option Out->Option ag
 |some o=>(match back (kL as o.2) with
  |some s'=>some (fK d o.1 s')
  |none=>none)
 |none=>none
def C8(C:cr)(f:FuncId)(d:Option Nat)(as:List (AV×PM))(fv:Option AV)(ms:List X)(s0:ag):Option (X×yN)->Option ag
 |some (y,back)=>if X.bare y=true/\wg s0 fv f=true then B0 d as back (C f (gi s0 y as ms++oA s0 fv)) else none
 |none=>none
def rN(C:cr)(f:FuncId)(d:Option Nat)(as:List (AV×PM))(fv:Option AV)(s:ag):Option ag:=
 if X.bare.iP (bW as s).1=true then
 match dR as with
 |none=>if wg (bW as s).2 fv f=true then qU d (bW as s).2 (C f (gi (bW as s).2 .dead as (bW as s).1++oA (bW as s).2 fv)) else none
 |some (x,n)=>C8 C f d as fv (bW as s).1 (iJ (placeOf (ak (bW as s).2 x)).1 (placeOf (ak (bW as s).2 x)).2 .dead (bW as s).2) (FE (placeOf (ak (bW as s).2 x)).1 (placeOf (ak (bW as s).2 x)).2 (bW as s).2 n (ak (bW as s).2 x))
 else none
def CZ(op:BinOp):X->X->Bool
 |.int k a,.int k' b=>match op with
  |.shl=>decide (0<=b)
  |.shr=>decide (0<=b)
  |.quo=>decide (k=k') && !decide (b=0)
  |.rem=>decide (k=k') && !decide (b=0)
  |.andNot=>false
  |_=>decide (k=k')
 |.str a,.str b=>match op with
  |.add=>decide (a.size+b.size<=9223372036854775807)
  |.eql=>true
  |.neq=>true
  |_=>false
 |_,_=>false
def Vc{op:BinOp}{x y:X}(h:CZ op x y=true):vV op x y:=by cases x<;>cases y<;>cases op<;>simp_all[CZ,vV]
def Gg(op:UnOp):X->Bool
 |.int _ _=>match op with
  |.neg=>true
  |_=>false
 |.bool _=>match op with
  |.not=>true
  |_=>false
 |_=>false
def ahP{op:UnOp}{x:X}(h:Gg op x=true):yx op x:=by cases x<;>cases op<;>simp_all[Gg,yx]
def Fq:List X->Option UInt8
 |[.int .u8 n]=>if 0<=n/\n<256 then some (UInt8.ofNat n.toNat) else none
 |_=>none
def abE{e:List X}{b:UInt8}(h:Fq e=some b):e=[.int .u8 b.toNat]:=by
 unfold Fq at h;split at h
 ·split at h
  ·rename_i n hn;obtain rfl:=gV h;have:(UInt8.ofNat n.toNat).toNat=n.toNat:=by rw[LZ];exact LV (by omega)
   rw[this];congr 2;omega
  ·cases h
 ·cases h
def vh:List (List X)->Option (List UInt8)
 |[]=>some []
 |e::l=>match Fq e,vh l with
  |some b,some r=>some (b::r)
  |_,_=>none
def Sv:∀{xs:List (List X)} {l:List UInt8},vh xs=some l->xs=l.map λb=>[.int .u8 b.toNat]
 |[],l,h=>by cases h;rfl
 |e::r,l,h=>by
  unfold vh at h;split at h;·rename_i b r' h1 h2;obtain rfl:=gV h;rw[abE h1,Sv h2];rfl
  ·cases h
def ahO(l:List UInt8):vh (l.map λb=>[.int .u8 (b.toNat:Int)])=some l:=by
 induction l with
 |nil=>rfl
 |cons b l ih=>
  simp only[bq,vh,ih];have:Fq [.int .u8 (b.toNat:Int)]=some b:=by have h:=b.toNat_lt;show (if 0<=(b.toNat:Int)/\(b.toNat:Int)<256 then some (UInt8.ofNat (b.toNat:Int).toNat) else none)=some b;rw[aq ⟨by omega,by omega⟩];simp
  rw[this]
def dS:List (List X)->Bool
 |[]=>true
 |e::l=>e.all scalar && dS l
def KS{xs:List (List X)}(h:dS xs=true):scalars xs:=by
 induction xs with
 |nil=>intro e he;cases he
 |cons a l ih=>
  simp only[dS,ax,rz] at h;intro e he c hc;rcases bO.1 he with rfl|he;·exact h.1 c hc
  ·exact ih h.2 e he c hc
def F4(h:Tk)(l:List X):Bool:=match h with
 |.al=>true
 |_=>l.all λx=>gS (cellsOf x)
def ae2{h:Tk}{l:List X}(e:F4 h l=true):F3 h l:=by
 cases h;·intro x hx;exact(rz.1 e) x hx
 ·trivial
 ·intro x hx;exact(rz.1 e) x hx
def yg:List Nat->List X->Bool
 |[],[]=>true
 |n::ns,y::ys=>((cellsOf y).length==n) && yg ns ys
 |_,_=>false
def RR:∀{ns:List Nat} {ys:List X},yg ns ys=true->yh ns ys
 |[],[],_=>trivial
 |[],_::_,h=>by cases h
 |_::_,[],h=>by cases h
 |n::ns,y::ys,h=>by simp only[yg,ax,ei] at h;exact⟨h.1,RR h.2⟩
def Ke(sz:Nat)(l:List X):Bool:=l.all λx=>((cellsOf x).length==sz) && gS (cellsOf x)
def F8(s:ag)(r:Nat)(p:Path)(i c:Nat)(l:List X):Bool:=match look s r p with
 |some (.row .own _ xs)=>(match xs[i]? with
  |some e=>decide (c+l.length<=e.length) && gS l
  |none=>false)
 |some (.ptr .own cs)=>decide (c+l.length<=cs.length)
 |_=>false
def afi{s:ag}{r:Nat}{p:Path}{i c:Nat}{l:List X}(h:F8 s r p i c l=true):storable s r p i c l:=by
 unfold F8 at h;unfold storable;split at h
 ·split at h;·rename_i h1 _ _ h2;rw[h1];simp only[h2];simpa using h
  ·cases h
 ·rename_i h1;rw[h1];simpa using h
 ·cases h
def Q9(d:Option Nat)(cs:List X)(s1:ag):Option Out->Option ag
 |some (r,.agg ys::_)=>if gS ys=true then (match gH cs ys s1 with
  |some s'=>some (fK d r s')
  |none=>none) else none
 |_=>none
def cL(C:cr)(ok:FuncId->Bool)(o:cz)(s:ag):Option ag:=
 match o with
 |.mv d x=>some (put d (ak s x) s)
 |.bU d h x=>some (put d (take h (ak s x) s).1 (take h (ak s x) s).2)
 |.pick d c a b=>match ak s c with
  |.bool t=>some (put d (BU t (ak s a) (ak s b)) s)
  |_=>none
 |.un d op x=>if Gg op (ak s x)=true then some (put d (Li op (ak s x)) s) else none
 |.bin d op x y=>if CZ op (ak s x) (ak s y)=true then some (put d (G5 op (ak s x) (ak s y)) s) else none
 |.beq d neg x y=>match ak s x,ak s y with
  |.bool p,.bool q=>some (put d (.bool (xor neg (p==q))) s)
  |_,_=>none
 |.sS d neg x=>match ak s x with
  |.row _ _ xs=>if gA xs=true then some (put d (.bool neg) s) else none
  |_=>none
 |.rH d neg ks x y=>match ak s x,ak s y with
  |.agg p,.agg q=>match jR ks p q with
   |some t=>some (put d (.bool (xor neg t)) s)
   |none=>none
  |_,_=>none
 |.conv d k x=>match ak s x with
  |.int _ n=>some (put d (.int k (k.wrap n)) s)
  |_=>none
 |.bytes d x=>match ak s x with
  |.str t=>some (put d (.row .own 1 (t.data.toList.map λb=>[.int .u8 b.toNat])) s)
  |_=>none
 |.text d x=>match rowAt s (ak s x) with
  |some (1,xs)=>if xs.length<=9223372036854775807 then (match vh xs with
   |some l=>some (put d (.str ⟨l.toArray⟩) s)
   |none=>none) else none
  |_=>none
 |.box d h x=>if 0<(cellsOf (take h (ak s x) s).1).length then some (put d (.ptr .own (cellsOf (take h (ak s x) s).1)) (take h (ak s x) s).2) else none
 |.new d z=>some (put d (.ptr .own z) s)
 |.build d h z ps=>if F4 h (takes h (ps.map (·.2)) s).1=true/\yg (ps.map (·.1.2)) (takes h (ps.map (·.2)) s).1=true then some (put d (.agg (wC z (ps.map (·.1.1)) (takes h (ps.map (·.2)) s).1)) (takes h (ps.map (·.2)) s).2) else none
 |.lit d h sz ps=>if Ke sz (takes h ps s).1=true then some (put d (.row .own sz ((takes h ps s).1.map cellsOf)) (takes h ps s).2) else none
 |.make d sz bytes z n=>match ak s n with
  |.int _ i=>if 0<=i/\i*bytes<=140737488355328 then some (put d (.row .own sz (List.replicate i.toNat z)) s) else none
  |_=>none
 |.load d sz agg a=>match gj s (ak s a) with
  |some cs=>if sz<=cs.length then some (put d (bif agg then .agg (cs.take sz) else cs.headD .dead) s) else none
  |none=>none
 |.store sz h a x=>if (cellsOf (take h (ak s x) s).1).length=sz then (match ak (take h (ak s x) s).2 a with
  |.ai r p i c=>if F8 (take h (ak s x) s).2 r p i c (cellsOf (take h (ak s x) s).1)=true then some (setCells r p i c (cellsOf (take h (ak s x) s).1) (take h (ak s x) s).2) else none
  |_=>none) else none
 |.aI d x=>match ak s x with
  |.ai r p i c=>some (put d (.ai r p i c) s)
  |.ptr m cs=>some (put d (.ptr m cs) s)
  |.fn f cs=>some (put d (.fn f cs) s)
  |_=>none
 |.qg d x off=>match ak s x with
  |.ai r p i c=>some (put d (.ai r p i (c+off)) s)
  |.ptr m cs=>some (put d (.ptr m (cs.drop off)) s)
  |_=>none
 |.mE d x off sz agg=>match ak s x with
  |.agg cs=>if off+sz<=cs.length then some (put d (bif agg then .agg ((cs.drop off).take sz) else (cs.drop off).headD .dead) s) else none
  |_=>none
 |.iV d sz x i=>match ak s i with
  |.int _ n=>if 0<=n then (match ak s x with
   |.row m z xs=>if z=sz then (match xs[n.toNat]? with
    |some e=>some (put d (.ptr m e) s)
    |none=>none) else none
   |.ref r p=>(match look s r p with
    |some (.row _ z xs)=>if z=sz/\n.toNat<xs.length then some (put d (.ai r p n.toNat 0) s) else none
    |_=>none)
   |.cut r p lo hi=>(match look s r p with
    |some (.row _ z _)=>if z=sz/\lo+n.toNat<hi then some (put d (.ai r p (lo+n.toNat) 0) s) else none
    |_=>none)
   |_=>none) else none
  |_=>none
 |.jF d x i=>match ak s x,ak s i with
  |.str t,.int _ n=>if 0<=n then (match t.data[n.toNat]? with
   |some b=>some (put d (.int .u8 b.toNat) s)
   |none=>none) else none
  |_,_=>none
 |.rJ d n sz agg x i=>match ak s x,ak s i with
  |.agg cs,.int _ j=>if 0<=j/\j<n/\cs.length=n*sz then some (put d (bif agg then .agg ((cs.drop (j.toNat*sz)).take sz) else (cs.drop (j.toNat*sz)).headD .dead) s) else none
  |_,_=>none
 |.ext d x i=>match ak s x with
  |.aj cs=>if i<cs.length then some (put d (cs.getD i .dead) s) else none
  |_=>none
 |.va d x lo hi=>match ak s x with
  |.str t=>if 0<=asNat s lo 0/\asNat s lo 0<=asNat s hi t.size/\asNat s hi t.size<=t.size then some (put d (.str (t.extract (asNat s lo 0).toNat (asNat s hi t.size).toNat)) s) else none
  |_=>none
 |.lR d sz x lo hi=>match rowAt s (ak s x) with
  |some (z0,xs)=>if z0=sz/\0<=asNat s lo 0/\asNat s lo 0<=asNat s hi xs.length/\asNat s hi xs.length<=xs.length then (match ak s x with
   |.row m z _=>some (put d (.row m z ((xs.take (asNat s hi xs.length).toNat).drop (asNat s lo 0).toNat)) s)
   |.ref r p=>some (put d (.cut r p (asNat s lo 0).toNat (asNat s hi xs.length).toNat) s)
   |_=>none) else none
  |none=>none
 |.tY sz z x=>match ak s x with
  |.cut r p lo hi=>(match look s r p with
   |some (.row .own z' xs)=>if z'=sz then some (iq r p (.row .own z' (rW lo hi z xs)) s) else none
   |_=>none)
  |_=>none
 |.rM d f x as=>match ak s x with
  |.agg cs=>if X.bare.iP (bY cs s).1=true then Q9 d cs (bY cs s).2 (C f (.agg (bY cs s).1::gi (bY cs s).2 .dead as (as.map λ_=>.dead))) else none
  |_=>none
 |.iW d fz sz agg a=>match gj s (ak s a) with
  |some cs=>if sz<=cs.length then ghost fz d (put d (bif agg then .agg (cs.take sz) else cs.headD .dead) s) else none
  |none=>none
 |.lF d f cs=>some (put d (.fn f (cs.map (ak s))) s)
 |.len d x=>match rowAt s (ak s x) with
  |some (z,xs)=>some (put d (.int .i64 xs.length) s)
  |none=>none
 |.s7 d x=>match ak s x with
  |.str t=>some (put d (.int .i64 t.size) s)
  |_=>none
 |.app d h sz bytes x y=>match (take .mv (ak s x) s).1 with
  |.row .own z xs=>if z=sz then (match h with
   |.mv=>(match (cZ (ak (take .mv (ak s x) s).2 y) (take .mv (ak s x) s).2).1 with
    |.row .own z' ys=>if z'=sz/\(xs.length+ys.length)*bytes<=140737488355328 then some (put d (.row .own z (xs++ys)) (cZ (ak (take .mv (ak s x) s).2 y) (take .mv (ak s x) s).2).2) else none
    |_=>none)
   |_=>(match rowAt (take .mv (ak s x) s).2 (ak (take .mv (ak s x) s).2 y) with
    |some (z',ys)=>if z'=sz/\(xs.length+ys.length)*bytes<=140737488355328/\dS ys=true then some (put d (.row .own z (xs++ys)) (take .mv (ak s x) s).2) else none
    |none=>none)) else none
  |_=>none
 |.mn d xs=>match xs.map (ak s) with
  |[.int k a,.int k' b]=>if k=k' then some (put d (.int k (if b<a then b else a)) s) else none
  |_=>none
 |.mx d xs=>match xs.map (ak s) with
  |[.int k a,.int k' b]=>if k=k' then some (put d (.int k (if b>a then b else a)) s) else none
  |_=>none
 |.call d f as=>rN C f d as none s
 |.jq d x as=>match ak s x with
  |.fn f _=>if ok f=true then rN C f d as (some x) s else none
  |_=>none
end M
namespace M
open Go
def cr.Sound[Bs](P:Program)(C:cr):Prop:=∀f xs o,C f xs=some o->AC P f xs λr ps=>r=o.1/\ps=o.2
section
variable [Bs]{P:Program}{C:cr}{ok:FuncId->Bool}
def Nu{s1:ag}{fv:Option AV}{f:FuncId}(h:wg s1 fv f=true):rO s1 fv f:=by
 unfold wg at h;unfold rO;cases fv with
 |none=>trivial
 |some x=>
  simp only at h⊢;unfold lD at h;split at h;·rename_i h1;rw[h1];simpa using h
  ·cases h
def acA{r:Nat}{p:Path}{s:ag}{n:Nat}{x y:X}{back:yN}(h:FE r p s n x=some (y,back)){go:X->(X->(ag->Prop)->Prop)->Prop}
  (hg:∀b':X->(ag->Prop)->Prop,(∀q K s',back q=some s'->K s'->b' q K)->go y b'):xS r p s n x go:=by
 unfold FE at h;unfold xS;split at h
 ·split at h
  ·rename_i z xs hl;obtain⟨rfl,rfl⟩:=CB (gV h);simp only[hl];refine hg _ λq K s' hb hK=>?_;simp only at hb;split at hb
   ·split at hb;·rename_i hz;obtain rfl:=gV hb;exact⟨hz,hK⟩
    ·cases hb
   ·cases hb
  ·cases h
 ·split at h
  ·rename_i cs hl;split at h
   ·rename_i hc;obtain⟨rfl,rfl⟩:=CB (gV h);simp only[hl];refine⟨hc,hg _ λq K s' hb hK=>?_⟩;simp only at hb;split at hb
    ·split at hb;·rename_i hz;obtain rfl:=gV hb;exact⟨hz,hK⟩
     ·cases hb
    ·cases hb
   ·cases h
  ·rename_i z xs hl;split at h
   ·rename_i e he;split at h
    ·rename_i hc;obtain⟨rfl,rfl⟩:=CB (gV h);simp only[hl,he];refine⟨hc,hg _ λq K s' hb hK=>?_⟩;simp only at hb;split at hb
     ·split at hb
      ·split at hb;·rename_i hz hso;obtain rfl:=gV hb;exact⟨hz,hso,hK⟩
       ·cases hb
      ·cases hb
     ·cases hb
    ·cases h
   ·cases h
  ·cases h
 ·cases h
def Nr(hC:C.Sound P){f:FuncId}{d:Option Nat}{as:List (AV×PM)}{fv:Option AV}{s s':ag}(h:rN C f d as fv s=some s'){K:ag->Prop}(hK:K s'):tS P f d as fv s K:=by
 unfold rN at h;unfold tS;split at h
 ·rename_i hb;refine⟨hb,?_⟩;split at h
  ·rename_i hm;split at h
   ·rename_i hc;simp only[hm];refine⟨Nu hc,?_⟩;unfold qU at h;split at h;·rename_i o ho;obtain rfl:=gV h;exact(hC _ _ _ ho).mono λr ps ⟨h1,_⟩=>by rw[h1];exact hK
    ·cases h
   ·cases h
  ·rename_i x n hm;simp only[hm];unfold C8 at h;split at h
   ·rename_i y back hmu;split at h
    ·rename_i hc;refine acA hmu λb' hb'=>⟨hc.1,Nu hc.2,?_⟩;unfold B0 at h;split at h
     ·rename_i o ho;split at h;·rename_i s2 hs2;obtain rfl:=gV h;refine(hC _ _ _ ho).mono λr ps ⟨h1,h2⟩=>?_;rw[h1,h2];exact hb' _ _ _ hs2 hK
      ·cases h
     ·cases h
    ·cases h
   ·cases h
 ·cases h
def N4(hC:C.Sound P)(hok:∀f,ok f=true->aC P f=true){o:cz}{s s':ag}(h:cL C ok o s=some s'){K:ag->Prop}(hK:K s'):aM P o s K:=by
 cases o with
 |mv d x=>cases h;exact hK
 |bU d h1 x=>cases h;exact hK
 |pick d c a b=>simp only[cL] at h;simp only[aM];split at h<;>first|(rename_i h1;rw[h1];cases h;exact hK)|cases h
 |un d op x=>
  simp only[cL] at h;split at h;·rename_i h1;cases h;exact⟨ahP h1,hK⟩
  ·cases h
 |bin d op x y=>
  simp only[cL] at h;split at h;·rename_i h1;cases h;exact⟨Vc h1,hK⟩
  ·cases h
 |beq d neg x y=>
  simp only[cL] at h;simp only[aM];split at h;·rename_i h1 h2;rw[h1,h2];cases h;exact hK
  ·cases h
 |sS d neg x=>
  simp only[cL] at h;simp only[aM];split at h
  ·rename_i h1;rw[h1];split at h;·rename_i hc;cases h;intro b hb;rw[hb hc];cases neg<;>exact hK
   ·cases h
  ·cases h
 |rH d neg ks x y=>
  simp only[cL] at h;simp only[aM];split at h
  ·rename_i h1 h2;rw[h1,h2];split at h;·rename_i t ht;cases h;exact⟨t,ht,hK⟩
   ·cases h
  ·cases h
 |conv d k x=>
  simp only[cL] at h;simp only[aM];split at h;·rename_i h1;rw[h1];cases h;exact hK
  ·cases h
 |bytes d x=>
  simp only[cL] at h;simp only[aM];split at h;·rename_i h1;rw[h1];cases h;exact hK
  ·cases h
 |text d x=>
  simp only[cL] at h;simp only[aM];split at h
  ·rename_i xs h1;split at h
   ·rename_i h2;split at h;·rename_i l h3;cases h;exact⟨xs,h1,h2,l,Sv h3,hK⟩
    ·cases h
   ·cases h
  ·cases h
 |box d h1 x=>
  simp only[cL] at h;split at h;·rename_i h2;cases h;exact⟨h2,hK⟩
  ·cases h
 |new d z=>cases h;exact hK
 |build d h1 z ps=>
  simp only[cL] at h;split at h;·rename_i h2;cases h;exact⟨ae2 h2.1,RR h2.2,hK⟩
  ·cases h
 |lit d h1 sz ps=>
  simp only[cL] at h;split at h;·rename_i h2;cases h;refine⟨λx hx=>?_,hK⟩;have:=(rz.1 h2) x hx;simpa using this
  ·cases h
 |make d sz bytes z n=>
  simp only[cL] at h;simp only[aM];split at h
  ·rename_i h1;rw[h1];split at h;·rename_i h2;cases h;exact⟨h2.1,h2.2,hK⟩
   ·cases h
  ·cases h
 |load d sz agg a=>
  simp only[cL] at h;simp only[aM];split at h
  ·rename_i cs h1;split at h;·rename_i h2;cases h;exact⟨cs,h1,h2,hK⟩
   ·cases h
  ·cases h
 |store sz h1 a x=>
  simp only[cL] at h;simp only[aM];split at h
  ·rename_i h2;refine⟨h2,?_⟩;split at h
   ·rename_i h3;rw[h3];split at h;·rename_i h4;cases h;exact⟨afi h4,hK⟩
    ·cases h
   ·cases h
  ·cases h
 |aI d x=>simp only[cL] at h;simp only[aM];split at h<;>first|(rename_i h1;rw[h1];cases h;exact hK)|cases h
 |qg d x off=>simp only[cL] at h;simp only[aM];split at h<;>first|(rename_i h1;rw[h1];cases h;exact hK)|cases h
 |mE d x off sz agg=>
  simp only[cL] at h;simp only[aM];split at h
  ·rename_i h1;rw[h1];split at h;·rename_i h2;cases h;exact⟨h2,hK⟩
   ·cases h
  ·cases h
 |iV d sz x i=>
  simp only[cL] at h;simp only[aM];split at h
  ·rename_i h1;rw[h1];split at h
   ·rename_i h2;refine⟨h2,?_⟩;split at h
    ·rename_i h3;rw[h3];split at h
     ·rename_i h4;refine⟨h4,?_⟩;split at h;·rename_i e h5;cases h;exact⟨e,h5,hK⟩
      ·cases h
     ·cases h
    ·rename_i h3;rw[h3];simp only;split at h
     ·rename_i h4;rw[h4];split at h;·rename_i h5;cases h;exact⟨h5.1,h5.2,hK⟩
      ·cases h
     ·cases h
    ·rename_i h3;rw[h3];simp only;split at h
     ·rename_i h4;rw[h4];split at h;·rename_i h5;cases h;exact⟨h5.1,h5.2,hK⟩
      ·cases h
     ·cases h
    ·cases h
   ·cases h
  ·cases h
 |jF d x i=>
  simp only[cL] at h;simp only[aM];split at h
  ·rename_i h1 h2;rw[h1,h2];split at h
   ·rename_i h3;refine⟨h3,?_⟩;split at h;·rename_i b h4;cases h;exact⟨b,h4,hK⟩
    ·cases h
   ·cases h
  ·cases h
 |rJ d n sz agg x i=>
  simp only[cL] at h;simp only[aM];split at h
  ·rename_i h1 h2;rw[h1,h2];split at h;·rename_i h3;cases h;exact⟨h3.1,h3.2.1,h3.2.2,hK⟩
   ·cases h
  ·cases h
 |ext d x i=>
  simp only[cL] at h;simp only[aM];split at h
  ·rename_i h1;rw[h1];split at h;·rename_i h3;cases h;exact⟨h3,hK⟩
   ·cases h
  ·cases h
 |va d x lo hi=>
  simp only[cL] at h;simp only[aM];split at h
  ·rename_i h1;rw[h1];split at h;·rename_i h3;cases h;exact⟨h3.1,h3.2.1,h3.2.2,hK⟩
   ·cases h
  ·cases h
 |lR d sz x lo hi=>
  simp only[cL] at h;simp only[aM];split at h
  ·rename_i z0 xs h1;split at h;·rename_i h2;obtain⟨rfl,h2,h3,h4⟩:=h2;refine⟨xs,h1,h2,h3,h4,?_⟩;split at h<;>first|(rename_i h5;rw[h5];cases h;exact hK)|cases h
   ·cases h
  ·cases h
 |tY sz z x=>
  simp only[cL] at h;simp only[aM];split at h
  ·rename_i h1;rw[h1];simp only;split at h
   ·rename_i h2;rw[h2];split at h;·rename_i h3;cases h;exact⟨h3,hK⟩
    ·cases h
   ·cases h
  ·cases h
 |rM d f x as=>
  simp only[cL] at h;simp only[aM];split at h
  ·rename_i cs h1;rw[h1];split at h
   ·rename_i h2;refine⟨h2,?_⟩;unfold Q9 at h;split at h
    ·rename_i r ys ps ho;split at h
     ·rename_i h3;split at h;·rename_i s2 h4;cases h;exact(hC _ _ _ ho).mono λr' ps' ⟨e1,e2⟩=>by rw[e1,e2];exact⟨h3,_,h4,hK⟩
      ·cases h
     ·cases h
    ·cases h
   ·cases h
  ·cases h
 |iW d fz sz agg a=>
  simp only[cL] at h;simp only[aM];split at h
  ·rename_i cs h1;split at h;·rename_i h2;exact⟨cs,h1,h2,s',h,hK⟩
   ·cases h
  ·cases h
 |lF d f cs=>cases h;exact hK
 |len d x=>
  simp only[cL] at h;simp only[aM];split at h;·rename_i z xs h1;cases h;exact⟨z,xs,h1,hK⟩
  ·cases h
 |s7 d x=>
  simp only[cL] at h;simp only[aM];split at h;·rename_i h1;rw[h1];cases h;exact hK
  ·cases h
 |app d h1 sz bytes x y=>
  simp only[cL] at h;simp only[aM];split at h
  ·rename_i z xs h2;rw[h2];split at h
   ·rename_i h3;refine⟨h3,?_⟩;cases h1 with
    |mv=>
     simp only at h⊢;split at h
     ·rename_i h4;simp only[h4];split at h;·rename_i h5;cases h;exact⟨h5.1,h5.2,hK⟩
      ·cases h
     ·cases h
    |al=>
     simp only at h⊢;split at h
     ·rename_i z' ys h4;split at h;·rename_i h5;obtain⟨rfl,h5,h6⟩:=h5;cases h;exact⟨ys,h4,h5,KS h6,hK⟩
      ·cases h
     ·cases h
    |bP=>
     simp only at h⊢;split at h
     ·rename_i z' ys h4;split at h;·rename_i h5;obtain⟨rfl,h5,h6⟩:=h5;cases h;exact⟨ys,h4,h5,KS h6,hK⟩
      ·cases h
     ·cases h
   ·cases h
  ·cases h
 |mn d xs=>
  simp only[cL] at h;simp only[aM];split at h
  ·rename_i h1;rw[h1];split at h;·rename_i h2;cases h;exact⟨h2,hK⟩
   ·cases h
  ·cases h
 |mx d xs=>
  simp only[cL] at h;simp only[aM];split at h
  ·rename_i h1;rw[h1];split at h;·rename_i h2;cases h;exact⟨h2,hK⟩
   ·cases h
  ·cases h
 |call d f as=>exact Nr hC h hK
 |jq d x as=>
  simp only[cL] at h;simp only[aM];split at h
  ·rename_i h1;rw[h1];split at h;·rename_i h2;exact⟨hok _ h2,Nr hC h hK⟩
   ·cases h
  ·cases h
end
end M
namespace M
open Go
mutual
def X.eN:X->X->Bool
 |.dead,.dead=>true
 |.int k n,.int k' n'=>decide (k=k') && decide (n=n')
 |.bool a,.bool b=>a==b
 |.str s,.str t=>decide (s=t)
 |.row m z xs,.row m' z' ys=>decide (m=m') && z==z' && X.rU xs ys
 |.ptr m xs,.ptr m' ys=>decide (m=m') && X.mA xs ys
 |.agg xs,.agg ys=>X.mA xs ys
 |.aj xs,.aj ys=>X.mA xs ys
 |.fn f xs,.fn g ys=>f==g && X.mA xs ys
 |.ref s p,.ref t q=>s==t && p==q
 |.ai s p i c,.ai t q j d=>s==t && p==q && i==j && c==d
 |.cut s p i c,.cut t q j d=>s==t && p==q && i==j && c==d
 |_,_=>false
def X.mA:List X->List X->Bool
 |[],[]=>true
 |x::l,y::r=>X.eN x y && X.mA l r
 |_,_=>false
def X.rU:List (List X)->List (List X)->Bool
 |[],[]=>true
 |x::l,y::r=>X.mA x y && X.rU l r
 |_,_=>false
end
mutual
def X.Oa:∀{x y:X},X.eN x y=true->x=y
 |.dead,y,h=>by cases y<;>simp_all[X.eN]
 |.int k n,y,h=>by cases y<;>simp_all[X.eN]
 |.bool a,y,h=>by cases y<;>simp_all[X.eN]
 |.str s,y,h=>by cases y<;>simp_all[X.eN]
 |.row m z xs,y,h=>by cases y<;>simp only[X.eN,ax,bx,ei,iw] at h;rw[h.1.1,h.1.2,X.N8 h.2]
 |.ptr m xs,y,h=>by cases y<;>simp only[X.eN,ax,bx,ei,iw] at h;rw[h.1,X.wu h.2]
 |.agg xs,y,h=>by cases y<;>simp only[X.eN,iw] at h;rw[X.wu h]
 |.aj xs,y,h=>by cases y<;>simp only[X.eN,iw] at h;rw[X.wu h]
 |.fn f xs,y,h=>by cases y<;>simp only[X.eN,ax,ei,iw] at h;rw[h.1,X.wu h.2]
 |.ref s p,y,h=>by cases y<;>simp_all[X.eN]
 |.ai s p i c,y,h=>by cases y<;>simp_all[X.eN]
 |.cut s p i c,y,h=>by cases y<;>simp_all[X.eN]
def X.wu:∀{x y:List X},X.mA x y=true->x=y
 |[],[],_=>rfl
 |[],_::_,h=>by simp[X.mA] at h
 |_::_,[],h=>by simp[X.mA] at h
 |x::l,y::r,h=>by simp only[X.mA,ax] at h;rw[X.Oa h.1,X.wu h.2]
def X.N8:∀{x y:List (List X)},X.rU x y=true->x=y
 |[],[],_=>rfl
 |[],_::_,h=>by simp[X.rU] at h
 |_::_,[],h=>by simp[X.rU] at h
 |x::l,y::r,h=>by simp only[X.rU,ax] at h;rw[X.wu h.1,X.N8 h.2]
end
mutual
def X.Oc:∀x:X,X.eN x x=true
 |.dead=>rfl
 |.int k n=>by simp[X.eN]
 |.bool a=>by simp[X.eN]
 |.str s=>by simp[X.eN]
 |.row m z xs=>by simp[X.eN,X.N9 xs]
 |.ptr m xs=>by simp[X.eN,X.wv xs]
 |.agg xs=>by simp[X.eN,X.wv xs]
 |.aj xs=>by simp[X.eN,X.wv xs]
 |.fn f xs=>by simp[X.eN,X.wv xs]
 |.ref s p=>by simp[X.eN]
 |.ai s p i c=>by simp[X.eN]
 |.cut s p i c=>by simp[X.eN]
def X.wv:∀x:List X,X.mA x x=true
 |[]=>rfl
 |x::l=>by simp[X.mA,X.Oc x,X.wv l]
def X.N9:∀x:List (List X),X.rU x x=true
 |[]=>rfl
 |x::l=>by simp[X.rU,X.wv x,X.N9 l]
end
def rT:ag->ag->Bool
 |[],[]=>true
 |(k,x)::l,(k',y)::r=>k==k' && X.eN x y && rT l r
 |_,_=>false
def N7:∀{x y:ag},rT x y=true->x=y
 |[],[],_=>rfl
 |[],_::_,h=>by simp[rT] at h
 |_::_,[],h=>by simp[rT] at h
 |(k,x)::l,(k',y)::r,h=>by simp only[rT,ax,ei] at h;rw[h.1.1,X.Oa h.1.2,N7 h.2]
def same:Option ag->Option ag->Option ag
 |some a,some b=>if rT a b=true then some a else none
 |_,_=>none
def eG(C:cr)(ok:FuncId->Bool)(g:G)(s:ag):Option ag:=match g with
 |⟨none,o⟩=>cL C ok o s
 |⟨some (t,b),o⟩=>match get s t with
  |.bool v=>if v=b then cL C ok o ((t,.bool b)::s) else some (fK o.dst (.aj []) ((t,.bool (!b))::s))
  |.aj []=>some (fK o.dst (.aj []) s)
  |_=>none
def jQ(C:cr)(ok:FuncId->Bool):List G->ag->Option ag
 |[],s=>some s
 |g::l,s=>(eG C ok g s).bind (jQ C ok l)
def eD(C:cr)(ok:FuncId->Bool):DT->ag->Option ag
 |.nil ks,s=>some (keep ks s)
 |.step _ g t,s=>(eG C ok g s).bind (eD C ok t)
 |.alt a b,s=>same (eD C ok a s) (eD C ok b s)
 |.kp ks t,s=>eD C ok t (keep ks s)
abbrev cI:=Option (Ex×ag)
def fM(k:ag->cI):cI->cI
 |some (.normal,s)=>k s
 |some (.exit i,s)=>some (.exit i,s)
 |some (.ret,s)=>some (.ret,s)
 |none=>none
def kW(id:Nat):cI->cI
 |some (.exit i,s)=>if i=id then some (.normal,s) else some (.exit i,s)
 |some (.normal,s)=>some (.normal,s)
 |some (.ret,s)=>some (.ret,s)
 |none=>none
def lJ(ks:List Nat):cI->cI
 |some (.normal,s)=>some (.normal,keep ks s)
 |some (.exit i,s)=>some (.exit i,s)
 |some (.ret,s)=>some (.ret,s)
 |none=>none
def iF:Option ag->cI
 |some s=>some (.normal,s)
 |none=>none
def iter(f:ag->cI):Nat->ag->cI
 |0,_=>none
 |n+1,s=>fM (iter f n) (f s)
def eA(C:cr)(ok:FuncId->Bool)(N:Nat):A->ag->cI
 |.skip,s=>some (.normal,s)
 |.ret,s=>some (.ret,s)
 |.exit id,s=>some (.exit id,s)
 |.ops l,s=>iF (jQ C ok l s)
 |.draw t,s=>iF (eD C ok t s)
 |.seq a b,s=>fM (eA C ok N b) (eA C ok N a s)
 |.cond c a b,s=>match ak s c with
  |.bool t=>if t=true then eA C ok N a s else eA C ok N b s
  |_=>none
 |.block id b,s=>kW id (eA C ok N b s)
 |.loop b,s=>iter (eA C ok N b) N s
 |.pk ks b,s=>lJ ks (eA C ok N b s)
structure Fn where
 body:A
 rs:List RV
 n:Nat
abbrev iy:=FuncId->Option Fn
def fin(F:Fn):cI->Option Out
 |some (.exit _,_)=>none
 |some (_,s)=>if X.clean.cB (dU F.rs s).1=true/\(dU F.rs s).1.any X.mP=false then some (uV (dU F.rs s).1,qT 0 F.n (dU F.rs s).2) else none
 |none=>none
def eF(C:cr)(ok:FuncId->Bool)(N:Nat)(F:Fn)(xs:List X):Option Out:=
 if xs.length=F.n then fin F (eA C ok N F.body (ny xs)) else none
def aB(T:iy)(f:FuncId):Bool:=(T f).isSome
def exec(L:cr)(T:iy):Nat->cr
 |0,_,_=>none
 |n+1,f,xs=>match T f with
  |some F=>eF (exec L T n) (aB T) n F xs
  |none=>L f xs
section
variable [Bs]{P:Program}{C:cr}{ok:FuncId->Bool}
def N2(hC:C.Sound P)(hok:∀f,ok f=true->aC P f=true){g:G}{s s':ag}(h:eG C ok g s=some s'){K:ag->Prop}(hK:K s'):pZ P g s K:=by
 obtain⟨gg,o⟩:=g;cases gg with
 |none=>exact N4 hC hok h hK
 |some tb=>
  obtain⟨t,b⟩:=tb;simp only[eG] at h;simp only[pZ];split at h
  ·rename_i v hv;rw[hv];split at h;·rename_i lz;exact⟨λ_=>N4 hC hok h hK,λhn=>by subst lz;cases v<;>simp at hn⟩
   ·rename_i lz;exact⟨λhh=>(lz hh).elim,λ_=>by cases h;exact hK⟩
  ·rename_i hv;rw[hv];cases h;exact hK
  ·cases h
def N6(hC:C.Sound P)(hok:∀f,ok f=true->aC P f=true):∀{l:List G} {s s':ag},jQ C ok l s=some s'->∀{Q:Ex->ag->Prop},Q .normal s'->kn P l s Q
 |[],s,s',h,Q,hQ=>by cases h;exact hQ
 |g::l,s,s',h,Q,hQ=>by
  simp only[jQ] at h;cases h1:eG C ok g s with
  |none=>rw[h1] at h;cases h
  |some s1=>rw[h1] at h;exact N2 hC hok h1 (N6 hC hok h hQ)
def zk(hC:C.Sound P)(hok:∀f,ok f=true->aC P f=true):∀{t:DT} {s s':ag},eD C ok t s=some s'->∀{Q:Ex->ag->Prop},Q .normal s'->gZ P t s Q
 |.nil ks,s,s',h,Q,hQ=>by cases h;exact hQ
 |.step i g t,s,s',h,Q,hQ=>by
  simp only[eD] at h;cases h1:eG C ok g s with
  |none=>rw[h1] at h;cases h
  |some s1=>rw[h1] at h;exact N2 hC hok h1 (zk hC hok h hQ)
 |.alt a b,s,s',h,Q,hQ=>by
  simp only[eD] at h;unfold same at h;split at h
  ·rename_i x y hx hy;split at h;·rename_i he;obtain rfl:=N7 he;cases h;exact⟨zk hC hok hx hQ,zk hC hok hy hQ⟩
   ·cases h
  ·cases h
 |.kp ks t,s,s',h,Q,hQ=>zk (t:=t) hC hok h hQ
def Sl{k:ag->cI}{r:cI}{e:Ex}{s:ag}(h:fM k r=some (e,s)):(∃s',r=some (.normal,s')/\k s'=some (e,s))\/(e≠.normal/\r=some (e,s)):=by
 unfold fM at h;split at h;·exact .inl ⟨_,rfl,h⟩
 ·cases h;exact .inr ⟨by simp,rfl⟩
 ·cases h;exact .inr ⟨by simp,rfl⟩
 ·cases h
def W8(hC:C.Sound P)(hok:∀f,ok f=true->aC P f=true){N:Nat}:∀{t:A} {s s':ag} {e:Ex},eA C ok N t s=some (e,s')->∀{Q:Ex->ag->Prop},Q e s'->eM P t s Q:=by
 intro t;induction t with
 |skip=>intro s s' e h Q hQ;cases h;exact hQ
 |ret=>intro s s' e h Q hQ;cases h;exact hQ
 |exit id=>intro s s' e h Q hQ;cases h;exact hQ
 |ops l=>
  intro s s' e h Q hQ;simp only[eA] at h;unfold iF at h;split at h;·rename_i s1 h1;cases h;exact N6 hC hok h1 hQ
  ·cases h
 |draw l=>
  intro s s' e h Q hQ;simp only[eA] at h;unfold iF at h;split at h;·rename_i s1 h1;cases h;exact zk hC hok h1 hQ
  ·cases h
 |seq a b iD jW=>
  intro s s' e h Q hQ;simp only[eA] at h;rcases Sl h with ⟨s1,h1,h2⟩|⟨hne,h1⟩;·exact iD h1 (jW h2 hQ)
  ·refine iD h1 ?_;cases e with
   |normal=>exact(hne rfl).elim
   |exit i=>exact hQ
   |ret=>exact hQ
 |cond c a b iD jW=>
  intro s s' e h Q hQ;simp only[eA] at h;simp only[eM];split at h
  ·rename_i t ht;rw[ht];split at h;·rename_i h1;exact⟨λ_=>iD h hQ,λh2=>by rw[h1] at h2;cases h2⟩
   ·rename_i h1;exact⟨λh2=>(h1 h2).elim,λ_=>jW h hQ⟩
  ·cases h
 |block id b ih=>
  intro s s' e h Q hQ;simp only[eA] at h;unfold kW at h;split at h
  ·rename_i i s1 h1;split at h;·rename_i hi;cases h;refine ih h1 ?_;subst hi;simpa using hQ
   ·rename_i hi;cases h;refine ih h1 ?_;have:(i==id)=false:=by simpa using hi
    simpa [this] using hQ
  ·rename_i s1 h1;cases h;exact ih h1 hQ
  ·rename_i s1 h1;cases h;exact ih h1 hQ
  ·cases h
 |loop b ih=>
  intro s s' e h Q hQ;simp only[eA] at h;refine⟨λn s1=>iter (eA C ok N b) n s1=some (e,s'),⟨N,h⟩,λn s1 h1=>?_⟩;cases n with
  |zero=>cases h1
  |succ n=>
   simp only[iter] at h1;rcases Sl h1 with ⟨s2,h2,h3⟩|⟨hne,h2⟩;·exact ih h2 ⟨n,Nat.lt_succ_self n,h3⟩
   ·refine ih h2 ?_;cases e with
    |normal=>exact(hne rfl).elim
    |exit i=>exact hQ
    |ret=>exact hQ
 |pk ks b ih=>
  intro s s' e h Q hQ;simp only[eA] at h;unfold lJ at h;split at h;·rename_i s1 h1;cases h;exact ih h1 hQ
  ·rename_i s1 h1;cases h;exact ih h1 hQ
  ·rename_i s1 h1;cases h;exact ih h1 hQ
  ·cases h
structure iy.Ok (P:Program) (T:iy):Prop where
 told:∀f F,T f=some F->Told P f F.body F.rs F.n
 ok:∀f F,T f=some F->aC P f=true
def Og{L:cr}{T:iy}(hL:L.Sound P)(hT:T.Ok P):∀n,(exec L T n).Sound P
 |0=>λf xs o h=>by cases h
 |n+1=>λf xs o h=>by
  simp only[exec] at h;split at h
  ·rename_i F hF;unfold eF at h;split at h
   ·rename_i hn;refine(hT.told f F hF).ac hn ?_;unfold fin at h;split at h;·cases h
    ·rename_i e s' h1 h2;split at h
     ·rename_i hc;have h2:eA (exec L T n) (aB T) n F.body (ny xs)=some (e,s'):=h2;cases h;refine W8 (Og hL hT n) (λf hf=>?_) h2 ?_;·unfold aB at hf;obtain⟨F',hF'⟩:=vD.1 hf;exact hT.ok f F' hF'
      ·cases e with
       |exit i=>exact(h1 i rfl).elim
       |normal=>exact⟨hc.1,λx hx=>by have:=List.any_eq_false.1 hc.2 x hx;simpa using this,rfl,rfl⟩
       |ret=>exact⟨hc.1,λx hx=>by have:=List.any_eq_false.1 hc.2 x hx;simpa using this,rfl,rfl⟩
     ·cases h
    ·cases h
   ·cases h
  ·exact hL f xs o h
end
end M
