/- A machine of values for loaded Go functions, sound for the calculus of calls; part 2; no conditions. -/
import Derived.Test.YtaaeoialiegmeaaGreatDoorMa
import Derived.Laws.IdiomCopy
import Derived.Lib.SliceRun
import Derived.Laws.Cover3
set_option linter.defProp false
set_option linter.unusedSectionVars false
set_option linter.unusedVariables false
set_option linter.unusedSimpArgs false
namespace M
open Go Go.RowKit
variable [Bs]
section
variable {P:Program}{c:Ctx}{G:Nat->C}{zl:Nat->Nat->Prop}{s:ah}{a:Act}{w:World}{o:Oper}{K:ah->Prop}
def agU{zb:Nat->Nat->Prop}(h:Inv w zl zb G s){v:Value}{r:Nat}{p:Path}{i k:Nat}(hr:(C.aB v r p i k).rf G){l:List C}(hs:storable s r p i k (l.map C.er))(hl:∀x∈l,cT x.er=true->x.cT):
  ∃g k0 d,v=.pointer (some ⟨g,k0,none⟩)/\(G r).sub p=some d/\∀q x,l[q]?=some x->fA d i (k+q) x g (k0+q):=by
 obtain⟨d,hd,hp⟩:=hr;unfold storable look at hs;rw[<-h.er,C.gO,hd] at hs;simp only[cx] at hs;rcases hp with ⟨m,sz,g,o,len,cap,e,rfl,rfl⟩|⟨m,g,o,n,f,rfl,rfl,rfl⟩
 ·refine⟨g,o+i*sz+k,_,rfl,hd,λq x hq=>?_⟩;simp only[C.er] at hs;cases m with
  |own=>
   simp only[C.dm] at hs;split at hs
   ·rename_i e0 lG;split at lG
    ·rename_i hi;injection lG with lG
     obtain⟨h1,h2⟩:=hs;have hlen:e0.length=sz:=by rw[<-lG];simp
     have oF:=(aN.1 hq).1;simp only[dV] at h1;have:=fA.row (d:=.row .own sz (some (g,o,none)) len cap e) (i:=i) (c:=k+q) (y:=x) rfl hi (by omega) (hl x (lY hq) (HS h2 _ (kA (lY hq))));rwa [show o+i*sz+(k+q)=o+i*sz+k+q by omega] at this
    ·cases lG
   ·exact hs.elim
  |sl=>exact hs.elim
  |af=>exact hs.elim
 ·refine⟨g,o+k,_,rfl,hd,λq x hq=>?_⟩;simp only[C.er] at hs;cases m with
  |own=>have oF:=(aN.1 hq).1;simp only[dV,tG] at hs;have:=fA.ptr (d:=.ptr .own g o n f) (i:=0) (c:=k+q) (y:=x) rfl rfl (by omega);rwa [show o+(k+q)=o+k+q by omega] at this
  |sl=>exact hs.elim
  |af=>exact hs.elim
def TI{x:C}(h:cT x.er=true):x.cT:=by cases x<;>first|trivial|(simp[C.er,cT] at h)
def afI(h:St c G zl s a w){sz:Nat}{tk:Tk}{ty:TypeId}{x y:AV}{x' y':Operand}(ho:o.op=.store ty y' x')(hsz:∃i,P.info? ty=some i/\i.size=sz)(h0:0<sz)(hd:o.dst=none)(hx:aK x' x=true)(hy:aK y' y=true)
  (hK:aM P (.store sz tk y x) s K):Good P c o a w K:=by
 obtain⟨p,e1,e2,e3⟩:=cA h hx;obtain⟨q,G1,f1,f2,f3,f4⟩:=qW tk h.inv e3;obtain⟨k1,k2⟩:=hK;rw[e1] at f1 f4;have h1:=h.yO f4;obtain⟨u,u1,u2,u3⟩:=cA h1 hy;rw[<-u1] at k2;cases u with
 |aB v r pp i k=>
  simp only[C.er] at k2;obtain⟨k2,k3⟩:=k2;rw[<-f1,<-tW] at k1 k2 k3;have hsh:=HQ f4.rf;have hT:=bM.flat (bM.one f4) (λx hx=>by rw[fH] at hx;subst hx;exact hsh);simp only[jW,N1,oa] at hT;obtain⟨g,k0,d,hv,hsub,hsp⟩:=agU h1.inv u3.rf k2 (λx _ hs=>TI hs);have hlen:q.cells.length=sz:=by simpa using k1
  obtain⟨w',G',j1,j2,j3,j4,j5⟩:=TO (P:=P) r pp i (k0:=k0) q.cells.length q.cells rfl k 0 h1.inv hsub (by simpa using hsp) ⟨λx hx=>⟨(vY hsh f4.ok hx).1,(vY hsh f4.ok hx).2,Jw f4.rf hx,(hT.all x hx).2.1,(hT.all x hx).2.2.1⟩,hT.apart⟩;have hcv:=El (by omega) hsh;refine⟨undef,w',.inr ⟨?_,rfl⟩,G',zl,_,k3,?_⟩
  ·have Kl:a.eval y'=.pointer (some ⟨g,k0,none⟩):=by rw[<-u2];exact hv
   obtain⟨ii,hi,kN⟩:=hsz;have hxv:a.eval x'=q.val:=by rw[f2,e2]
   simp[execOp,ho,Kl,hxv,Instr.storeAt,Instr.sureAddr,storeVar,hcv,Go.sizeOf,typeInfo,hi,kN,hlen,j1]
  ·rw[hd];refine h.move j2 (λt=>(j3 t).trans (f4.val t)) j5 (λb k' hs=>?_) (λt b k' hf=>?_)
   ·obtain⟨rfl,hs1,hs2⟩:=hs;simp only[nZ] at hs1 hs2;have hlt:k' - k0<q.cells.length:=by omega
    have:=(hsp (k' - k0) _ (cj hlt)).fp;rw[show k0+(k' - k0)=k' by omega] at this;exact h1.tr.dom r _ _ (C.gP pp hsub (h1.inv.ok r) this)
   ·refine .inl ?_;rcases j4 t b k' hf with ⟨x,hx,hf⟩|hf;·exact(hT.all x hx).2.2.2 b k' hf
    ·exact⟨t,f4.mono t b k' hf⟩
 |_=>exact k2.elim
def cX(len z:Nat)(e:Nat->Nat->C):List (List C):=(List.range len).map λi=>(List.range z).map λj=>e i j
def uC(len z:Nat)(e:Nat->Nat->C):∀x∈cX len z e,x.length=z:=λx hx=>by obtain⟨i,_,rfl⟩:=aT.1 hx;simp
def RX(len z:Nat)(e:Nat->Nat->C):(cX len z e).map (λx=>x.map C.er)=dN z len e:=by simp only[cX,dN,cP];refine cz λi _=>?_;show ((List.range z).map λj=>e i j).map C.er=_;rw[cP];rfl
def nC{len z:Nat}{e:Nat->Nat->C}{x:C}(hx:x∈(cX len z e).flatten):∃i j,i<len/\j<z/\x=e i j:=by obtain⟨l,hl,hx⟩:=Iw.1 hx;obtain⟨i,hi,rfl⟩:=aT.1 hl;obtain⟨j,hj,rfl⟩:=aT.1 hx;exact⟨i,j,by simpa using hi,by simpa using hj,rfl⟩
def RW{len z:Nat}{e:Nat->Nat->C}{q:Nat}{x:C}(h0:0<z)(h:(cX len z e).flatten[q]?=some x):q / z<len/\q%z<z/\x=e (q / z) (q%z):=by
 have hq:=(aN.1 h).1;rw[rV (uC len z e)] at hq;have hl:(cX len z e).length=len:=by simp[cX]
 rw[hl] at hq;have h1:q%z<z:=tA _ h0;have h2:q / z<len:=UI (by rw[q6];exact hq);have AR:q=q / z*z+q%z:=by have:=DF q z;rw[q6] at this;omega
 have:=Ar (uC len z e) (q / z) (q%z) (by rw[hl];exact h2) h1;rw[<-AR,h] at this;simp only[cX,C.dm,aA h2,ja,aA h1] at this;exact⟨h2,h1,iJ this⟩
def Lh{Z:Md->Nat->Nat->Prop}{z len cap:Nat}{A:Option Ad}{e:Nat->Nat->C}(h:(C.row .own z A len cap e).ok w Z):(cX len z e).flatten.Pairwise λa b=>∀x k,a.fp x k->¬b.fp x k:=by
 obtain⟨h1,h2,h3,h4,h5⟩:=h;refine List.pairwise_flatten.2 ⟨λl hl=>?_,?_⟩
 ·obtain⟨i,hi,rfl⟩:=aT.1 hl;have hi:i<len:=by simpa using hi
  refine DB.2 (IL (R:=λa b=>a<b) ?_ NI);intro j j' hj hj' hlt b k hf;exact(h5 i j hi (by simpa using hj) b k hf).2 i j' hi (by simpa using hj') (by simp;omega)
 ·refine DB.2 (IL (R:=λa b=>a<b) ?_ NI);intro i i' hi hi' hlt x hx y hy b k hf;obtain⟨j,hj,rfl⟩:=aT.1 hx;obtain⟨j',hj',rfl⟩:=aT.1 hy;exact(h5 i j (by simpa using hi) (by simpa using hj) b k hf).2 i' j' (by simpa using hi') (by simpa using hj') (by simp;omega)
def JX{w1:World}{z len cap:Nat}{A:Option Ad}{e:Nat->Nat->C}(h0:0<z)(hc:∀i j,i<len->j<z->∃g o,A=some (g,o,none)/\w1.cell? ⟨g,o+i*z+j,none⟩=some (e i j).val):
  (Builtin.firstCells z len (.slice (A.map λq=>⟨q.1,q.2.1,q.2.2⟩) len cap)).run P w1=.ok ((cX len z e).flatten.map C.val).toArray w1/\(A=none->len=0):=by
 cases A with
 |none=>
  have hl:len=0:=by
   rcases Nat.eq_zero_or_pos len with h|h;·exact h
   ·obtain⟨g,o,hA,_⟩:=hc 0 0 h h0;cases hA
  subst hl;exact⟨run_firstCells_none w1 z 0 0 cap,λ_=>rfl⟩
 |some q=>
  refine⟨?_,λh=>by cases h⟩;refine run_firstCells_some w1 z len ⟨q.1,q.2.1,q.2.2⟩ len cap _ ?_ λj v hj=>?_;·rw[dV,rV (uC len z e)];simp[cX]
  ·rw[de] at hj;cases hk:(cX len z e).flatten[j]? with
   |none=>rw[hk] at hj;cases hj
   |some x=>
    rw[hk] at hj;obtain⟨a1,a2,rfl⟩:=RW h0 hk;injection hj with hj
    obtain⟨g,o,hA,hcl⟩:=hc _ _ a1 a2;injection hA with hA
    subst hA;have AR:j=j / z*z+j%z:=by have:=DF j z;rw[q6] at this;omega
    rw[rz,<-hj,<-hcl];congr 2;show o+j=_;omega
end
end M
namespace M
open Go Go.RowKit
variable [Bs]
section
variable {P:Program}
def bM.sub{w:World}{zl zb:Nat->Nat->Prop}{G G1:Nat->C}{s1:ah}{l ks:List C}(hT:bM w zl zb G l G1 s1)(hok:∀x∈ks,x.ok w (Zf zl zb))(cm:∀x∈ks,∀b k,x.fp b k->∃y∈l,y.fp b k)
  (jq:ks.Pairwise λa b=>∀x k,a.fp x k->¬b.fp x k):bM w zl zb G ks G1 s1 where
 inv:=hT.inv
 all:=λx hx=>⟨hok x hx,λt b k hf=>by obtain⟨y,hy,hf⟩:=cm x hx b k hf;exact(hT.all y hy).2.1 t b k hf,λb k hf=>by obtain⟨y,hy,hf⟩:=cm x hx b k hf;exact(hT.all y hy).2.2.1 b k hf,
  λb k hf=>by obtain⟨y,hy,hf⟩:=cm x hx b k hf;exact(hT.all y hy).2.2.2 b k hf⟩
 apart:=jq
 val:=hT.val
 mono:=hT.mono
def Ext.setCells(b:Nat):∀(vs:List Value) (o:Nat) (w:World),Ext (λg k=>g=b/\o<=k/\k<o+vs.length) w (w.setCells b o vs)
 |[],o,w=>Ext.refl _ _
 |v::vs,o,w=>by rw[World.setCells];refine((Ext.setCell w b o v).mono (S':=λg k=>g=b/\o<=k/\k<o+(v::vs).length) (λg k hs _=>⟨hs.1,by omega,by simp only[cO];omega⟩)).trans (Ext.setCells b vs (o+1) _) λg k hs _=>⟨hs.1,by omega,by simp only[cO];omega⟩
def agw{w:World}{t u ty e e':TypeId}{i:TypeInfo}(ht:P.underlying t=some (.slice e))(hu:P.underlying u=some (.slice e'))(hi:P.info? e=some i){A B:Option Addr}{len cap m cap2:Nat}{news:List Value}(h:len+m<=cap)
  (hx:(Builtin.firstCells i.size m (.slice B m cap2)).run P w=.ok news.toArray w):
  (Builtin.append_ #[t,u] ty #[.slice A len cap,.slice B m cap2]).run P w=match A with
   |some a=>((storeCells (a.add (len*i.size)) news).run P w).andThen λ_ w'=>.ok (.slice (some a) (len+m) cap) w'
   |none=>.ok (.slice none (len+m) cap) w:=by
 cases A with
 |none=>simp[Builtin.append_,run_underlying ht,run_underlying hu,Go.sizeOf,typeInfo,hi,Builtin.lenOf,h,hx]
 |some a=>simp[Builtin.append_,run_underlying ht,run_underlying hu,Go.sizeOf,typeInfo,hi,Builtin.lenOf,h,hx]
def agv{w:World}{t u ty e e':TypeId}{i:TypeInfo}{z:Value}(ht:P.underlying t=some (.slice e))(hu:P.underlying u=some (.slice e'))(hi:P.info? e=some i)(hz:i.zero=some z){A B:Option Addr}{len cap m cap2:Nat}{olds news:List Value}(h:¬len+m<=cap)
  (h63:len+m<=9223372036854775807)(hfit:Builtin.nextslicecap (len+m) cap*i.bytes<=281474976710656)
  (hx:(Builtin.firstCells i.size m (.slice B m cap2)).run P w.drew=.ok news.toArray w.drew)(hy:(Builtin.firstCells i.size len (.slice A len cap)).run P w.drew=.ok olds.toArray w.drew):
  (Builtin.append_ #[t,u] ty #[.slice A len cap,.slice B m cap2]).run P w=.ok (.slice (some ⟨w.heap.size,0,none⟩) (len+m) (grownCap w (len+m) cap e))
    (w.drew.alloc (.cells (olds.toArray++news.toArray++Builtin.zeroCells z.cells (grownCap w (len+m) cap e - (len+m))) e)):=by
 have h63':¬(9223372036854775807<((len:Int)+(m:Int))):=by omega
 have ab1:¬(281474976710656<Builtin.nextslicecap (len+m) cap*i.bytes):=by omega
 simp[Builtin.append_,run_underlying ht,run_underlying hu,Go.sizeOf,typeInfo,zeroValue,hi,hz,Builtin.lenOf,h,h63',ab1,Question.forced,hx,hy,newRow,grownCap];congr 2;apply pq;simp[mS]
variable {c:Ctx}{G:Nat->C}{zl:Nat->Nat->Prop}{s:ah}{a:Act}{w:World}{o:Oper}{K:ah->Prop}
def I6(h:St c G zl s a w){G1:Nat->C}{s1:ah}{l:List C}(hT:bM w zl c.zb G l G1 s1){d z bytes:Nat}{ty ty' el Ez:TypeId}{i:TypeInfo}{v:Value}{x' y':Operand}
  (ho:o.op=.call {callee:=.builtin .append,args:= #[x',y'],argTypes:= #[ty,ty']})(hu:P.underlying ty=some (.slice el))(wR:P.underlying ty'=some (.slice Ez))(hi:P.info? el=some i)(hz:i.zero=some v)(hsz:i.size=z)(hb:i.bytes=bytes)(hb0:0<bytes)(h0:0<z)(hvs:v.cells.size=z)
  (hd:o.dst=some d)(hn:d<c.nt){A:Option Ad}{len cap:Nat}{e:Nat->Nat->C}(hy1:C.row .own z A len cap e∈l)(hv1:a.eval x'=(C.row .own z A len cap e).val)
  {A2:Option Ad}{m cap2:Nat}{e2:Nat->Nat->C}(AZ:a.eval y'=.slice (A2.map λq=>⟨q.1,q.2.1,q.2.2⟩) m cap2)(hc2:∀i j,i<m->j<z->∃g o,A2=some (g,o,none)/\w.cell? ⟨g,o+i*z+j,none⟩=some (e2 i j).val)
  (hk2:∀i j,i<m->j<z->(e2 i j).plain/\(e2 i j).ok w (Zf zl c.zb)/\∀b k,(e2 i j).fp b k->¬(C.row .own z A len cap e).fp b k/\∃y∈l,y.fp b k)
  (hp2:(cX m z e2).flatten.Pairwise λa b=>∀x k,a.fp x k->¬b.fp x k)(hbig:(len+m)*bytes<=140737488355328)(hpl:∀i j,i<len->j<z->(e i j).plain)
  (hK:K (put d (.row .own z (dN z len e++dN z m e2)) s1)):Good P c o a w K:=by
 obtain⟨y1,y2,y3,y4⟩:=hT.all _ hy1;have RG:=y1;obtain⟨r1,r2,r3,r4,r5⟩:=y1;have hk1:∀i j,i<len->j<z->∀b k,(e i j).fp b k->(C.row .own z A len cap e).fp b k:=λi j hi hj b k hf=>C.kn (r3 i j hi hj).1 (r3 i j hi hj).2.2.1 hi hj hf;have hc1:∀i j,i<len->j<z->∃g o,A=some (g,o,none)/\w.cell? ⟨g,o+i*z+j,none⟩=some (e i j).val:=λi j hi hj=>by obtain⟨g,o,q1,q2,_⟩:=r2 i j hi hj;exact⟨g,o,q1,q2⟩
 have hlen:∀x∈cX len z e++cX m z e2,x.length=z:=λx hx=>(dK.1 hx).elim (uC _ _ _ x) (uC _ _ _ x);have Q4:(cX len z e).length=len:=by simp[cX]
 have Q5:(cX m z e2).length=m:=by simp[cX]
 have E0:(cX len z e++cX m z e2).length=len+m:=by rw[fK,Q4,Q5]
 have kM:(cX len z e++cX m z e2).map (λx=>x.map C.er)=dN z len e++dN z m e2:=by rw[iK,RX,RX]
 have hall:∀x∈(cX len z e++cX m z e2).flatten,x.plain/\x.ok w (Zf zl c.zb)/\∀b k,x.fp b k->∃y∈l,y.fp b k:=λx hx=>by
  rw[zm,dK] at hx;rcases hx with hx|hx;·obtain⟨i,j,hi,hj,rfl⟩:=nC hx;exact⟨hpl i j hi hj,(r3 i j hi hj).2.2.2,λb k hf=>⟨_,hy1,hk1 i j hi hj b k hf⟩⟩
  ·obtain⟨i,j,hi,hj,rfl⟩:=nC hx;obtain⟨a1,a2,a3⟩:=hk2 i j hi hj;exact⟨a1,a2,λb k hf=>(a3 b k hf).2⟩
 have jq:(cX len z e++cX m z e2).flatten.Pairwise λa b=>∀x k,a.fp x k->¬b.fp x k:=by rw[zm];refine vE.2 ⟨Lh RG,hp2,λx hx y hy b k hf hf'=>?_⟩;obtain⟨i,j,hi,hj,rfl⟩:=nC hx;obtain⟨i',j',hi',hj',rfl⟩:=nC hy;exact((hk2 i' j' hi' hj').2.2 b k hf').1 (hk1 i j hi hj b k hf)
 have jK:bM w zl c.zb G (cX len z e++cX m z e2).flatten G1 s1:=hT.sub (λx hx=>(hall x hx).2.1) (λx hx=>(hall x hx).2.2) jq;have hfl:(cX len z e).flatten.length=len*z:=by rw[rV (uC _ _ _),Q4]
 have r8:(cX m z e2).flatten.length=m*z:=by rw[rV (uC _ _ _),Q5]
 have mo:∀r w',(Builtin.append_ #[ty,ty'] o.type #[(C.row .own z A len cap e).val,.slice (A2.map λq=>⟨q.1,q.2.1,q.2.2⟩) m cap2]).run P w=.ok r w'->(execOp a.eval o).run P w=.ok (.value r) w':=λr w' hr=>by simp[execOp,ho,resolve,invoke,builtin,hv1,AZ,hr]
 have hmul:len+m<=(len+m)*bytes:=Nat.le_mul_of_pos_right _ hb0;subst hsz;by_cases hroom:len+m<=cap
 ·have hx:=JX (P:=P) (cap:=cap2) h0 hc2;have hr:=agw (P:=P) (ty:=o.type) (A:=A.map λq=>⟨q.1,q.2.1,q.2.2⟩) hu wR hi hroom hx.1;rcases r4 rfl with ⟨hA,hcap⟩|⟨g,o',arr,t,fz,hA,hh,amC,hfr⟩
  ·
   have hm:m=0:=by omega
   have hl:len=0:=by omega
   subst hm;subst hl;subst hA;subst hcap;obtain⟨G',h'⟩:=h.fresh hT (Ext.refl _ w) hn RG trivial (λb k hf=>.inr ⟨_,hy1,hf⟩);refine⟨_,w,.inl (mo _ _ hr),G',zl,_,hK,?_⟩;rw[hd];exact h'
  ·subst hA;have Kn:(len+m)*i.size<=cap*i.size:=n8 _ hroom;rw[fI] at Kn
   have hst:=run_storeCells_cells (P:=P) g (o'+len*i.size) ((cX m i.size e2).flatten.map C.val) 0 w (λj hj=>by
     rw[dV,r8] at hj;rw[cell_of_row _ _ _ _ _ fz hh];rw[DL (by omega)];rfl) (λj hj=>by
     rw[dV,r8] at hj;exact hfr _ (by omega) (by omega)) (λu hu=>by
     obtain⟨x,hx,rfl⟩:=aT.1 hu;obtain⟨i',j',hi',hj',rfl⟩:=nC hx;exact Inv.rL (C.lS (hk2 i' j' hi' hj').1))
   simp only[cx,rz,hst,nZ,Result.andThen_ok] at hr;have hE:=Ext.setCells g ((cX m i.size e2).flatten.map C.val) (o'+len*i.size) w;rw[dV,r8] at hE;have hin:=World.cell?_setCells_in g ((cX m i.size e2).flatten.map C.val) (o'+len*i.size) w;generalize hw':w.setCells g (o'+len*i.size) ((cX m i.size e2).flatten.map C.val)=w' at hr hE hin;have hg:g<w.heap.size:=(gR.1 hh).1;have wJ:∀k,(C.row .own i.size (some (g,o',none)) len cap e).fp g k:=λk=>⟨rfl,.inl ⟨_,rfl⟩⟩
   obtain⟨gb,qd,hs'⟩:∃gb,w'.heap[g]?=some (.cells gb t fz)/\gb.size=arr.size:=by
    rcases hE.block g hg with e'|⟨a1,a2,t',mj,q1,q2,q3,q4⟩;·exact⟨arr,e'.trans hh,rfl⟩
    ·rw[hh] at q1;injection q1 with q1
     injection q1 with b1 b2 b3
     subst b1;subst b2;subst b3;exact⟨a2,q2,q3⟩
   have hok:(uM g o' i.size cap (cX len i.size e++cX m i.size e2)).ok w' (Zf zl c.zb):=by
    refine Tj hlen (by rw[E0];exact hroom) qd (by omega) (λk h1 h2=>(hE.frozen hg).trans (hfr k h1 h2)) (λq x hq=>?_) (λx hx=>?_) jq (λx hx b k hf=>?_)
    ·rw[zm] at hq;by_cases hql:q<len*i.size
     ·rw[mT (by omega)] at hq;obtain⟨a1,a2,rfl⟩:=RW h0 hq;obtain⟨g',o2,hA,hcl⟩:=hc1 _ _ a1 a2;injection hA with hA
      injection hA with b1 b2
      injection b2 with b2
      subst b1;subst b2;have AR:q=q / i.size*i.size+q%i.size:=by have:=DF q i.size;rw[q6] at this;omega
      refine hE.cell (λhs=>by omega) ?_;rw[<-hcl];congr 2;omega
     ·rw[jb (by omega)] at hq;rw[hfl] at hq;have Fc:=(aN.1 hq).1;rw[r8] at Fc;have:=hin (λj hj=>by rw[dV,r8] at hj;rw[cell_of_row _ _ _ _ _ fz hh,DL (by omega)];rfl) (q - len*i.size) (by rw[dV,r8];exact Fc)
      rw[show o'+len*i.size+(q - len*i.size)=o'+q by omega] at this;rw[this,<-cj,de,hq];rfl
    ·obtain⟨a1,a2,a3⟩:=hall x hx;refine⟨C.lS a1,C.B2 a1,hT.fits' hE (λb k hz hs=>?_) a2 (λb k hf hs=>?_)⟩;·obtain⟨rfl,_⟩:=hs;exact hz.elim (y3 b k (wJ k)).1 (y3 b k (wJ k)).2
     ·obtain⟨rfl,_⟩:=hs;rw[zm,dK] at hx;rcases hx with hx|hx;·obtain⟨i',j',hi',hj',rfl⟩:=nC hx;exact(r5 i' j' hi' hj' b k hf).1 rfl o' rfl
      ·obtain⟨i',j',hi',hj',rfl⟩:=nC hx;exact((hk2 i' j' hi' hj').2.2 b k hf).1 (wJ k)
    ·intro hbg;subst hbg;rw[zm,dK] at hx;rcases hx with hx|hx;·obtain⟨i',j',hi',hj',rfl⟩:=nC hx;exact(r5 i' j' hi' hj' b k hf).1 rfl o' rfl
     ·obtain⟨i',j',hi',hj',rfl⟩:=nC hx;exact((hk2 i' j' hi' hj').2.2 b k hf).1 (wJ k)
   obtain⟨G',h'⟩:=h.fresh' hT hE (λb k hs=>.inr ⟨_,hy1,by rw[hs.1];exact wJ k⟩) hn hok trivial (λb k hf=>by
    rcases Ti hlen hf with rfl|⟨x,hx,hf⟩;·exact .inr ⟨_,hy1,wJ k⟩
    ·exact .inr ((hall x hx).2.2 b k hf))
   refine⟨_,w',.inl (mo _ _ hr),G',zl,_,hK,?_⟩;rw[hd];rw[Th hlen,kM,agd,E0] at h';exact h'
 ·have hx:=JX (P:=P) (w1:=w.drew) (cap:=cap2) h0 hc2;have hy:=JX (P:=P) (w1:=w.drew) (cap:=cap) h0 hc1;have hr:=agv (P:=P) (ty:=o.type) hu wR hi hz hroom (by omega) (growslice_fits (by omega) (by rw[hb];exact hbig)) hx.1 hy.1;have hge:=grownCap_ge w (len+m) cap el;generalize grownCap w (len+m) cap el=cap' at hr hge;refine jZ.good (good_row h (L:=cX len i.size e++cX m i.size e2) (cap:=cap') (fz:=(0,0)) hlen (by rw[E0];exact hge) jK (λx hx=>(hall x hx).1) hd hn (PL w _) (AK w.drew _) ?_ (λk _ hh=>by simp at hh) (λq x hq=>?_) (by rw[E0];exact mo _ _ hr) (by rw[kM];exact hK));·simp only[NK,pE,dV,hfl,r8,size_zeroCells,hvs];rw[<-fI,<-fI];exact n8 _ (by omega)
  ·rw[zm] at hq;have Fc:=(aN.1 hq).1;have hmap:(((cX len i.size e).flatten++(cX m i.size e2).flatten).map C.val)[q]?=some x.val:=by rw[de,hq];rfl
   rw[NY (by rw[NK,pE,pE,dV,dV,<-fK];exact Fc)];rw[<-hmap,iK];simp
end
end M
namespace M
open Go Go.RowKit
variable [Bs]
namespace C
def belows(r:Nat)(p:Path):Nat->Path->Bool:=λs q=>s==r && pT p q
def BA(r:Nat)(p:Path){α:Type}(f:α->X):∀l:List α,X.qq r p (l.map f)=l.map λa=>(f a).fm r p
 |[]=>rfl
 |a::l=>by simp only[bg,X.qq,BA r p f l]
def xd(r:Nat)(p:Path):∀c:C,(c.ay (belows r p)).er=c.er.fm r p
 |.ref v s q=>by simp only[ay,er,X.fm,belows];cases s==r && pT p q<;>rfl
 |.aB v s q i c=>by simp only[ay,er,X.fm,belows];cases s==r && pT p q<;>rfl
 |.cut v s q i c=>by simp only[ay,er,X.fm,belows];cases s==r && pT p q<;>rfl
 |.ptr m g o n c=>by simp only[ay,er,X.fm,BA];congr 1;exact cz λj _=>xd r p (c j)
 |.agg n c=>by simp only[ay,er,X.fm,BA];congr 1;exact cz λj _=>xd r p (c j)
 |.aj n c=>by simp only[ay,er,X.fm,BA];congr 1;exact cz λj _=>xd r p (c j)
 |.fn f n c=>by simp only[ay,er,X.fm,BA];congr 1;exact cz λj _=>xd r p (c j)
 |.dead _=>by simp only[ay,er,X.fm]
 |.int _ _=>by simp only[ay,er,X.fm]
 |.bool _=>by simp only[ay,er,X.fm]
 |.str _=>by simp only[ay,er,X.fm]
 |.row _ _ _ _ _ _=>by simp only[ay,er,X.fm]
def rG(G:Nat->C):∀c:C,c.bare->c.rf G
 |.ref _ _ _,h=>h.elim
 |.aB _ _ _ _ _,h=>h.elim
 |.cut _ _ _ _ _,h=>h.elim
 |.ptr m g o n c,h=>λj hj=>rG G (c j) (h j hj)
 |.agg n c,h=>λj hj=>rG G (c j) (h j hj)
 |.aj n c,h=>λj hj=>rG G (c j) (h j hj)
 |.fn f n c,h=>λj hj=>rG G (c j) (h j hj)
 |.dead _,_=>trivial
 |.int _ _,_=>trivial
 |.bool _,_=>trivial
 |.str _,_=>trivial
 |.row _ _ _ _ _ _,_=>trivial
def vS{l:List X}:X.bare.jg l=true↔∀x∈l,x.bare=true:=by
 induction l with
 |nil=>simp[X.bare.jg]
 |cons a l ih=>simp[X.bare.jg,ih]
def l6:∀c:C,c.er.bare=true↔c.bare
 |.ref _ _ _=>by simp[er,X.bare,bare]
 |.aB _ _ _ _ _=>by simp[er,X.bare,bare]
 |.cut _ _ _ _ _=>by simp[er,X.bare,bare]
 |.ptr m g o n c=>by simp only[er,X.bare,bare,vS,aT,nX];exact⟨λh j hj=>(l6 (c j)).1 (h _ ⟨j,hj,rfl⟩),λh x ⟨j,hj,e⟩=>e▸(l6 (c j)).2 (h j hj)⟩
 |.agg n c=>by simp only[er,X.bare,bare,vS,aT,nX];exact⟨λh j hj=>(l6 (c j)).1 (h _ ⟨j,hj,rfl⟩),λh x ⟨j,hj,e⟩=>e▸(l6 (c j)).2 (h j hj)⟩
 |.aj n c=>by simp only[er,X.bare,bare,vS,aT,nX];exact⟨λh j hj=>(l6 (c j)).1 (h _ ⟨j,hj,rfl⟩),λh x ⟨j,hj,e⟩=>e▸(l6 (c j)).2 (h j hj)⟩
 |.fn f n c=>by simp only[er,X.bare,bare,vS,aT,nX];exact⟨λh j hj=>(l6 (c j)).1 (h _ ⟨j,hj,rfl⟩),λh x ⟨j,hj,e⟩=>e▸(l6 (c j)).2 (h j hj)⟩
 |.dead _=>by simp[er,X.bare,bare]
 |.int _ _=>by simp[er,X.bare,bare]
 |.bool _=>by simp[er,X.bare,bare]
 |.str _=>by simp[er,X.bare,bare]
 |.row _ _ _ _ _ _=>by simp[er,X.bare,bare]
def SV:∀{p q:Path},X.pfx p q=true->¬p.length<q.length->q=p
 |[],[],_,_=>rfl
 |[],_::_,_,h=>by simp at h
 |_::_,[],h,_=>by simp[X.pfx] at h
 |x::p,y::q,h,hl=>by simp only[X.pfx,av,eH] at h;obtain⟨⟨h1,h2⟩,h3⟩:=h;rw[SV h3 (by simpa using hl)];congr 1;cases x;cases y;simp only at h1 h2;rw[h1,h2]
end C
def QM(r:Nat)(p:Path)(t:Nat):∀s:ah,get (sy r p s) t=(get s t).fm r p
 |[]=>by simp[sy,get,X.fm]
 |(k,v)::s=>by
  simp only[sy,get];cases k==t;·exact QM r p t s
  ·rfl
namespace Inv
variable {w w':World}{zl aD zb:Nat->Nat->Prop}{G:Nat->C}{s:ah}{S:Nat->Nat->Prop}
def fm(h:Inv w zl zb G s)(r:Nat)(p:Path):Inv w zl zb (λt=>(G t).ay (C.belows r p)) (sy r p s):=
 h.off _ λt=>by rw[C.xd,QM,h.er]
def I9(h:Inv w zl zb G s)(r:Nat)(p:Path)(hfree:∀t,(G t).free (C.belows r p)){d d':C}(hsub:(G r).sub p=some d)(hF:C.gC d d')(hl:C.iy d d')(Re:d'.rf G/\d'.free (C.belows r p))(hE:Ext S w w')
  (hS:∀b k,S b k->d.fp b k\/((∀t,¬(G t).fp b k)/\¬zl b k/\¬zb b k))(hok:d'.ok w' (Zf aD zb))(hz1:∀b k,zl b k->aD b k)(hz2:∀b k,aD b k->¬d'.fp b k/\b<w'.heap.size/\∀t,(G t).fp b k->d.fp b k)
  (cm:∀b k,d'.fp b k->d.fp b k\/((∀t,¬(G t).fp b k)/\¬zb b k)):
  Inv w' aD zb (fQ G r (C.putAt p (G r) d')) ((r,X.putAt p (get s r) d'.er)::s)/\(∀t,(fQ G r (C.putAt p (G r) d') t).val=(G t).val)/\
   ∀t b k,(fQ G r (C.putAt p (G r) d') t).fp b k->d'.fp b k\/((G t).fp b k/\¬d.fp b k):=by
 have bA:∀{b k},d.fp b k->(G r).fp b k:=λhf=>C.gP p hsub (h.ok r) hf
 have hZ:∀m b k,Zf zl zb m b k->¬S b k:=λm b k hz hs=>by
  rcases hS b k hs with hs|hs;·exact h.zq r m b k hz (bA hs)
  ·cases m with
   |own=>exact hz.elim
   |sl=>exact hs.2.1 hz
   |af=>exact hz.elim hs.2.1 hs.2.2
 have hM:∀m b k,Zf zl zb m b k->Zf aD zb m b k:=λm b k hz=>by
  cases m with
  |own=>exact hz
  |sl=>exact hz1 b k hz
  |af=>exact hz.imp (hz1 b k) id
 obtain⟨i1,i2,i3⟩:=C.BW hM hE hZ p (G r) d d' (h.ok r) hsub hok hl (λb k hs=>(hS b k hs).imp id λhn=>hn.1 r) (λb k hf=>(cm b k hf).imp id λhn=>hn.1 r)
 have hr':∀t,t≠r->∀b k,(C.putAt p (G r) d').fp b k->¬(G t).fp b k:=λt e b k hf=>by
  rcases i2 b k hf with hf|hf
  ·rcases cm b k hf with hf|hf;·exact h.sep r t (λe'=>e e'.symm) b k (bA hf)
   ·exact hf.1 t
  ·exact h.sep r t (λe'=>e e'.symm) b k hf.1
 have key:∀c':C,c'.free (C.belows r p)->c'.rf G->c'.rf (fQ G r (C.putAt p (G r) d')):=λc' hf hr=>C.lW (C.belows r p) (λs' q' y' hk hs=>by
  by_cases e:s'=r
  ·subst e;rw[dJ];cases hp:X.pfx p q' with
   |false=>exact C.H6 p q' (G s') d' y' hp hs
   |true=>
    have hlen:¬p.length<q'.length:=by simpa [C.belows,pT,hp] using hk
    have he:=C.SV hp hlen;subst he;rw[hsub] at hs;injection hs with hs
    subst hs;exact .inl ⟨d',hF,C.H7 _ hsub⟩
  ·rw[dy _ _ e];exact C.self y' _ q' hs) c' hf hr
 refine⟨⟨λt=>?_,λt=>?_,λt u hne b k hf=>?_,λt b k hf=>?_,λt=>?_,λb k hz=>?_⟩,λt=>?_,λt b k hf=>?_⟩
 ·rw[wH];by_cases e:t=r;·subst e;rw[dJ,aA rfl,C.LQ,h.er]
  ·rw[dy _ _ e,aC e];exact h.er t
 ·by_cases e:t=r;·subst e;rw[dJ];exact i1
  ·rw[dy _ _ e];refine C.gM hM _ (C.fE hE hZ _ (λb k hf hs=>?_) (h.ok t));rcases hS b k hs with hs|hs;·exact h.sep t r e b k hf (bA hs)
   ·exact hs.1 t hf
 ·by_cases e:t=r;·subst e;rw[dJ] at hf;rw[dy _ _ (λe=>hne e.symm)];exact hr' u (λe=>hne e.symm) b k hf
  ·rw[dy _ _ e] at hf;by_cases e':u=r;·subst e';rw[dJ];exact λhc=>hr' t e b k hc hf
   ·rw[dy _ _ e'];exact h.sep t u hne b k hf
 ·by_cases e:t=r
  ·subst e;rw[dJ] at hf;rcases i2 b k hf with hf|⟨hf,hn⟩
   ·refine⟨λhz=>(hz2 b k hz).1 hf,λhz=>?_⟩;rcases cm b k hf with hf|hf;·exact(h.fz t b k (bA hf)).2 hz
    ·exact hf.2 hz
   ·exact⟨λhz=>hn ((hz2 b k hz).2.2 t hf),(h.fz t b k hf).2⟩
  ·rw[dy _ _ e] at hf;exact⟨λhz=>h.sep t r e b k hf (bA ((hz2 b k hz).2.2 t hf)),(h.fz t b k hf).2⟩
 ·by_cases e:t=r
  ·subst e;rw[dJ]
   have inner:∀(p':Path) (c':C),c'.free (C.belows t p)->c'.rf G->(C.putAt p' c' d').rf (fQ G t (C.putAt p (G t) d')):=by
    intro p';induction p' with
    |nil=>intro c' _ _;exact key d' Re.2 Re.1
    |cons x p' ih=>
     intro c' jl ki;simp only[C.putAt];cases hst:c'.step x with
     |none=>exact key c' jl ki
     |some z=>
      cases c' with
      |row m sz A len cap e=>trivial
      |ptr m g o n c=>
       simp only[C.step] at hst;split at hst
       ·rename_i hq;injection hst with hst
        intro j hj;simp only[C.cr];split;·exact ih z (by rw[<-hst];exact jl _ hq.2) (by rw[<-hst];exact ki _ hq.2)
        ·exact key _ (jl j hj) (ki j hj)
       ·cases hst
      |agg n c=>
       simp only[C.step] at hst;split at hst
       ·rename_i hq;injection hst with hst
        intro j hj;simp only[C.cr];split;·exact ih z (by rw[<-hst];exact jl _ hq.2) (by rw[<-hst];exact ki _ hq.2)
        ·exact key _ (jl j hj) (ki j hj)
       ·cases hst
      |aj n c=>
       simp only[C.step] at hst;split at hst
       ·rename_i hq;injection hst with hst
        intro j hj;simp only[C.cr];split;·exact ih z (by rw[<-hst];exact jl _ hq.2) (by rw[<-hst];exact ki _ hq.2)
        ·exact key _ (jl j hj) (ki j hj)
       ·cases hst
      |_=>simp[C.step] at hst
   exact inner p (G t) (hfree t) (h.rf t)
  ·rw[dy _ _ e];exact key _ (hfree t) (h.rf t)
 ·exact hz.elim (λhz=>(hz2 b k hz).2.1) λhz=>jT (h.cI b k (.inr hz)) hE.size
 ·by_cases e:t=r;·subst e;rw[dJ];exact i3.val
  ·rw[dy _ _ e]
 ·by_cases e:t=r;·subst e;rw[dJ] at hf;exact i2 b k hf
  ·rw[dy _ _ e] at hf;exact .inr ⟨hf,λhd=>h.sep t r e b k hf (bA hd)⟩
def OE(h:Inv w zl zb G s)(hE:Ext S w w')(hS:∀b k,S b k->(∀t,¬(G t).fp b k)/\¬zl b k/\¬zb b k)(hz1:∀b k,zl b k->aD b k)(hz2:∀b k,aD b k->b<w'.heap.size/\∀t,¬(G t).fp b k):Inv w' aD zb G s:=by
 have h1:=h.ext hE (λt b k hf hs=>(hS b k hs).1 t hf) (λb k hz hs=>hz.elim (hS b k hs).2.1 (hS b k hs).2.2);refine⟨h1.er,λt=>C.gM (λm b k hz=>?_) _ (h1.ok t),h1.sep,λt b k hf=>⟨λhz=>(hz2 b k hz).2 t hf,(h1.fz t b k hf).2⟩,h1.rf,λb k hz=>hz.elim (λhz=>(hz2 b k hz).1) λhz=>h1.cI b k (.inr hz)⟩;cases m with
 |own=>exact hz
 |sl=>exact hz1 b k hz
 |af=>exact hz.imp (hz1 b k) id
end Inv
end M
namespace M
open Go Go.RowKit
variable [Bs]
section
variable {P:Program}{c:Ctx}{G:Nat->C}{zl:Nat->Nat->Prop}{s:ah}{a:Act}{w:World}{o:Oper}{K:ah->Prop}
def afo(h:St c G zl s a w){sz:Nat}{z:List X}{ty el:TypeId}{ii:TypeInfo}{v:Value}{x:AV}{x':Operand}(ho:o.op=.call {callee:=.builtin .clear,args:= #[x'],argTypes:= #[ty]})(hu:P.underlying ty=some (.slice el))(hi:P.info? el=some ii)(hz:ii.zero=some v)
  (Kn:mZ v.cells.toList z=true)(hzs:z.length=sz)(h0:0<sz)(hd:o.dst=none)(hx:aK x' x=true)(hK:aM P (.wg sz z x) s K):Good P c o a w K:=by
 obtain⟨q,q1,q2,q3⟩:=cA h hx;simp only[aM] at hK;rw[<-q1] at hK;cases q with
 |cut vv r p lo hi'=>
  simp only[C.er] at hK;obtain⟨m,bU,A,len,cap,e,A',cap',hs,hv,hlo,hhi,hcap,jj,-,-⟩:=q3.rf;unfold look at hK;rw[<-h.inv.er,C.gO,hs] at hK;cases m with
  |own=>
   simp only[cx,C.er] at hK;obtain⟨rfl,hK⟩:=hK;obtain⟨zs,Z⟩:=DN w zl c.zb Kn;have hzl:zs.length=z.length:=by rw[<-Z.er];simp
   have hvs:v.cells.size=z.length:=by rw[<-hzl,<-DA,<-Z.val];simp
   have hok:=C.iu p hs (h.inv.ok r);have hin:∀b k,(C.row .own bU A len cap e).fp b k->(G r).fp b k:=λb k hf=>C.gP p hs (h.inv.ok r) hf;obtain⟨h1,h2,h3,h4,h5⟩:=hok;let e':Nat->Nat->C:=λi j=>if lo<=i/\i<hi' then zs.getD j (.dead undef) else e i j
   have he:∀i j,(lo<=i/\i<hi')->e' i j=zs.getD j (.dead undef):=λi j hh=>aA hh;have hne:∀i j,¬(lo<=i/\i<hi')->e' i j=e i j:=λi j hh=>aC hh;have Ba:∀j,j<bU->zs.getD j (.dead undef)∈zs:=λj hj=>cW (by omega) _;have kO:∀i j,i<len->j<bU->∀b k,(e i j).fp b k->(C.row .own bU A len cap e).fp b k:=λi j hi hj b k hf=>⟨rfl,.inr ⟨i,j,hi,hj,hf⟩⟩
   have uf:∀b k,(C.row .own bU A len cap e').fp b k->(C.row .own bU A len cap e).fp b k:=λb k hf=>by
    obtain⟨_,hA|⟨i,j,hi2,hj,hf⟩⟩:=hf;·exact⟨rfl,.inl hA⟩
    ·by_cases hh:lo<=i/\i<hi';·rw[he i j hh] at hf;exact((Z.all _ (Ba j hj)).2.2 b k hf).elim
     ·rw[hne i j hh] at hf;exact kO i j hi2 hj b k hf
   have run:∃w',(execOp a.eval o).run P w=.ok (.value (.tuple #[])) w'/\Ext (λb k=>∃o',A=some (b,o',none)) w w'/\∀i j,i<len->j<bU->∃g o',A=some (g,o',none)/\w'.cell? ⟨g,o'+i*bU+j,none⟩=some (e' i j).val:=by
    have mo:∀n' A2 c2 r w',a.eval x'=.slice A2 n' c2->(Builtin.clear_ #[ty] o.type #[.slice A2 n' c2]).run P w=.ok r w'->(execOp a.eval o).run P w=.ok (.value r) w':=by intro n' A2 c2 r w' hh hr;simp[execOp,ho,hh,resolve,invoke,builtin,hr]
    by_cases hn0:hi' - lo=0
    ·refine⟨w,?_,Ext.refl _ _,λi j mq hj=>?_⟩
     ·have AZ:a.eval x'=.slice (Option.map (λq:Ad=>⟨q.1,q.2.1,q.2.2⟩) A') 0 cap':=by rw[<-q2,C.val,hv,hn0]
      refine mo _ _ _ _ _ AZ ?_;cases A'<;>simp[Builtin.clear_,run_underlying hu]
     ·obtain⟨g,o',b1,b2,_⟩:=h2 i j mq hj;exact⟨g,o',b1,by rw[b2,hne i j (by omega)]⟩
    ·obtain⟨g,o',b1,_,_⟩:=h2 lo 0 (by omega) h0;have hAs:A'=some (g,o'+lo*bU,none):=by rw[jj (by omega),b1,cx,pQ]
     have hall:∀i j,i<len->j<bU->w.cell? ⟨g,o'+i*bU+j,none⟩=some (e i j).val:=λi j mq hj=>by
      obtain⟨g2,o2,c1,c2,_⟩:=h2 i j mq hj;rw[b1] at c1;injection c1 with c1
      injection c1 with c3 c4
      injection c4 with c4
      subst c3;subst c4;exact c2
     have acF:∀k,o'<=k->k<o'+cap*bU->w.frozen? ⟨g,k,none⟩=false:=by
      rcases h4 rfl with ⟨d1,_⟩|⟨g2,o2,arr,t,fz,d1,d2,d3,d4⟩;·rw[b1] at d1;cases d1
      ·rw[b1] at d1;injection d1 with d1
       injection d1 with d5 d6
       injection d6 with d6
       subst d5;subst d6;exact d4
     let vs:List Value:=(Builtin.zeroCells v.cells (hi' - lo)).toList;have hvl:vs.length=(hi' - lo)*bU:=by simp[vs,Builtin.zeroCells,hvs,hzs]
     have RE:∀k (hk:k<vs.length),vs[k]=(zs.getD (k%bU) (.dead undef)).val:=by
      intro k hk;have hm:k%bU<zs.length:=by rw[hzl,hzs];exact tA _ h0
      have hm2:k%bU<v.cells.size:=by omega
      have e1:vs[k]=v.cells[k%v.cells.size]!:=by simp[vs,Builtin.zeroCells]
      rw[e1,hvs,hzs,getElem!_pos v.cells (k%bU) hm2];have:=dA (λt:List Value=>t[k%bU]?) Z.val;simp only[de] at this;rw[cj hm] at this;rw[jX,cj hm];simp only[cx,Array.getElem?_toList,DL hm2,dL] at this;exact this.symm
     have hidx:∀k,k<(hi' - lo)*bU->k / bU<hi' - lo/\k=k / bU*bU+k%bU:=λk hk=>by refine⟨(Nat.div_lt_iff_lt_mul h0).2 hk,?_⟩;have:=DF k bU;rw[q6] at this;omega
     have Rv:∀k,k<(hi' - lo)*bU->o'+lo*bU+k=o'+(lo+k / bU)*bU+k%bU:=λk hk=>by have:=(hidx k hk).2;rw[fI];omega
     have hsome:∀j,j<vs.length->(w.cell? ⟨g,o'+lo*bU+j,none⟩).isSome=true:=λj hj=>by rw[hvl] at hj;rw[Rv j hj,hall _ _ (by have:=(hidx j hj).1;omega) (tA _ h0)];rfl
     have hst:=run_storeCells_cells (P:=P) g (o'+lo*bU) vs 0 w (by simpa using hsome) (λj hj=>by
      rw[hvl] at hj;refine acF _ (by omega) ?_;rw[nZ,Rv j hj];have h7:=(hidx j hj).1;have h8:(lo+j / bU+1)*bU<=cap*bU:=n8 _ (by omega);have h9:=tA j h0;rw[fI,IB] at h8;omega) (λu hu=>by
      obtain⟨k,hk,rfl⟩:=pL hu;rw[RE k hk];exact Inv.rL (C.lS (Z.all _ (Ba _ (tA _ h0))).1))
     have hE:=Ext.setCells g vs (o'+lo*bU) w;have ace:=World.cell?_setCells_in g vs (o'+lo*bU) w hsome;simp only[nZ] at hst;refine⟨w.setCells g (o'+lo*bU) vs,?_,hE.mono λb k hh _=>⟨o',by rw[b1,hh.1]⟩,λi j mq hj=>⟨g,o',b1,?_⟩⟩
     ·have AZ:a.eval x'=.slice (some ⟨g,o'+lo*bU,none⟩) (hi' - lo) cap':=by rw[<-q2,C.val,hv,hAs];rfl
      refine mo _ _ _ _ _ AZ ?_;obtain⟨m,hm⟩:∃m,hi' - lo=m+1:=⟨hi' - lo - 1,by omega⟩;have hzr:∀w,(zeroValue el).run P w=.ok v w:=by intro w;simp[zeroValue,typeInfo,hi,hz]
      simp only[vs,hm] at hst⊢;simp[Builtin.clear_,run_underlying hu,hzr,hst]
     ·by_cases hh:lo<=i/\i<hi'
      ·have hk:(i - lo)*bU+j<vs.length:=by rw[hvl];have:(i - lo+1)*bU<=(hi' - lo)*bU:=n8 _ (by omega);rw[fI,IB] at this;omega
       have:=ace _ hk;rw[RE _ hk,Nat.mul_add_mod_self_right,Nat.mod_eq_of_lt hj] at this;have hq:lo*bU+(i - lo)*bU=i*bU:=by rw[<-fI];congr 1;omega
       rw[show o'+lo*bU+((i - lo)*bU+j)=o'+i*bU+j by omega] at this;rw[he i j hh];exact this
      ·rw[hne i j hh,World.cell?_setCells_out,hall i j mq hj];intro _ _;simp only;rw[hvl];by_cases hl:i<lo;·left;have:(i+1)*bU<=lo*bU:=n8 _ (by omega);rw[fI,IB] at this;omega
       ·right;have t1:hi'*bU<=i*bU:=n8 _ (by omega);have t2:lo*bU+(hi' - lo)*bU=hi'*bU:=by rw[<-fI];congr 1;omega
        omega
   obtain⟨w',hrun,hE,hcell⟩:=run;have rY:∀b k,(∃o',A=some (b,o',none))->(C.row .own bU A len cap e).fp b k:=λb k hh=>⟨rfl,.inl hh⟩;have Q7:∀m b k,Zf zl c.zb m b k->¬(∃o',A=some (b,o',none)):=λm b k hz hh=>h.inv.zq r m b k hz (hin b k (rY b k hh))
   have Ko:(C.row .own bU A len cap e').ok w' (Zf zl c.zb):=by
    refine⟨h1,λi j mq hj=>?_,λi j mq hj=>?_,λhm=>?_,λi j mq hj b k hf=>?_⟩;·obtain⟨g,o',c1,c2⟩:=hcell i j mq hj;exact⟨g,o',c1,c2,λhm=>(hm rfl).elim⟩
    ·obtain⟨a1,a2,a3,a4⟩:=h3 i j mq hj;by_cases hh:lo<=i/\i<hi';·rw[he i j hh];obtain⟨b1,b2,b3⟩:=Z.all _ (Ba j hj);exact⟨C.lS b1,C.B2 b1,by cases hq:zs.getD j (.dead undef)<;>first|trivial|exact .inl rfl,C.fE hE Q7 _ (λb k hf=>(b3 b k hf).elim) b2⟩
     ·rw[hne i j hh];exact⟨a1,a2,a3,C.fE hE Q7 _ (λb k hf hS=>by obtain⟨o',hA⟩:=hS;exact(h5 i j mq hj b k hf).1 rfl o' hA) a4⟩
    ·rcases h4 hm with hh|⟨g,o',arr,t,fz,d1,d2,d3,d4⟩;·exact .inl hh
     ·have hg:g<w.heap.size:=(gR.1 d2).1
      obtain⟨gb,qd,hs'⟩:∃gb,w'.heap[g]?=some (.cells gb t fz)/\gb.size=arr.size:=by
       rcases hE.block g hg with e'|⟨a1,a2,t',mj,q1,q2,q3,q4⟩;·exact⟨arr,e'.trans d2,rfl⟩
       ·rw[d2] at q1;injection q1 with q1
        injection q1 with b1 b2 b3
        subst b1;subst b2;subst b3;exact⟨a2,q2,q3⟩
      exact .inr ⟨g,o',gb,t,fz,d1,qd,by omega,λk k1 k2=>(hE.frozen hg).trans (d4 k k1 k2)⟩
    ·by_cases hh:lo<=i/\i<hi';·rw[he i j hh] at hf;exact((Z.all _ (Ba j hj)).2.2 b k hf).elim
     ·rw[hne i j hh] at hf;obtain⟨a1,a2⟩:=h5 i j mq hj b k hf;refine⟨a1,λi' j' hi2 hj2 KF hf'=>?_⟩;by_cases qd:lo<=i'/\i'<hi';·rw[he i' j' qd] at hf';exact(Z.all _ (Ba j' hj2)).2.2 b k hf'
      ·rw[hne i' j' qd] at hf';exact a2 i' j' hi2 hj2 KF hf'
   have hk0:=h.inv.fm r p;have hs0:((G r).ay (C.belows r p)).sub p=some (C.row .own bU A len cap e):=C.js _ p _ _ (h.inv.ok r) hs
   obtain⟨i1,i2,i3⟩:=hk0.I9 r p (λt=>C.gL _ _) hs0 (C.gC.row .own .own bU A len cap e e') ⟨rfl,λh=>h,λh=>h,λh=>h,λm h=>h⟩ ⟨trivial,trivial⟩ hE (λb k hs=>.inl (rY b k hs)) Ko (λb k hz=>hz)
    (λb k hz=>⟨λhf=>(h.inv.fz r b k (hin b k (uf b k hf))).1 hz,jT (h.inv.cI b k (.inl hz)) hE.size,λt hf=>by rw[C.cR] at hf;exact((h.inv.fz t b k hf).1 hz).elim⟩) (λb k hf=>.inl (uf b k hf))
   have kM:(C.row .own bU A len cap e').er=.row .own bU (EJ lo hi' z ((List.range len).map λi=>(List.range bU).map λj=>(e i j).er)):=by
    simp only[C.er,EJ];congr 1;apply iw;intro i;rw[DM,C.dm,C.dm];split
    ·simp only[cx,dL];by_cases hh:lo<=i/\i<hi';·rw[aA hh,<-Z.er,<-mE zs (.dead undef) C.er,hzl,hzs];exact cz λj _=>by rw[he i j hh]
     ·rw[aC hh];exact cz λj _=>by rw[hne i j hh]
    ·rfl
   rw[kM] at i1
   have hst:St c _ zl _ a w':=h.move i1 (λt=>(i2 t).trans (C.jt _ _)) hE (λb k hs=>h.tr.dom r b k (hin b k (rY b k hs))) (λt b k hf=>by
    rcases i3 t b k hf with hd|⟨hh,_⟩;·exact .inl ⟨r,hin b k (uf b k hd)⟩
    ·rw[C.cR] at hh;exact .inl ⟨t,hh⟩)
   exact⟨.tuple #[],w',.inl hrun,_,zl,_,hK,by rw[hd];exact hst⟩
  |sl=>exact hK.elim
  |af=>exact hK.elim
 |_=>exact hK.elim
end
end M
namespace M
open Go Go.RowKit
variable [Bs]
section
variable {P:Program}{c:Ctx}{G:Nat->C}{zl:Nat->Nat->Prop}{s:ah}{a:Act}{w:World}{o:Oper}{K:ah->Prop}
def LN{x:C}(hc:x.cell)(hs:x.cT):x.plain:=by cases x<;>first|exact hc|exact hs.elim|trivial
def Al{x:C}{m:Md}{z:Nat}{xs:List (List X)}(h:x.er=.row m z xs):∃A len cap e,x=.row m z A len cap e/\xs=dN z len e:=by
 cases x with
 |row m' z' A len cap e=>
  simp only[C.er] at h;injection h with h1 h2 h3
  subst h1;subst h2;exact⟨A,len,cap,e,rfl,h3.symm⟩
 |_=>simp[C.er] at h
def Tw{z len:Nat}{e:Nat->Nat->C}(h:scalars (dN z len e)){i j:Nat}(hi:i<len)(hj:j<z):scalar (e i j).er=true:=
 h _ (aT.2 ⟨i,by simpa using hi,rfl⟩) _ (aT.2 ⟨j,by simpa using hj,rfl⟩)
def Tx{x:C}(h:scalar x.er=true):x.plain/\∀b k,¬x.fp b k:=by cases x<;>first|exact⟨trivial,λ_ _ h=>h⟩|(simp[C.er,scalar] at h)
def ag5{w:World}{zl zb:Nat->Nat->Prop}{G:Nat->C}{s:ah}(h:Inv w zl zb G s){v:Value}{r:Nat}{p:Path}{lo hi:Nat}(hr:(C.cut v r p lo hi).rf G){z:Nat}{xs:List (List X)}(hl:look s r p=some (.row .own z xs)):
  ∃A' cap' e2 G',v=.slice (Option.map (λq:Ad=>⟨q.1,q.2.1,q.2.2⟩) A') (hi - lo) cap'/\((xs.take hi).drop lo)=dN z (hi - lo) e2/\(∀i j,i<hi - lo->j<z->∃g o,A'=some (g,o,none)/\w.cell? ⟨g,o+i*z+j,none⟩=some (e2 i j).val)/\
   (∀i j,i<hi - lo->j<z->(e2 i j).plain)/\bM w zl zb G (cX (hi - lo) z e2).flatten G' (iH r p (.row .own z (Es lo hi xs)) s):=by
 obtain⟨m,sz,A,len,cap,e,A',cap',hs,hv,hlo,hhi,hcap,jj,-,-⟩:=hr;unfold look at hl;rw[<-h.er,C.gO,hs] at hl;simp only[cx,C.er,dL,X.row.injEq] at hl;obtain⟨rfl,rfl,rfl⟩:=hl;have hok:=C.iu p hs (h.ok r);have hin:∀b k,(C.row .own sz A len cap e).fp b k->(G r).fp b k:=λb k hf=>C.gP p hs (h.ok r) hf;obtain⟨h1,h2,h3,h4,h5⟩:=hok;let e':Nat->Nat->C:=λi j=>if lo<=i/\i<hi then .dead (e i j).val else e i j
 have he:∀i j,(lo<=i/\i<hi)->e' i j=.dead (e i j).val:=λi j hh=>aA hh;have hne:∀i j,¬(lo<=i/\i<hi)->e' i j=e i j:=λi j hh=>aC hh;have kO:∀i j,i<len->j<sz->∀b k,(e i j).fp b k->(C.row .own sz A len cap e).fp b k:=λi j hi hj b k hf=>⟨rfl,.inr ⟨i,j,hi,hj,hf⟩⟩
 have uf:∀b k,(C.row .own sz A len cap e').fp b k->(C.row .own sz A len cap e).fp b k:=λb k hf=>by
  obtain⟨_,hA|⟨i,j,hi',hj,hf⟩⟩:=hf;·exact⟨rfl,.inl hA⟩
  ·by_cases hh:lo<=i/\i<hi;·rw[he i j hh] at hf;exact hf.elim
   ·rw[hne i j hh] at hf;exact kO i j hi' hj b k hf
 have Ko:(C.row .own sz A len cap e').ok w (Zf zl zb):=by
  refine⟨h1,λi j hi' hj=>?_,λi j hi' hj=>?_,h4,λi j hi' hj b k hf=>?_⟩
  ·obtain⟨g,o,a1,a2,a3⟩:=h2 i j hi' hj;refine⟨g,o,a1,?_,a3⟩;rw[a2];by_cases hh:lo<=i/\i<hi;·rw[he i j hh];rfl
   ·rw[hne i j hh]
  ·obtain⟨a1,a2,a3,a4⟩:=h3 i j hi' hj;by_cases hh:lo<=i/\i<hi;·rw[he i j hh];exact⟨Inv.rL a1,trivial,trivial,trivial⟩
   ·rw[hne i j hh];exact⟨a1,a2,a3,a4⟩
  ·by_cases hh:lo<=i/\i<hi;·rw[he i j hh] at hf;exact hf.elim
   ·rw[hne i j hh] at hf;obtain⟨a1,a2⟩:=h5 i j hi' hj b k hf;refine⟨a1,λi' j' hi2 hj2 KF hf'=>?_⟩;by_cases qd:lo<=i'/\i'<hi;·rw[he i' j' qd] at hf';exact hf'
    ·rw[hne i' j' qd] at hf';exact a2 i' j' hi2 hj2 KF hf'
 have h0:=h.fm r p;have hs0:((G r).ay (C.belows r p)).sub p=some (C.row .own sz A len cap e):=C.js _ p _ _ (h.ok r) hs
 obtain⟨i1,i2,i3⟩:=h0.I9 r p (λt=>C.gL _ _) hs0 (C.gC.row .own .own sz A len cap e e') ⟨rfl,λh=>h,λh=>h,λh=>h,λm h=>h⟩ ⟨trivial,trivial⟩ (Ext.refl (λ_ _=>False) w) (λb k hs=>hs.elim) Ko (λb k hz=>hz)
  (λb k hz=>⟨λhf=>(h.fz r b k (hin b k (uf b k hf))).1 hz,h.cI b k (.inl hz),λt hf=>by rw[C.cR] at hf;exact((h.fz t b k hf).1 hz).elim⟩) (λb k hf=>.inl (uf b k hf))
 have kM:(C.row .own sz A len cap e').er=.row .own sz (Es lo hi ((List.range len).map λi=>(List.range sz).map λj=>(e i j).er)):=by
  simp only[C.er,Es];congr 1;apply iw;intro i;rw[DM,C.dm,C.dm];split
  ·simp only[cx,dL];by_cases hh:lo<=i/\i<hi;·rw[aA hh,cP];exact cz λj _=>by rw[he i j hh];rfl
   ·rw[aC hh];exact cz λj _=>by rw[hne i j hh]
  ·rfl
 rw[kM] at i1;have hmem:∀x∈(cX (hi - lo) sz λi j=>e (i+lo) j).flatten,∃i j,i<hi - lo/\j<sz/\x=e (i+lo) j:=λx hx=>by obtain⟨i,j,hi',hj,rfl⟩:=nC hx;exact⟨i,j,hi',hj,rfl⟩
 have hlt:hi - lo≠0->A'=A.map λq=>jB (lo*sz) q:=λhne=>jj (by omega)
 have hrow:(((List.range len).map λi=>(List.range sz).map λj=>(e i j).er).take hi).drop lo=dN sz (hi - lo) λi j=>e (i+lo) j:=by
  unfold dN;rw[<-pz,<-mU,vG,n7 hhi];apply iw;intro i;rw[C.dm,de,pK];by_cases hh:i<hi - lo;·rw[aA hh,rq (by omega),pG];rfl
  ·rw[aC hh,lf (by simp;omega)];rfl
 have h3':∀i j,i<hi - lo->j<sz->(e (i+lo) j).plain:=λi j hi' hj=>LN (h3 (i+lo) j (by omega) hj).1 (h3 (i+lo) j (by omega) hj).2.1;refine⟨A',cap',λi j=>e (i+lo) j,_,hv,hrow,λi j hi' hj=>?_,h3',⟨i1,λx hx=>?_,?_,λt=>(i2 t).trans (C.jt _ _),λt b k hf=>?_⟩⟩;·obtain⟨g,o,a1,a2,a3⟩:=h2 (i+lo) j (by omega) hj;refine⟨g,o+lo*sz,by rw[hlt (by omega),a1,cx,pQ],?_⟩;rw[show o+lo*sz+i*sz+j=o+(i+lo)*sz+j by rw[fI];omega];exact a2
 ·obtain⟨i,j,hi',hj,rfl⟩:=hmem x hx;have hj2:i+lo<len:=by omega
  refine⟨(h3 (i+lo) j hj2 hj).2.2.2,λt b k hf hf'=>?_,λb k hf=>h.fz r b k (hin b k (kO _ _ hj2 hj b k hf)),λb k hf=>⟨r,hin b k (kO _ _ hj2 hj b k hf)⟩⟩;rcases i3 t b k hf' with hd|⟨_,hn⟩
  ·obtain⟨_,⟨o,hA⟩|⟨i',j',hi2,acO,ic⟩⟩:=hd;·exact(h5 _ j hj2 hj b k hf).1 rfl o hA
   ·by_cases hh:lo<=i'/\i'<hi;·rw[he i' j' hh] at ic;exact ic
    ·rw[hne i' j' hh] at ic;refine(h5 _ j hj2 hj b k hf).2 i' j' hi2 acO (λe=>hh ?_) ic;injection e with e1 e2
     omega
  ·exact hn (kO _ _ hj2 hj b k hf)
 ·have hsub:(C.row .own sz (A.map λq=>jB (lo*sz) q) (hi - lo) (cap - lo) λi j=>e (i+lo) j).ok w (Zf zl zb):=(PJ ⟨h1,h2,h3,h4,h5⟩ hlo hhi (by omega) (by omega) (.inr rfl)).1;exact Lh hsub
 ·by_cases ht:t=r
  ·subst ht;rcases i3 t b k hf with hd|⟨hh,_⟩;·exact hin b k (uf b k hd)
   ·rwa [C.cR] at hh
  ·rw[dy _ _ ht,C.cR] at hf;exact hf
def afd(h:St c G zl s a w){d sz bytes:Nat}{tk:Tk}{ty ty' el Ez:TypeId}{i:TypeInfo}{v:Value}{x y:AV}{x' y':Operand}
  (ho:o.op=.call {callee:=.builtin .append,args:= #[x',y'],argTypes:= #[ty,ty']})(hu:P.underlying ty=some (.slice el))(wR:P.underlying ty'=some (.slice Ez))(hi:P.info? el=some i)(hz:i.zero=some v)(hsz:i.size=sz)(hb:i.bytes=bytes)(hb0:0<bytes)(h0:0<sz)(hvs:v.cells.size=sz)
  (hd:o.dst=some d)(hn:d<c.nt)(hx:aK x' x=true)(hy:aK y' y=true)(hK:aM P (.app d tk sz bytes x y) s K):Good P c o a w K:=by
 obtain⟨p,e1,e2,e3⟩:=cA h hx;obtain⟨y1,G1,f1,f2,f3,f4⟩:=qW .mv h.inv e3;simp only[aM] at hK;rw[e1] at f1 f4;rw[<-f1] at hK;have h1:=h.yO f4;have KO:=(f2.trans e2).symm;cases hE:y1.er with
 |row m z xs=>
  rw[hE] at hK;cases m with
  |own=>
   obtain⟨A,len,cap,e,rfl,rfl⟩:=Al hE;obtain⟨rfl,hK⟩:=hK;obtain⟨q,q1,q2,q3⟩:=cA h1 hy;have hk1:∀i j,i<len->j<z->(e i j).plain:=λi j hi hj=>LN (f4.ok.2.2.1 i j hi hj).1 (f4.ok.2.2.1 i j hi hj).2.1;have hxl:(dN z len e).length=len:=by simp[dN]
   have other:(∃ys,rowAt (take .mv (ax s x) s).2 (ax (take .mv (ax s x) s).2 y)=some (z,ys)/\((dN z len e).length+ys.length)*bytes<=140737488355328/\scalars ys/\K (put d (.row .own z (dN z len e++ys)) (take .mv (ax s x) s).2))->Good P c o a w K:=by
    rintro ⟨ys,k1,k2,k3,k4⟩;rw[<-q1] at k1;obtain⟨A2,m,cap2,e2,rfl,hv⟩:=L3 h1.inv q3 k1;have oG:(dN z m e2).length=m:=by simp[dN]
    refine I6 h (bM.one f4) ho hu wR hi hz hsz hb hb0 h0 hvs hd hn (fH.2 rfl) KO (by rw[<-q2];exact hv.val) (λi j hi hj=>hv.cell i j hi hj) (λi j hi hj=>?_) (rC λx hx=>?_) (by rw[hxl,oG] at k2;exact k2) hk1 k4;·obtain⟨s1,s2⟩:=Tx (Tw k3 hi hj);exact⟨s1,(hv.kid i j hi hj).2.2,λb k hf=>(s2 b k hf).elim⟩
    ·obtain⟨i,j,hi,hj,rfl⟩:=nC hx;exact(Tx (Tw k3 hi hj)).2
   cases tk with
   |al=>exact other hK
   |aX=>exact other hK
   |mv=>
    simp only at hK;by_cases hcut:∃v r p lo hi,q=.cut v r p lo hi
    ·obtain⟨vv,r,pp,lo,hi',rfl⟩:=hcut;rw[<-q1] at hK;simp only[C.er,cD] at hK;split at hK
     ·rename_i hh;split at hh
      ·rename_i z2 xs hl;simp only[X.row.injEq,tD] at hh;obtain⟨rfl,rfl⟩:=hh;obtain⟨rfl,k2,k4⟩:=hK;obtain⟨A2,cap2,e3,G3,c1,c2,c3,c4,c5⟩:=ag5 h1.inv q3.rf hl;rw[c2] at k2 k4;have oG:(dN z2 (hi' - lo) e3).length=hi' - lo:=by simp[dN]
       simp only[hl] at k4;refine I6 h (bM.cons f4 c5) ho hu wR hi hz hsz hb hb0 h0 hvs hd hn (bE ..) KO (A2:=A2) (m:=hi' - lo) (cap2:=cap2) (e2:=e3) (by rw[<-q2];exact c1) c3 (λi j hi hj=>?_) c5.apart (by rw[hxl,oG] at k2;exact k2) hk1 k4;have hm:e3 i j∈(cX (hi' - lo) z2 e3).flatten:=Iw.2 ⟨_,aT.2 ⟨i,by simpa using hi,rfl⟩,aT.2 ⟨j,by simpa using hj,rfl⟩⟩;refine⟨c4 i j hi hj,(c5.all _ hm).1,λb k hf=>⟨λhf'=>?_,_,cE _ hm,hf⟩⟩;obtain⟨t,ht⟩:=(c5.all _ hm).2.2.2 b k hf;exact f4.sep t b k hf' ht
      ·cases hh
     ·exact hK.elim
    have hte:cD q.er (take .mv (ax s x) s).2=take .mv q.er (take .mv (ax s x) s).2:=by
     cases q with
     |cut v r p lo hi=>exact(hcut ⟨v,r,p,lo,hi,rfl⟩).elim
     |_=>rfl
    rw[<-q1,hte,q1] at hK;obtain⟨y2,G2,g1,g2,g3,g4⟩:=qW .mv h1.inv q3;rw[q1] at g1 g4;rw[<-g1] at hK;cases Kg:y2.er with
    |row m2 z2 xs2=>
     rw[Kg] at hK;cases m2 with
     |own=>
      obtain⟨A2,m,cap2,e2,rfl,rfl⟩:=Al Kg;obtain⟨rfl,k2,k4⟩:=hK;have oG:(dN z2 m e2).length=m:=by simp[dN]
      obtain⟨r1,r2,r3,r4,r5⟩:=g4.ok;refine I6 h (bM.cons f4 (bM.one g4)) ho hu wR hi hz hsz hb hb0 h0 hvs hd hn (bE ..) KO (A2:=A2) (m:=m) (cap2:=cap2) (e2:=e2) (by rw[<-q2,<-g2];rfl) (λi j hi hj=>?_) (λi j hi hj=>?_) (Lh g4.ok) (by rw[hxl,oG] at k2;exact k2) hk1 k4;·obtain⟨g,o2,a1,a2,_⟩:=r2 i j hi hj;exact⟨g,o2,a1,a2⟩
      ·obtain⟨a1,a2,a3,a4⟩:=r3 i j hi hj;refine⟨LN a1 a2,a4,λb k hf=>?_⟩;have hin:(C.row .own z2 A2 m cap2 e2).fp b k:=C.kn a1 a3 hi hj hf;refine⟨λhf'=>?_,_,cE _ (fH.2 rfl),hin⟩;obtain⟨t,ht⟩:=g4.dom b k hin;exact f4.sep t b k hf' ht
     |_=>exact hK.elim
    |_=>rw[Kg] at hK;exact hK.elim
  |_=>exact hK.elim
 |_=>rw[hE] at hK;exact hK.elim
end
end M
namespace M
open Go Go.RowKit
variable [Bs]
namespace X
def nF(m:Md){α:Type}(f:α->X):∀l:List α,ey m (l.map f)=l.map λa=>(f a).md m
 |[]=>rfl
 |a::l=>by simp only[bg,ey,nF m f l]
def F7(m:Md){α β:Type}(g:α->List β)(f:α->β->X):∀l:List α,cv m (l.map λa=>(g a).map (f a))=l.map λa=>(g a).map λb=>(f a b).md m
 |[]=>rfl
 |a::l=>by simp only[bg,cv,nF,F7 m g f l]
end X
namespace C
def dU:C->C
 |.row _ sz A len cap e=>.row .af sz A len cap λi j=>(e i j).dU
 |.ptr _ g o n c=>.ptr .af g o n λj=>(c j).dU
 |.agg n c=>.agg n λj=>(c j).dU
 |.aj n c=>.aj n λj=>(c j).dU
 |.fn f n c=>.fn f n λj=>(c j).dU
 |.ref v _ _=>.dead v
 |.aB v _ _ _ _=>.dead v
 |.cut v _ _ _ _=>.dead v
 |.dead v=>.dead v
 |.int k n=>.int k n
 |.bool b=>.bool b
 |.str s=>.str s
def sE:∀c:C,c.dU.er=c.er.md .af
 |.row m sz A len cap e=>by simp only[dU,er,X.md];rw[X.F7 .af (λ_=>List.range sz) (λi j=>(e i j).er)];congr 1;exact cz λi _=>cz λj _=>sE (e i j)
 |.ptr m g o n c=>by simp only[dU,er,X.md,X.nF];congr 1;exact cz λj _=>sE (c j)
 |.agg n c=>by simp only[dU,er,X.md,X.nF];congr 1;exact cz λj _=>sE (c j)
 |.aj n c=>by simp only[dU,er,X.md,X.nF];congr 1;exact cz λj _=>sE (c j)
 |.fn f n c=>by simp only[dU,er,X.md,X.nF];congr 1;exact cz λj _=>sE (c j)
 |.ref _ _ _=>by simp only[dU,er,X.md]
 |.aB _ _ _ _ _=>by simp only[dU,er,X.md]
 |.cut _ _ _ _ _=>by simp only[dU,er,X.md]
 |.dead _=>by simp only[dU,er,X.md]
 |.int _ _=>by simp only[dU,er,X.md]
 |.bool _=>by simp only[dU,er,X.md]
 |.str _=>by simp only[dU,er,X.md]
def uF:∀c:C,c.dU.val=c.val
 |.row m sz A len cap e=>rfl
 |.ptr m g o n c=>rfl
 |.agg n c=>by simp only[dU,val];congr 2;exact cz λj _=>uF (c j)
 |.aj n c=>by simp only[dU,val];congr 2;exact cz λj _=>uF (c j)
 |.fn f n c=>by simp only[dU,val];congr 2;exact cz λj _=>uF (c j)
 |.ref _ _ _=>rfl
 |.aB _ _ _ _ _=>rfl
 |.cut _ _ _ _ _=>rfl
 |.dead _=>rfl
 |.int _ _=>rfl
 |.bool _=>rfl
 |.str _=>rfl
def BM:∀c:C,c.dU.bare
 |.row m sz A len cap e=>trivial
 |.ptr m g o n c=>λj _=>BM (c j)
 |.agg n c=>λj _=>BM (c j)
 |.aj n c=>λj _=>BM (c j)
 |.fn f n c=>λj _=>BM (c j)
 |.ref _ _ _=>trivial
 |.aB _ _ _ _ _=>trivial
 |.cut _ _ _ _ _=>trivial
 |.dead _=>trivial
 |.int _ _=>trivial
 |.bool _=>trivial
 |.str _=>trivial
def qA:∀(c:C) (b k:Nat),¬c.dU.fp b k
 |.row m sz A len cap e,b,k=>λh=>by cases h.1
 |.ptr m g o n c,b,k=>λh=>by cases h.1
 |.agg n c,b,k=>λ⟨j,_,hf⟩=>qA (c j) b k hf
 |.aj n c,b,k=>λ⟨j,_,hf⟩=>qA (c j) b k hf
 |.fn f n c,b,k=>λh=>h
 |.ref _ _ _,b,k=>λh=>h
 |.aB _ _ _ _ _,b,k=>λh=>h
 |.cut _ _ _ _ _,b,k=>λh=>h
 |.dead _,b,k=>λh=>h
 |.int _ _,b,k=>λh=>h
 |.bool _,b,k=>λh=>h
 |.str _,b,k=>λh=>h
def F8{c:C}(h:c.cell):c.dU.cell:=by cases c<;>first|exact h|exact h.elim|trivial
def Sr{c:C}(h:c.fV):c.dU.fV:=by cases c<;>first|exact h|exact h.elim|trivial
def aef{c:C}(h:c.cT):c.dU.cT:=by cases c<;>first|exact h|exact h.elim|trivial
def Lv(c:C):c.dU.fits .af:=by cases c<;>first|trivial|exact .inr (.inl rfl)
variable {w:World}{zl zb bG:Nat->Nat->Prop}
def xo(hb:∀b k,zb b k->bG b k):∀c:C,(∀b k,c.fp b k->bG b k)->c.ok w (Zf zl zb)->c.dU.ok w (Zf zl bG)
 |.row m sz A len cap e,hf,h=>by
  obtain⟨h1,h2,h3,h4,h5⟩:=h;refine⟨h1,λi j hi hj=>?_,λi j hi hj=>?_,λhm=>by (cases hm),λi j hi hj b k hh=>(qA _ b k hh).elim⟩
  ·obtain⟨g,o,hA,hc,hz⟩:=h2 i j hi hj;refine⟨g,o,hA,by rw[uF];exact hc,λ_=>?_⟩;cases m with
   |own=>exact .inr (hf _ _ ⟨rfl,.inl ⟨o,hA⟩⟩)
   |sl=>exact .inl (hz (by simp))
   |af=>exact(hz (by simp)).imp id (hb _ _)
  ·obtain⟨a1,a2,a3,a4⟩:=h3 i j hi hj;exact⟨F8 a1,aef a2,Lv _,xo hb (e i j) (λb k hk=>hf b k (kn a1 a3 hi hj hk)) a4⟩
 |.ptr m g o n c,hf,h=>by
  obtain⟨h1,h2,h3,h4⟩:=h;refine⟨λj hj=>?_,h2,λj hj=>?_,λj hj b k hh=>(qA _ b k hh).elim⟩
  ·obtain⟨a1,a2,a3⟩:=h1 j hj;refine⟨by rw[uF];exact a1,λ_=>?_,λhm=>by (cases hm)⟩;cases m with
   |own=>exact .inr (hf _ _ ⟨rfl,.inl ⟨rfl,by omega,by omega⟩⟩)
   |sl=>exact .inl (a2 (by simp))
   |af=>exact(a2 (by simp)).imp id (hb _ _)
  ·obtain⟨a1,a2,a3⟩:=h3 j hj;exact⟨F8 a1,Lv _,xo hb (c j) (λb k hk=>hf b k (kR a1 a2 hj hk)) a3⟩
 |.agg n c,hf,h=>⟨λj hj=>⟨F8 (h.1 j hj).1,xo hb (c j) (λb k hk=>hf b k ⟨j,hj,hk⟩) (h.1 j hj).2⟩,λj hj b k hh=>(qA _ b k hh).elim⟩
 |.aj n c,hf,h=>⟨λj hj=>⟨Sr (h.1 j hj).1,xo hb (c j) (λb k hk=>hf b k ⟨j,hj,hk⟩) (h.1 j hj).2⟩,λj hj b k hh=>(qA _ b k hh).elim⟩
 |.fn f n c,hf,h=>λj hj=>⟨xo hb (c j) (λb k hk=>((h j hj).2 b k hk).elim) (h j hj).1,λb k hh=>qA _ b k hh⟩
 |.ref _ _ _,_,_=>trivial
 |.aB _ _ _ _ _,_,_=>trivial
 |.cut _ _ _ _ _,_,_=>trivial
 |.dead _,_,_=>trivial
 |.int _ _,_,_=>trivial
 |.bool _,_,_=>trivial
 |.str _,_,h=>h
end C
structure ga (w:World) (zl zb:Nat->Nat->Prop) (x:C):Prop where
 ok:x.ok w (Zf zl zb)
 bare:x.bare
 cZ:∀b k,¬x.fp b k
section
variable {w:World}{zl zb bG:Nat->Nat->Prop}{G:Nat->C}{s:ah}
def Ln(hb:∀b k,zb b k->bG b k){y:C}(hy:y.ok w (Zf zl zb))(hf:∀b k,y.fp b k->bG b k):ga w zl bG y.dU:=⟨C.xo hb y hf hy,C.BM y,C.qA y⟩
def BC(v:Value):ga w zl bG (.dead v):=⟨trivial,trivial,λ_ _ h=>h⟩
def Gm(h:Inv w zl zb G s)(hb:∀b k,zb b k->bG b k)(hG:∀t b k,(G t).fp b k->bG b k){y:C}(hy:eM w zl zb G y):∃x:C,x.er=lU s y.er/\x.val=y.val/\ga w zl bG x/\(y.cell->x.cell)/\(y.fV->x.fV)/\x.fits .af:=by
 have jv:lU s y.er=y.er.md .af->∃x:C,x.er=lU s y.er/\x.val=y.val/\ga w zl bG x/\(y.cell->x.cell)/\(y.fV->x.fV)/\x.fits .af:=λe=>
  ⟨y.dU,by rw[C.sE,e],C.uF y,Ln hb hy.ok λb k hf=>(hy.cZ b k hf).elim,C.F8,C.Sr,C.Lv _⟩
 cases y with
 |ref v r p=>
  obtain⟨y',z',hs,hF,hv,m,z1,A,len,cap,e,rfl⟩:=hy.rf;cases hF with
  |row m m' sz' A len cap e e'=>refine⟨(C.row m' z1 A len cap e').dU,?_,by rw[C.uF];exact hv,Ln hb (C.iu p hs (h.ok r)) λb k hf=>hG r b k (C.gP p hs (h.ok r) hf),λ_=>trivial,λ_=>trivial,.inr (.inl rfl)⟩;rw[C.sE];simp only[C.er,lU,look];rw[<-h.er,C.gO,hs];rfl
 |cut v r p lo hi=>
  obtain⟨m,sz,A,len,cap,e,A',cap',hs,hv,hlo,hhi,hcap,jj,-,-⟩:=hy.rf;have hok:=C.iu p hs (h.ok r);obtain⟨h1,h2,h3,h4,h5⟩:=(Ln hb hok λb k hf=>hG r b k (C.gP p hs (h.ok r) hf)).ok;refine⟨.row .af sz A' (hi - lo) cap' λi j=>(e (i+lo) j).dU,?_,hv.symm,⟨⟨hcap,λi j hi' hj=>?_,λi j hi' hj=>h3 (i+lo) j (by omega) hj,λhm=>by (cases hm),λi j hi' hj b k hh=>(C.qA _ b k hh).elim⟩,trivial,λb k hh=>by cases hh.1⟩,λ_=>trivial,λ_=>trivial,.inr (.inl rfl)⟩;·simp only[C.er,lU,look];rw[<-h.er,C.gO,hs];simp only[cx,C.er,X.md];rw[<-pz,<-mU,vG,n7 hhi,oQ,cP];show _=X.row .af sz (X.cv .af ((List.range (hi - lo)).map λi=>(List.range sz).map λj=>(e (i+lo) j).er));rw[X.F7 .af (λ_=>List.range sz) (λi j=>(e (i+lo) j).er) (List.range (hi - lo))];congr 1;exact cz λi _=>cz λj _=>C.sE _
  ·obtain⟨g,o,q1,q2,q3⟩:=h2 (i+lo) j (by omega) hj;refine⟨g,o+lo*sz,by rw[jj (by omega),q1,cx,pQ],?_,λhm=>?_⟩;·rw[show o+lo*sz+i*sz+j=o+(i+lo)*sz+j by rw[fI];omega];exact q2
   ·rw[show o+lo*sz+i*sz+j=o+(i+lo)*sz+j by rw[fI];omega];exact q3 hm
 |_=>exact jv rfl
def adR(h:Inv w zl zb G s){y:C}(hy:eM w zl zb G y){cs:List X}(hc:gE s y.er=some cs):∃g k,y.val=.pointer (some ⟨g,k,none⟩)/\∀j,j<cs.length->zl g (k+j)\/zb g (k+j)\/∃t,(G t).fp g (k+j):=by
 have zs:∀{m:Md} {b k:Nat},m≠.own->Zf zl zb m b k->zl b k\/zb b k\/∃t,(G t).fp b k:=λ{m b k} hm hz=>by
  cases m with
  |own=>exact(hm rfl).elim
  |sl=>exact .inl hz
  |af=>exact hz.imp id .inl
 cases y with
 |ptr m g o n f=>
  simp only[C.er,gE] at hc;injection hc with hc
  refine⟨g,o,rfl,λj hj=>?_⟩;have hj:j<n:=by rw[<-hc] at hj;simpa using hj
  obtain⟨h1,h2,h3,h4⟩:=hy.ok;by_cases hm:m=.own;·exact(hy.cZ g (o+j) ⟨hm,.inl ⟨rfl,by omega,by omega⟩⟩).elim
  ·exact zs hm ((h1 j hj).2.1 hm)
 |aB v r p i k0=>
  obtain⟨z,hz,hp⟩:=hy.rf;have sw:=C.iu p hz (h.ok r);simp only[C.er,gE,look] at hc;rw[<-h.er,C.gO,hz] at hc;simp only[cx] at hc;rcases hp with ⟨m,sz,g,o,len,cap,e,rfl,rfl⟩|⟨m,g,o,n,f,rfl,rfl,rfl⟩
  ·simp only[C.er,C.dm] at hc;by_cases hi:i<len
   ·rw[aA hi] at hc;simp only[cx,dL] at hc;refine⟨g,o+i*sz+k0,rfl,λj hj=>?_⟩;have hj:k0+j<sz:=by rw[<-hc] at hj;rw[<-mU,oQ,C.vQ r p i ((List.range (sz - k0)).map (· +k0)) k0 (λj=>e i j) (by simp)] at hj;simp at hj;omega
    by_cases hm:m=.own;·subst hm;exact .inr (.inr ⟨r,C.gP p hz (h.ok r) ⟨rfl,.inl ⟨o,rfl⟩⟩⟩)
    ·obtain⟨g',o',hA,hcell,uu⟩:=sw.2.1 i (k0+j) hi hj;injection hA with hA
     injection hA with e1 e2
     injection e2 with e2
     subst e1;subst e2;rw[tv];exact zs hm (uu hm)
   ·rw[aC hi] at hc;cases hc
  ·simp only[C.er,dL] at hc;refine⟨g,o+k0,rfl,λj hj=>?_⟩;have hj:k0+j<n:=by rw[<-hc] at hj;rw[<-mU,oQ,C.vQ r p 0 ((List.range (n - k0)).map (· +k0)) k0 f (by simp)] at hj;simp at hj;omega
   by_cases hm:m=.own;·subst hm;exact .inr (.inr ⟨r,C.gP p hz (h.ok r) ⟨rfl,.inl ⟨rfl,by omega,by omega⟩⟩⟩)
   ·have:=(sw.1 (k0+j) hj).2.1 hm;rw[tv];exact zs hm this
 |_=>simp[C.er,gE] at hc
def LX(h:Inv w zl zb G s)(hb:∀b k,zb b k->bG b k)(hG:∀t b k,(G t).fp b k->bG b k):∀l:List C,(∀x∈l,eM w zl zb G x/\x.cell)->∃l':List C,l'.map C.er=oS s (l.map C.er)/\l'.map C.val=l.map C.val/\∀x∈l',ga w zl bG x/\x.cell/\x.fits .af
 |[],hl=>⟨[],rfl,rfl,λ_ hx=>(by cases hx)⟩
 |y::l,hl=>by
  obtain⟨x,x1,x2,x3,x4,_,x6⟩:=Gm h hb hG (hl y (bE ..)).1;obtain⟨l',l1,l2,l3⟩:=LX h hb hG l λx hx=>hl x (cE _ hx);refine⟨x::l',by simp[oS,x1,l1],by simp[x2,l2],λz hz=>?_⟩;rcases ct.1 hz with rfl|hz;·exact⟨x3,x4 (hl y (bE ..)).2,x6⟩
  ·exact l3 z hz
def Td(F:List X->List X)(hF:∀l:List C,(∀x∈l,eM w zl zb G x/\x.cell)->∃l':List C,l'.map C.er=F (l.map C.er)/\l'.map C.val=l.map C.val/\∀x∈l',ga w zl bG x/\x.cell/\x.fits .af)(h:Inv w zl zb G s)(hb:∀b k,zb b k->bG b k)(hG:∀t b k,(G t).fp b k->bG b k){y:C}(hy:eM w zl zb G y){cs:List X}(hc:gE s y.er=some cs)(hne:cs≠[])(n:Nat)(hn:0<n):
  ∃x:C,x.er=.ptr .af (F (cs.take n))/\x.val=y.val/\ga w zl bG x:=by
 obtain⟨l,l1,⟨g,k,hv,hcell⟩,l3⟩:=R4 h hy hc;obtain⟨g',k',eY,hmem⟩:=adR h hy hc;rw[hv] at eY;injection eY with eY;injection eY with eY;injection eY with e1 e2 e3
 subst e1;subst e2;have ug:l.length=cs.length:=by rw[<-l1];simp
 obtain⟨l',m1,m2,m3⟩:=hF (l.take n) λx hx=>l3 x (ND hx);have hl':l'.length=min n l.length:=by have:=dA List.length m2;simpa using this
 have hpos:0<l.length:=by rw[ug];exact List.length_pos_iff.2 hne
 refine⟨.ptr .af g k l'.length λj=>l'.getD j (.dead undef),?_,hv.symm,⟨⟨λj hj=>⟨?_,λ_=>?_,λhm=>by (cases hm)⟩,?_,λj hj=>⟨(m3 _ (cW hj _)).2.1,(m3 _ (cW hj _)).2.2,(m3 _ (cW hj _)).1.ok⟩,λj hj b k hh=>((m3 _ (cW hj _)).1.cZ b k hh).elim⟩,λj hj=>(m3 _ (cW hj _)).1.bare,λb k hh=>by cases hh.1⟩⟩;·simp only[C.er,mE];rw[m1,pz,l1]
 ·have hj':j<l.length:=by omega
  have uh:(l'.getD j (.dead undef)).val=(l[j]).val:=by have:=dA (λt:List Value=>t[j]?) m2;simp only[de,cj hj,cx] at this;rw[N4 (by omega),cj hj'] at this;rw[p6 (cj hj)];simpa using this
  rw[uh];exact hcell j hj'
 ·rcases hmem j (by omega) with hz|hz|⟨t,ht⟩;·exact .inl hz
  ·exact .inr (hb _ _ hz)
  ·exact .inr (hG t _ _ ht)
 ·have:=hcell 0 hpos;rcases gB g w.heap.size with hg|hg;·exact hg
  ·simp[World.cell?,kC hg] at this
def Te(h:Inv w zl zb G s)(hb:∀b k,zb b k->bG b k)(hG:∀t b k,(G t).fp b k->bG b k){y:C}(hy:eM w zl zb G y){cs:List X}(hc:gE s y.er=some cs)(hne:cs≠[])(n:Nat)(hn:0<n):
  ∃x:C,x.er=.ptr .af (oS s (cs.take n))/\x.val=y.val/\ga w zl bG x:=Td (oS s) (LX h hb hG) h hb hG hy hc hne n hn
def af7(h:Inv w zl zb G s)(hb:∀b k,zb b k->bG b k)(hG:∀t b k,(G t).fp b k->bG b k){y:C}(hy:eM w zl zb G y)(mz:y.cell):∃x:C,x.er=iT s y.er/\x.val=y.val/\ga w zl bG x/\x.cell/\x.fits .af:=by
 have jv:iT s y.er=lU s y.er->∃x:C,x.er=iT s y.er/\x.val=y.val/\ga w zl bG x/\x.cell/\x.fits .af:=λe=>by obtain⟨x,x1,x2,x3,x4,_,x6⟩:=Gm h hb hG hy;exact⟨x,by rw[e,x1],x2,x3,x4 mz,x6⟩
 cases y with
 |aB v r p i k=>
  have dead:iT s (C.aB v r p i k).er=.dead->∃x:C,x.er=iT s (C.aB v r p i k).er/\x.val=(C.aB v r p i k).val/\ga w zl bG x/\x.cell/\x.fits .af:=λe=>⟨.dead v,e.symm,rfl,BC v,mz,trivial⟩;cases hc:gE s (.aB r p i k) with
  |none=>exact dead (by simp only[C.er,iT,hc])
  |some cs=>
   cases cs with
   |nil=>exact dead (by simp only[C.er,iT,hc])
   |cons a cs=>
    obtain⟨x,x1,x2,x3⟩:=Te h hb hG hy hc (by simp) (a::cs).length (by simp);rw[vF] at x1;have he:iT s (C.aB v r p i k).er=.ptr .af (oS s (a::cs)):=by simp only[C.er,iT,hc]
    rw[he];refine⟨x,x1,x2,x3,?_,?_⟩;·cases x<;>first|trivial|(simp[C.er] at x1)
    ·cases x with
     |ptr m g o n f=>simp only[C.er,X.ptr.injEq] at x1;exact .inr (.inl x1.1)
     |_=>simp[C.er] at x1
 |_=>exact jv rfl
def Tc(h:Inv w zl zb G s)(hb:∀b k,zb b k->bG b k)(hG:∀t b k,(G t).fp b k->bG b k):∀l:List C,(∀x∈l,eM w zl zb G x/\x.cell)->∃l':List C,l'.map C.er=lV s (l.map C.er)/\l'.map C.val=l.map C.val/\∀x∈l',ga w zl bG x/\x.cell/\x.fits .af
 |[],hl=>⟨[],rfl,rfl,λ_ hx=>(by cases hx)⟩
 |y::l,hl=>by
  obtain⟨x,x1,x2,x3⟩:=af7 h hb hG (hl y (bE ..)).1 (hl y (bE ..)).2;obtain⟨l',l1,l2,l3⟩:=Tc h hb hG l λx hx=>hl x (cE _ hx);refine⟨x::l',by simp[lV,x1,l1],by simp[x2,l2],λz hz=>?_⟩;rcases ct.1 hz with rfl|hz;·exact x3
  ·exact l3 z hz
end
end M
namespace M
open Go Go.RowKit
variable [Bs]
section
variable {w:World}{zl zb bG:Nat->Nat->Prop}{G:Nat->C}{s:ah}
def LW(h:Inv w zl zb G s)(hb:∀b k,zb b k->bG b k)(hG:∀t b k,(G t).fp b k->bG b k):∀l:List C,(∀x∈l,eM w zl zb G x)->∃l':List C,l'.map C.er=gN s (l.map C.er)/\l'.map C.val=l.map C.val/\∀x∈l',ga w zl bG x
 |[],hl=>⟨[],rfl,rfl,λ_ hx=>(by cases hx)⟩
 |y::l,hl=>by
  obtain⟨l',l1,l2,l3⟩:=LW h hb hG l λx hx=>hl x (cE _ hx);have hy:=hl y (bE ..)
  have done:∀x:C,x.val=y.val->ga w zl bG x->(gN s ((y::l).map C.er))=x.er::gN s (l.map C.er)->∃l':List C,l'.map C.er=gN s ((y::l).map C.er)/\l'.map C.val=(y::l).map C.val/\∀x∈l',ga w zl bG x:=λx x1 x2 x3=>
   ⟨x::l',by rw[x3,bg,l1],by simp[x1,l2],λz hz=>(ct.1 hz).elim (λe=>e▸x2) (l3 z)⟩
  have jv:(gN s ((y::l).map C.er))=lU s y.er::gN s (l.map C.er)->∃l':List C,l'.map C.er=gN s ((y::l).map C.er)/\l'.map C.val=(y::l).map C.val/\∀x∈l',ga w zl bG x:=λe=>by obtain⟨x,x1,x2,x3,_⟩:=Gm h hb hG hy;exact done x x2 x3 (by rw[e,x1])
  cases y with
  |aB v r p i k=>
   cases hc:gE s (.aB r p i k) with
   |none=>exact done (.dead v) rfl (BC v) (by simp only[bg,C.er,gN,hc])
   |some cs=>
    cases cs with
    |nil=>exact done (.dead v) rfl (BC v) (by simp only[bg,C.er,gN,hc])
    |cons a cs=>obtain⟨x,x1,x2,x3⟩:=Td (lV s) (Tc h hb hG) h hb hG hy hc (by simp) (a::cs).length (by simp);refine done x x2 x3 ?_;rw[x1,vF];simp only[bg,C.er,gN,hc]
  |_=>exact jv rfl
def af9(h:Inv w zl zb G s)(hb:∀b k,zb b k->bG b k)(hG:∀t b k,(G t).fp b k->bG b k){y:C}(hy:eM w zl zb G y):∃x:C,x.er=res s y.er/\x.val=y.val/\ga w zl bG x:=by
 have jv:res s y.er=lU s y.er->∃x:C,x.er=res s y.er/\x.val=y.val/\ga w zl bG x:=λe=>by obtain⟨x,x1,x2,x3,_⟩:=Gm h hb hG hy;exact⟨x,by rw[x1,e],x2,x3⟩
 cases y with
 |agg n f=>
  obtain⟨l',l1,l2,l3⟩:=LX h hb hG ((List.range n).map f) λx hx=>by
   obtain⟨j,hj,rfl⟩:=aT.1 hx;have hj':j<n:=by simpa using hj
   exact⟨Oo hy hj',(hy.ok.1 j hj').1⟩
  refine⟨gT l',?_,?_,⟨⟨λj hj=>⟨(l3 _ (cW hj _)).2.1,(l3 _ (cW hj _)).1.ok⟩,λj hj b k hf=>((l3 _ (cW hj _)).1.cZ b k hf).elim⟩,λj hj=>(l3 _ (cW hj _)).1.bare,λb k hf=>?_⟩⟩;·rw[vP,l1,cP];rfl
  ·rw[zE,l2,cP];rfl
  ·obtain⟨x,hx,hf⟩:=(rB _ _ _).1 hf;exact(l3 x hx).1.cZ b k hf
 |fn g n f=>
  obtain⟨l',l1,l2,l3⟩:=LW h hb hG ((List.range n).map f) λx hx=>by
   obtain⟨j,hj,rfl⟩:=aT.1 hx;have hj':j<n:=by simpa using hj
   exact⟨(hy.ok j hj').1,hy.rf j hj',(hy.ok j hj').2⟩
  refine⟨.fn g l'.length λj=>l'.getD j (.dead undef),?_,?_,⟨λj hj=>⟨(l3 _ (cW hj _)).ok,(l3 _ (cW hj _)).cZ⟩,λj hj=>(l3 _ (cW hj _)).bare,λb k hf=>hf⟩⟩;·show X.fn _ _=_;rw[mE l' _ C.er,l1,cP];rfl
  ·show Value.func _ _ _=_;rw[mE l' _ C.val,l2,cP];rfl
 |_=>exact jv rfl
def af8(h:Inv w zl zb G s)(hb:∀b k,zb b k->bG b k)(hG:∀t b k,(G t).fp b k->bG b k){y:C}(hy:eM w zl zb G y)(n:Nat)(hn:0<n):∃x:C,x.er=xI n s y.er/\x.val=y.val/\ga w zl bG x:=by
 cases hc:gE s y.er with
 |none=>exact⟨.dead y.val,by simp only[xI,hc,C.er],rfl,BC _⟩
 |some cs=>
  cases cs with
  |nil=>exact⟨.dead y.val,by simp only[xI,hc,C.er],rfl,BC _⟩
  |cons a cs=>obtain⟨x,x1,x2,x3⟩:=Te h hb hG hy hc (by simp) n hn;exact⟨x,by rw[x1];simp only[xI,hc],x2,x3⟩
end
section
variable {P:Program}{c:Ctx}{G:Nat->C}{zl:Nat->Nat->Prop}{s:ah}{a:Act}{w:World}{o:Oper}{K:ah->Prop}
def gW:List Operand->List (AV×PM)->Bool
 |[],[]=>true
 |x'::l',(x,m)::l=>aK x' x && (match m with|.j6 n=>decide (0<n)|.mut _=>(dY l).isNone|_=>true) && gW l' l
 |_,_=>false
def MV(a:Act):List Operand->List (AV×PM)->List C->Prop
 |[],[],[]=>True
 |x'::l',(_,.mv)::l,m::ms=>m.val=a.eval x'/\MV a l' l ms
 |_::l',(_,.af)::l,_::ms=>MV a l' l ms
 |_::l',(_,.j6 _)::l,_::ms=>MV a l' l ms
 |_::l',(_,.mut _)::l,_::ms=>MV a l' l ms
 |_,_,_=>False
def Ga:∀{l':List Operand} {l:List (AV×PM)},gW l' l=true->∀{G:Nat->C} {s:ah},St c G zl s a w->
  ∃ms G',ms.map C.er=(bZ l s).1/\MV a l' l ms/\bM w zl c.zb G ms G' (bZ l s).2
 |[],[],_,G,s,h=>⟨[],G,rfl,trivial,bM.nil h.inv⟩
 |x'::l',(x,pm)::l,hc,G,s,h=>by
  simp only[gW,av] at hc;have other:(bZ ((x,pm)::l) s=(.dead::(bZ l s).1,(bZ l s).2))->(∀m ms,MV a l' l ms->MV a (x'::l') ((x,pm)::l) (m::ms))->∃ms G',ms.map C.er=(bZ ((x,pm)::l) s).1/\MV a (x'::l') ((x,pm)::l) ms/\bM w zl c.zb G ms G' (bZ ((x,pm)::l) s).2:=λe hm=>by obtain⟨ms,G',g1,g2,g3⟩:=Ga hc.2 h;rw[e];exact⟨.dead undef::ms,G',by simp[C.er,g1],hm _ _ g2,bM.cons (fL.self h.inv trivial trivial λ_ _ h=>h) g3⟩
  cases pm with
  |mv=>obtain⟨p,p1,p2,p3⟩:=cA h hc.1.1;obtain⟨y,G1,f1,f2,f3,f4⟩:=qW .mv h.inv p3;obtain⟨ms,G',g1,g2,g3⟩:=Ga hc.2 (h.yO f4);rw[p1] at f1 g1 g3 f4;exact⟨y::ms,G',by simp[bZ,f1,g1],⟨by rw[f2,p2],g2⟩,bM.cons f4 g3⟩
  |af=>exact other rfl λ_ _ h=>h
  |j6 n=>exact other rfl λ_ _ h=>h
  | «mut» n=>exact other rfl λ_ _ h=>h
 |[],_::_,hc,_,_,_=>by cases hc
 |_::_,[],hc,_,_,_=>by cases hc
def D0{G2:Nat->C}{s2:ah}{bG:Nat->Nat->Prop}(h:St c G2 zl s2 a w)(hb:∀b k,c.zb b k->bG b k)(hG:∀t b k,(G2 t).fp b k->bG b k){y:C}(hy:y.ok w (Zf zl bG))(Fj:y.bare):∀{l':List Operand} {l:List (AV×PM)},gW l' l=true->∀{ms:List C},MV a l' l ms->
  (∀x∈ms,x.ok w (Zf zl bG)/\x.bare/\∀b k,x.fp b k->¬y.fp b k)->(ms.Pairwise λa b=>∀x k,a.fp x k->¬b.fp x k)->(∀(i:Nat) (x:AV) (n:Nat) (x':Operand),l[i]?=some (x,PM.mut n)->l'[i]?=some x'->y.val=a.eval x')->
  ∃cs:List C,cs.map C.er=gD s2 y.er l (ms.map C.er)/\cs.map C.val=l'.map a.eval/\(∀x∈cs,x.ok w (Zf zl bG)/\x.bare/\∀b k,x.fp b k->(∃m∈ms,m.fp b k)\/((dY l).isSome=true/\y.fp b k))/\cs.Pairwise λa b=>∀x k,a.fp x k->¬b.fp x k
 |[],[],_,[],_,_,_,_=>⟨[],rfl,rfl,λ_ hx=>(by cases hx),List.Pairwise.nil⟩
 |x'::l',(x,pm)::l,hc,[],hm,_,_,_=>by cases pm<;>exact hm.elim
 |x'::l',(x,pm)::l,hc,m::ms,hm,KE,jq,oE=>by
  simp only[gW,av] at hc;have wP:=eZ.1 jq;have ih:=λ(hm:MV a l' l ms)=>D0 h hb hG hy Fj hc.2 hm (λx hx=>KE x (cE _ hx)) wP.2 (λi x n x' h1 h2=>oE (i+1) x n x' (by simpa using h1) (by simpa using h2))
  have R3:∀z:C,z.val=a.eval x'->ga w zl bG z->MV a l' l ms->gD s2 y.er ((x,pm)::l) ((m::ms).map C.er)=z.er::gD s2 y.er l (ms.map C.er)->((dY l).isSome=true->(dY ((x,pm)::l)).isSome=true)->∃cs:List C,cs.map C.er=gD s2 y.er ((x,pm)::l) ((m::ms).map C.er)/\cs.map C.val=(x'::l').map a.eval/\
    (∀z∈cs,z.ok w (Zf zl bG)/\z.bare/\∀b k,z.fp b k->(∃m'∈m::ms,m'.fp b k)\/((dY ((x,pm)::l)).isSome=true/\y.fp b k))/\cs.Pairwise λa b=>∀x k,a.fp x k->¬b.fp x k:=λz z1 z2 hm' he hmo=>by
   obtain⟨cs,c1,c2,c3,c4⟩:=ih hm';refine⟨z::cs,by rw[he,bg,c1],by simp[z1,c2],λu hu=>?_,eZ.2 ⟨λu _ b k hf=>(z2.cZ b k hf).elim,c4⟩⟩;rcases ct.1 hu with rfl|hu;·exact⟨z2.ok,z2.bare,λb k hf=>(z2.cZ b k hf).elim⟩
   ·obtain⟨u1,u2,u3⟩:=c3 u hu;exact⟨u1,u2,λb k hf=>(u3 b k hf).imp (λ⟨m',hm',hf⟩=>⟨m',cE _ hm',hf⟩) λhh=>⟨hmo hh.1,hh.2⟩⟩
  obtain⟨p,p1,p2,p3⟩:=cA h hc.1.1;cases pm with
  |af=>obtain⟨z,z1,z2,z3⟩:=af9 h.inv hb hG p3;rw[p1] at z1;exact R3 z (by rw[z2,p2]) z3 hm (by simp only[bg,gD,z1]) λhh=>hh
  |j6 n=>obtain⟨z,z1,z2,z3⟩:=af8 h.inv hb hG p3 n (by simpa using hc.1.2);rw[p1] at z1;exact R3 z (by rw[z2,p2]) z3 hm (by simp only[bg,gD,z1]) λhh=>hh
  |mv=>
   obtain⟨hv,hm⟩:=hm;obtain⟨cs,c1,c2,c3,c4⟩:=ih hm;obtain⟨m1,m2,m3⟩:=KE m (bE ..);refine⟨m::cs,by simp only[bg,gD,c1],by simp[hv,c2],λu hu=>?_,eZ.2 ⟨λu hu b k hf hf'=>?_,c4⟩⟩
   ·rcases ct.1 hu with rfl|hu;·exact⟨m1,m2,λb k hf=>.inl ⟨u,bE ..,hf⟩⟩
    ·obtain⟨u1,u2,u3⟩:=c3 u hu;exact⟨u1,u2,λb k hf=>(u3 b k hf).imp (λ⟨m',hm',hf⟩=>⟨m',cE _ hm',hf⟩) id⟩
   ·rcases(c3 u hu).2.2 b k hf' with ⟨m',hm',ic⟩|⟨_,ic⟩;·exact wP.1 m' hm' b k hf ic
    ·exact m3 b k hf ic
  | «mut» n=>
   obtain⟨cs,c1,c2,c3,c4⟩:=ih hm;have hno:dY l=none:=by simpa using hc.1.2
   have hv:=oE 0 x n x' rfl rfl;refine⟨y::cs,by simp only[bg,gD,c1],by simp[hv,c2],λu hu=>?_,eZ.2 ⟨λu hu b k hf hf'=>?_,c4⟩⟩
   ·rcases ct.1 hu with rfl|hu;·exact⟨hy,Fj,λb k hf=>.inr ⟨rfl,hf⟩⟩
    ·obtain⟨u1,u2,u3⟩:=c3 u hu;refine⟨u1,u2,λb k hf=>(u3 b k hf).imp (λ⟨m',hm',hf⟩=>⟨m',cE _ hm',hf⟩) λhh=>⟨rfl,hh.2⟩⟩
   ·rcases(c3 u hu).2.2 b k hf' with ⟨m',hm',ic⟩|⟨hh,_⟩;·exact(KE m' (cE _ hm')).2.2 b k ic hf
    ·rw[hno] at hh;cases hh
 |[],_::_,hc,_,_,_,_,_=>by cases hc
 |_::_,[],hc,_,_,_,_,_=>by cases hc
 |[],[],_,_::_,hm,_,_,_=>hm.elim
def Yd{G2:Nat->C}{s2:ah}{bG:Nat->Nat->Prop}(h:St c G2 zl s2 a w)(hb:∀b k,c.zb b k->bG b k)(hG:∀t b k,(G2 t).fp b k->bG b k){x:AV}{x':Operand}(hx:aK x' x=true){f:FuncId}{cs:List X}(he:ax s2 x=.fn f cs):
  ∃l:List C,l.map C.er=oo s2 (some x)/\a.eval x'=.func (.func f) #[] (l.map C.val).toArray/\∀x∈l,ga w zl bG x:=by
 obtain⟨p,p1,p2,p3⟩:=cA h hx;rw[he] at p1;cases p with
 |fn g n fc=>
  simp only[C.er,X.fn.injEq] at p1;obtain⟨rfl,p1⟩:=p1
  obtain⟨l',l1,l2,l3⟩:=LW h.inv hb hG ((List.range n).map fc) λx hx=>by
   obtain⟨j,hj,rfl⟩:=aT.1 hx;have hj':j<n:=by simpa using hj
   exact⟨(p3.ok j hj').1,p3.rf j hj',(p3.ok j hj').2⟩
  refine⟨l',?_,?_,l3⟩;·rw[l1,oo,he,<-p1,cP];rfl
  ·rw[<-p2,l2,cP];rfl
 |_=>simp[C.er] at p1
end
end M
namespace M
open Go Go.RowKit
variable [Bs]
def j7{l:List X}:X.clean.cL l=true↔∀x∈l,x.clean=true:=by
 induction l with
 |nil=>simp[X.clean.cL]
 |cons a l ih=>simp[X.clean.cL,ih]
def Pv{l:List (List X)}:X.clean.bz l=true↔∀x∈l,∀y∈x,y.clean=true:=by
 induction l with
 |nil=>simp[X.clean.bz]
 |cons a l ih=>simp[X.clean.bz,ih,j7]
namespace C
def ez:C->C
 |.row _ sz A len cap e=>.row .sl sz A len cap λi j=>(e i j).ez
 |.ptr _ g o n c=>.ptr .sl g o n λj=>(c j).ez
 |.agg n c=>.agg n λj=>(c j).ez
 |.aj n c=>.aj n λj=>(c j).ez
 |.fn f n c=>.fn f n λj=>(c j).ez
 |.ref v _ _=>.dead v
 |.aB v _ _ _ _=>.dead v
 |.cut v _ _ _ _=>.dead v
 |.dead v=>.dead v
 |.int k n=>.int k n
 |.bool b=>.bool b
 |.str s=>.str s
def xp:∀c:C,c.ez.er=c.er.md .sl
 |.row m sz A len cap e=>by simp only[ez,er,X.md];rw[X.F7 .sl (λ_=>List.range sz) (λi j=>(e i j).er)];congr 1;exact cz λi _=>cz λj _=>xp (e i j)
 |.ptr m g o n c=>by simp only[ez,er,X.md,X.nF];congr 1;exact cz λj _=>xp (c j)
 |.agg n c=>by simp only[ez,er,X.md,X.nF];congr 1;exact cz λj _=>xp (c j)
 |.aj n c=>by simp only[ez,er,X.md,X.nF];congr 1;exact cz λj _=>xp (c j)
 |.fn f n c=>by simp only[ez,er,X.md,X.nF];congr 1;exact cz λj _=>xp (c j)
 |.ref _ _ _=>by simp only[ez,er,X.md]
 |.aB _ _ _ _ _=>by simp only[ez,er,X.md]
 |.cut _ _ _ _ _=>by simp only[ez,er,X.md]
 |.dead _=>by simp only[ez,er,X.md]
 |.int _ _=>by simp only[ez,er,X.md]
 |.bool _=>by simp only[ez,er,X.md]
 |.str _=>by simp only[ez,er,X.md]
def xu:∀c:C,c.ez.val=c.val
 |.row m sz A len cap e=>rfl
 |.ptr m g o n c=>rfl
 |.agg n c=>by simp only[ez,val];congr 2;exact cz λj _=>xu (c j)
 |.aj n c=>by simp only[ez,val];congr 2;exact cz λj _=>xu (c j)
 |.fn f n c=>by simp only[ez,val];congr 2;exact cz λj _=>xu (c j)
 |.ref _ _ _=>rfl
 |.aB _ _ _ _ _=>rfl
 |.cut _ _ _ _ _=>rfl
 |.dead _=>rfl
 |.int _ _=>rfl
 |.bool _=>rfl
 |.str _=>rfl
def sF:∀(c:C) (b k:Nat),¬c.ez.fp b k
 |.row m sz A len cap e,b,k=>λh=>by cases h.1
 |.ptr m g o n c,b,k=>λh=>by cases h.1
 |.agg n c,b,k=>λ⟨j,_,hf⟩=>sF (c j) b k hf
 |.aj n c,b,k=>λ⟨j,_,hf⟩=>sF (c j) b k hf
 |.fn f n c,b,k=>λh=>h
 |.ref _ _ _,b,k=>λh=>h
 |.aB _ _ _ _ _,b,k=>λh=>h
 |.cut _ _ _ _ _,b,k=>λh=>h
 |.dead _,b,k=>λh=>h
 |.int _ _,b,k=>λh=>h
 |.bool _,b,k=>λh=>h
 |.str _,b,k=>λh=>h
def Lw{c:C}(h:c.cell):c.ez.cell:=by cases c<;>first|exact h|exact h.elim|trivial
def aeg{c:C}(h:c.fV):c.ez.fV:=by cases c<;>first|exact h|exact h.elim|trivial
def aei{c:C}(h:c.cT):c.ez.cT:=by cases c<;>first|exact h|exact h.elim|trivial
def Ss(c:C):c.ez.fits .sl:=by cases c<;>first|trivial|exact .inr (.inl rfl)
def aeh{c:C}(h:c.plain):c.ez.plain:=by cases c<;>first|exact h|exact h.elim|trivial
variable {w:World}{zl aD zb:Nat->Nat->Prop}
def xq(hz:∀b k,zl b k->aD b k):∀c:C,c.er.clean=true->(∀b k,c.fp b k->aD b k)->c.ok w (Zf zl zb)->c.ez.ok w (Zf aD zb)
 |.row m sz A len cap e,hcl,hf,h=>by
  obtain⟨h1,h2,h3,h4,h5⟩:=h;simp only[er,X.clean,av] at hcl;refine⟨h1,λi j hi hj=>?_,λi j hi hj=>?_,λhm=>by (cases hm),λi j hi hj b k hh=>(sF _ b k hh).elim⟩
  ·obtain⟨g,o,hA,hc,uu⟩:=h2 i j hi hj;refine⟨g,o,hA,by rw[xu];exact hc,λ_=>?_⟩;cases m with
   |own=>exact hf _ _ ⟨rfl,.inl ⟨o,hA⟩⟩
   |sl=>exact hz _ _ (uu (by simp))
   |af=>simp at hcl
  ·obtain⟨a1,a2,a3,a4⟩:=h3 i j hi hj;exact⟨Lw a1,aei a2,Ss _,xq hz (e i j) (Pv.1 hcl.2 _ (aT.2 ⟨i,by simpa using hi,rfl⟩) _ (aT.2 ⟨j,by simpa using hj,rfl⟩)) (λb k hk=>hf b k (kn a1 a3 hi hj hk)) a4⟩
 |.ptr m g o n c,hcl,hf,h=>by
  obtain⟨h1,h2,h3,h4⟩:=h;simp only[er,X.clean,av] at hcl;refine⟨λj hj=>?_,h2,λj hj=>?_,λj hj b k hh=>(sF _ b k hh).elim⟩
  ·obtain⟨a1,a2,a3⟩:=h1 j hj;refine⟨by rw[xu];exact a1,λ_=>?_,λhm=>by (cases hm)⟩;cases m with
   |own=>exact hf _ _ ⟨rfl,.inl ⟨rfl,by omega,by omega⟩⟩
   |sl=>exact hz _ _ (a2 (by simp))
   |af=>simp at hcl
  ·obtain⟨a1,a2,a3⟩:=h3 j hj;exact⟨Lw a1,Ss _,xq hz (c j) (j7.1 hcl.2 _ (aT.2 ⟨j,by simpa using hj,rfl⟩)) (λb k hk=>hf b k (kR a1 a2 hj hk)) a3⟩
 |.agg n c,hcl,hf,h=>by simp only[er,X.clean] at hcl;exact⟨λj hj=>⟨Lw (h.1 j hj).1,xq hz (c j) (j7.1 hcl _ (aT.2 ⟨j,by simpa using hj,rfl⟩)) (λb k hk=>hf b k ⟨j,hj,hk⟩) (h.1 j hj).2⟩,λj hj b k hh=>(sF _ b k hh).elim⟩
 |.aj n c,hcl,hf,h=>by simp only[er,X.clean] at hcl;exact⟨λj hj=>⟨aeg (h.1 j hj).1,xq hz (c j) (j7.1 hcl _ (aT.2 ⟨j,by simpa using hj,rfl⟩)) (λb k hk=>hf b k ⟨j,hj,hk⟩) (h.1 j hj).2⟩,λj hj b k hh=>(sF _ b k hh).elim⟩
 |.fn f n c,hcl,hf,h=>by simp only[er,X.clean] at hcl;exact λj hj=>⟨xq hz (c j) (j7.1 hcl _ (aT.2 ⟨j,by simpa using hj,rfl⟩)) (λb k hk=>((h j hj).2 b k hk).elim) (h j hj).1,λb k hh=>sF _ b k hh⟩
 |.ref _ _ _,_,_,_=>trivial
 |.aB _ _ _ _ _,_,_,_=>trivial
 |.cut _ _ _ _ _,_,_,_=>trivial
 |.dead _,_,_,_=>trivial
 |.int _ _,_,_,_=>trivial
 |.bool _,_,_,_=>trivial
 |.str _,_,_,h=>h
end C
variable {w:World}{zl zb:Nat->Nat->Prop}{G:Nat->C}{s:ah}
def Inv.more{aD:Nat->Nat->Prop}(h:Inv w zl zb G s)(h1:∀b k,zl b k->aD b k)(h2:∀b k,aD b k->(zl b k\/∀t,¬(G t).fp b k)/\b<w.heap.size):Inv w aD zb G s where
 er:=h.er
 ok:=λt=>C.gM (λm b k hz=>by
  cases m with
  |own=>exact hz
  |sl=>exact h1 b k hz
  |af=>exact hz.imp (h1 b k) id) _ (h.ok t)
 sep:=h.sep
 fz:=λt b k hf=>⟨λhz=>by
  rcases(h2 b k hz).1 with hh|hh;·exact(h.fz t b k hf).1 hh
  ·exact hh t hf,(h.fz t b k hf).2⟩
 rf:=h.rf
 cI:=λb k hz=>hz.elim (λhz=>(h2 b k hz).2) λhz=>h.cI b k (.inr hz)
section
variable {P:Program}{c:Ctx}{a:Act}{o:Oper}{K:ah->Prop}
def St.more{aD:Nat->Nat->Prop}(h:St c G zl s a w)(h1:∀b k,zl b k->aD b k)(h2:∀b k,aD b k->(zl b k\/∀t,¬(G t).fp b k)/\b<w.heap.size)(h3:∀b k,aD b k->zl b k\/c.F0 b k\/c.w0.heap.size<=b):St c G aD s a w where
 inv:=h.inv.more h1 h2
 val:=h.val
 size:=h.size
 small:=h.small
 defers:=h.defers
 tr:=⟨h.tr.ext,h.tr.dom,λb k hz=>h1 b k (h.tr.pM b k hz),λb k hz=>(h3 b k hz).elim (h.tr.zl b k) .inr,h.tr.gl,h.tr.Ay⟩
 args:=h.args
def S4{d:Nat}{v:Value}(hd:a.tmps.getD d undef=v)(hn:d<a.tmps.size):a.put (some d) v=a:=by
 unfold Act.put;simp only;congr 1;apply IJ;intro i;by_cases e:d=i;·subst e;rw[Uz hn,<-hd,vH,DL hn];rfl
 ·rw[Od e]
def QG{d:Nat}{s':ah}(h:St c G zl s a w)(hn:d<c.nt)(cs:List C)(hcs:∀x∈cs,zy w zl c.zb G x)(k:List C->C)(kx:List X->X)(hk:∀l:List C,l.length=cs.length->(k l).er=kx (l.map C.er))
  (hkv:∀l:List C,l.map C.val=cs.map C.val->(k l).val=a.tmps.getD d undef)(E8:∀{aD:Nat->Nat->Prop},∀l:List C,l.length=cs.length->(∀x∈l,x.plain/\x.ok w (Zf aD c.zb)/\∀b k,¬x.fp b k)->(k l).ok w (Zf aD c.zb)/\(∀b q,¬(k l).fp b q)/\∀G,(k l).rf G)
  (hg:Av d (cs.map C.er) kx s=some s'):∃G' aD,St c G' aD s' a w:=by
 obtain⟨l,G1,e1,e2,e3,e4,e5⟩:=Dj cs G s h.inv hcs;unfold Av at hg;rw[<-e1] at hg;cases hcl:X.clean.cL (l.map C.er) with
 |false=>rw[hcl] at hg;cases hg
 |true=>
  rw[hcl,lZ] at hg;have hlen:l.length=cs.length:=by have:=dA List.length e2;simpa using this
  let aD:Nat->Nat->Prop:=λb k=>zl b k\/∃y∈l,y.fp b k;have h1:St c G1 zl (cg (cs.map C.er) s).2 a w:=h.move e4.inv e4.val (Ext.refl (λ_ _=>False) w) (λ_ _ hs=>hs.elim) (λt b k hf=>.inl ⟨t,e4.mono t b k hf⟩)
  have h2:St c G1 aD (cg (cs.map C.er) s).2 a w:=h1.more (λb k hz=>.inl hz) (λb k hz=>by
   rcases hz with hz|⟨y,hy,hf⟩;·exact⟨.inl hz,h1.inv.cI b k (.inl hz)⟩
   ·exact⟨.inr λt=>(e4.all y hy).2.1 t b k hf,C.fN _ (e4.all y hy).1 b k hf⟩) (λb k hz=>by
   rcases hz with hz|⟨y,hy,hf⟩;·exact .inl hz
   ·obtain⟨t,ht⟩:=(e4.all y hy).2.2.2 b k hf;exact .inr (h.tr.dom t b k ht))
  let m:=l.map C.ez;have hml:m.length=cs.length:=by simp[m,hlen]
  have acT:m.map C.er=X.ey .sl (l.map C.er):=by rw[X.nF];simp only[m,cP];exact cz λx _=>C.xp x
  have Rt:m.map C.val=cs.map C.val:=by rw[<-e2];simp only[m,cP];exact cz λx _=>C.xu x
  have hmem:∀x∈m,x.plain/\x.ok w (Zf aD c.zb)/\∀b k,¬x.fp b k:=λx hx=>by obtain⟨y,hy,rfl⟩:=aT.1 hx;exact⟨C.aeh (e3 y hy),C.xq (λb k hz=>.inl hz) y (j7.1 hcl _ (kA hy)) (λb k hf=>.inr ⟨y,hy,hf⟩) (e4.all y hy).1,C.sF y⟩
  rw[<-acT] at hg;cases hb:l5 (cs.map C.er) (m.map C.er) (cg (cs.map C.er) s).2 with
  |none=>rw[hb] at hg;cases hg
  |some s3=>
   rw[hb] at hg;simp only[cx,dL] at hg;subst hg;obtain⟨G2,g1,g2,g3⟩:=D8 cs m h2.inv hml (λv r p hm=>e5 v r p ((hcs _ hm).weak v r p rfl)) (λi x y hx hy=>by have hy':=hmem y (lY hy);refine⟨hy'.1,?_,hy'.2.1⟩;have:=dA (λt:List Value=>t[i]?) Rt;simpa [de,hx,hy] using this) (λy hy=>⟨λt b k hf=>((hmem y hy).2.2 b k hf).elim,λb k hf=>((hmem y hy).2.2 b k hf).elim⟩) (rC λx hx=>(hmem x hx).2.2) hb
   have h3:St c G2 aD s3 a w:=h2.move g1 g2 (Ext.refl (λ_ _=>False) w) (λ_ _ hs=>hs.elim) (λt b k hf=>by
    rcases g3 t b k hf with hh|⟨y,hy,hh⟩;·exact .inl ⟨t,hh⟩
    ·exact((hmem y hy).2.2 b k hh).elim)
   obtain⟨o1,o2,o3⟩:=E8 m hml hmem;obtain⟨G3,h4⟩:=h3.put hn o1 (λt _ b k hf=>(o2 b k hf).elim) (λb k hf=>(o2 b k hf).elim) (o3 G2) (λb k hf=>(o2 b k hf).elim);rw[hk m hml,S4 (hkv m Rt).symm (by rw[h.size];exact hn)] at h4;exact⟨G3,aD,h4⟩
def abT{fz:Bool}{d:Nat}{s':ah}(h:St c G zl s a w)(hn:d<c.nt)(hg:ghost fz d s=some s'):∃G' aD,St c G' aD s' a w:=by
 obtain⟨e1,e2,e3⟩:=SN h d;have hd:d<base:=jT hn h.small;have hval:a.tmps.getD d undef=(G d).val:=(h.val d hd).symm;unfold ghost at hg;cases fz with
 |false=>
  obtain⟨y,G1,f1,f2,f3,f4⟩:=qW .mv h.inv e3;rw[e1] at f1 f4;have oH:y.val=a.tmps.getD d undef:=by rw[f2,e2,hval]
  simp only[q9,dL] at hg;subst hg;obtain⟨G2,h2⟩:=h.Nh f4 hn;rw[f1,S4 oH.symm (by rw[h.size];exact hn)] at h2;exact⟨G2,zl,h2⟩
 |true=>
  simp only[lZ] at hg;rw[<-e1] at hg;cases hx:(G d).alias d [] with
  |agg n f=>
   rw[hx] at hg e2 e3;have er:(C.agg n f).er=.agg (((List.range n).map f).map C.er):=by simp only[C.er,cP];rfl
   rw[er] at hg;have hlen:((List.range n).map f).length=n:=by simp
   refine QG h hn ((List.range n).map f) (λx hx=>?_) gT .agg (λl _=>vP l) (λl hl=>?_) (λl hl hm=>⟨⟨λj hj=>⟨C.lS (hm _ (cW hj _)).1,(hm _ (cW hj _)).2.1⟩,λj hj b q hf=>((hm _ (cW hj _)).2.2 b q hf).elim⟩,λb q hf=>?_,λG j hj=>C.oP (hm _ (cW hj _)).1 G⟩) hg
   ·obtain⟨j,hj,rfl⟩:=aT.1 hx;have hj':j<n:=by simpa using hj
    exact⟨(e3.ok.1 j hj').1,(e3.ok.1 j hj').2,λb k hf=>e3.cZ b k ⟨j,hj',hf⟩,λv r p e=>Dn (by rw[<-e];exact e3.rf j hj')⟩
   ·rw[zE,hl,hval,<-e2];simp only[C.val,cP];rfl
   ·obtain⟨x,hx,hf⟩:=(rB _ _ _).1 hf;exact(hm x hx).2.2 b q hf
  |ref v r p=>
   rw[hx] at hg e2 e3;refine QG h hn [.ref v r p] (λx hx=>?_) (λl=>l.headD (.dead undef)) (λl=>l.headD .dead) (λl hl=>?_) (λl hl=>?_) (λl hl hm=>?_) hg;·obtain rfl:=fH.1 hx;exact⟨L1 e3.rf,trivial,λb k hf=>hf,λv' r' p' e=>by cases e;exact Dn e3.rf⟩
   ·cases l with
    |nil=>simp at hl
    |cons x l=>rfl
   ·cases l with
    |nil=>simp at hl
    |cons x l=>
     have:x.val=v:=by have:=dA List.head? hl;simpa [C.val] using this
     show x.val=_;rw[this,hval,<-e2];rfl
   ·cases l with
    |nil=>simp at hl
    |cons x l=>obtain⟨a1,a2,a3⟩:=hm x (bE ..);exact⟨a2,a3,λG=>C.oP a1 G⟩
  |_=>rw[hx] at hg;simp only[C.er,dL] at hg;subst hg;exact⟨G,zl,h⟩
def afw(h:St c G zl s a w){d sz:Nat}{fz agg:Bool}{ty:TypeId}{x:AV}{x':Operand}(ho:o.op=.load ty x')(hsz:∃i,P.info? ty=some i/\i.size=sz)(nr:∃dd,P.underlying ty=some dd/\(match dd with|.struct _=>true|.array _ _=>true|_=>false)=agg)
  (h1:agg=true\/sz=1)(hd:o.dst=some d)(hn:d<c.nt)(hx:aK x' x=true)
  (hK:aM P (.sC d fz sz agg x) s K):dP P c o a w K:=by obtain⟨cs,k1,k2,s',k3,k4⟩:=hK;obtain⟨v,hr,G1,tH,s1,q1,q2⟩:=SL (K:=λt=>t=put d (bif agg then .agg (cs.take sz) else cs.headD .dead) s) h ho hsz nr h1 hd hn hx ⟨cs,k1,k2,rfl⟩;subst q1;obtain⟨G2,tI,h2⟩:=abT q2 hn k3;exact⟨v,hr,G2,tI,s',k4,h2⟩
end
end M
namespace M
open Go Go.RowKit
variable [Bs]
section
variable {P:Program}{c:Ctx}{G:Nat->C}{zl:Nat->Nat->Prop}{s:ah}{a:Act}{w:World}{o:Oper}{K:ah->Prop}
def ry(P:Program)(c:Ctx)(o:Oper)(a:Act)(w:World)(K:ah->Prop)(q:Bool):Prop:=
 ∃f args,(execOp a.eval o).run P w=.ok (.enter f args) w/\Calls P f args w λe w'=>∃v,e=.returned v/\Rel q w w'/\∃G' aD s',K s'/\St c G' aD s' (a.put o.dst v) w'
def L7{f:FuncId}{fn:Func}(hf:P.funcs[f]?=some fn)(hname:(fn.name== "runtime.NumGoroutine")=false) (hb:fn.body.isNone=false) (args:Array Value) (w:World):(callFunc f args).run P w=.ok (.enter f args) w:=by simp only[callFunc,Sem.run_bind,run_program,Result.andThen_ok,hf,hname,hb,fJ,eL,Sem.run_pure]
def St.result{aD:Nat->Nat->Prop}(h:St c G aD s a w){x:C}(d:Option Nat)(hn:∀n,d=some n->n<c.nt)(hok:x.ok w (Zf aD λ_ _=>False))(hb:x.bare)(hsep:∀t b k,x.fp b k->¬(G t).fp b k)(hfz:∀b k,x.fp b k->¬aD b k/\¬c.zb b k)
  (hdom:∀b k,x.fp b k->c.F0 b k\/c.w0.heap.size<=b):∃G',St c G' aD (fX d x.er s) (a.put d x.val) w:=by
 cases d with
 |none=>exact⟨G,h⟩
 |some n=>
  refine h.put (hn n rfl) (C.gM (λm b k hz=>?_) _ hok) (λt _=>hsep t) hfz (C.rG G _ hb) hdom;cases m with
  |own=>exact hz
  |sl=>exact hz
  |af=>exact hz.imp id λh=>h.elim
def St.after{aD:Nat->Nat->Prop}{w':World}{G1:Nat->C}{s1:ah}{S:Nat->Nat->Prop}(h:St c G zl s a w)(hi:Inv w' aD c.zb G1 s1)(hv:∀t,(G1 t).val=(G t).val)(hE:Ext S w w')(hS:∀b k,S b k->∃t,(G t).fp b k)
  (hd:∀t b k,(G1 t).fp b k->(∃u,(G u).fp b k)\/w.heap.size<=b)(hz1:∀b k,zl b k->aD b k)(hz2:∀b k,aD b k->zl b k\/(∃t,(G t).fp b k)\/w.heap.size<=b):St c G1 aD s1 a w' where
 inv:=hi
 val:=λt ht=>(hv t).trans (h.val t ht)
 size:=h.size
 small:=h.small
 defers:=h.defers
 tr:=⟨h.tr.ext.trans hE (λb k hs hb=>by
   obtain⟨t,ht⟩:=hS b k hs;rcases h.tr.dom t b k ht with hh|hh;·exact hh
   ·omega),λt b k hf=>by
   rcases hd t b k hf with ⟨u,hu⟩|hb;·exact h.tr.dom u b k hu
   ·exact .inr (iZ h.tr.ext.size hb),λb k hz=>hz1 b k (h.tr.pM b k hz),λb k hz=>by
   rcases hz2 b k hz with hz|⟨t,ht⟩|hb;·exact h.tr.zl b k hz
   ·exact .inr (h.tr.dom t b k ht)
   ·exact .inr (.inr (iZ h.tr.ext.size hb)),h.tr.gl,h.tr.Ay⟩
 args:=λi v hi=>(hv _).trans (h.args i v hi)
def St.J7(h:St c G zl s a w)(bG:Nat->Nat->Prop)(hz:∀b k,c.zb b k->bG b k):pO w zl bG:=λb hb=>by
 obtain⟨h1,h2⟩:=h.tr.gl b hb;refine⟨?_,λk=>(h2 k).imp (h.tr.pM b k) (hz b k)⟩;rw[<-h1]
 have hlt:b<c.w0.heap.size:=by
  rcases gB b c.w0.heap.size with h|h;·exact h
  ·rw[kC h] at h1;have:=Array.getElem?_eq_none_iff.1 h1.symm;omega
 rcases h.tr.ext.block b hlt with e|⟨arr,gb,t,fz,e1,e2,e3,e4⟩;·exact e
 ·have:gb=arr:=by apply IJ;intro i;exact e4 i (h.tr.Ay b i hb)
  rw[e1,e2,this]
def Ie{G1:Nat->C}{s1:ah}{l:List C}(h:St c G zl s a w)(hT:bM w zl c.zb G l G1 s1):St c G1 zl s1 a w:=
 h.move hT.inv hT.val (Ext.refl (λ_ _=>False) w) (λ_ _ hs=>hs.elim) (λt b k hf=>.inl ⟨t,hT.mono t b k hf⟩)
structure tJ (P:Program) (c:Ctx) (zl:Nat->Nat->Prop) (o:Oper) (a:Act) (w:World) (l':List Operand) (f:FuncId) (fv:Option AV):Prop where
 run:∃pU:List Value,(execOp a.eval o).run P w=.ok (.enter f ((l'.map a.eval)++pU).toArray) w/\
  ∀{G2:Nat->C} {s2:ah} {bG:Nat->Nat->Prop},St c G2 zl s2 a w->(∀b k,c.zb b k->bG b k)->(∀t b k,(G2 t).fp b k->bG b k)->rK s2 fv f->∃l:List C,l.map C.er=oo s2 fv/\l.map C.val=pU/\∀x∈l,ga w zl bG x
def jw:List (AV×PM)->Bool
 |[]=>true
 |(_,.af)::l=>jw l
 |(_,.j6 _)::l=>jw l
 |_::_=>false
def Lz:∀{l:List (AV×PM)} (s:ah),jw l=true->∀x∈(bZ l s).1,x=.dead
 |[],s,_,x,hx=>by cases hx
 |(_,.af)::l,s,h,x,hx=>(ct.1 hx).elim id (Lz (l:=l) s h x)
 |(_,.j6 _)::l,s,h,x,hx=>(ct.1 hx).elim id (Lz (l:=l) s h x)
 |(_,.mv)::l,s,h,x,hx=>by cases h
 |(_,.mut _)::l,s,h,x,hx=>by cases h
def xA:∀{l:List (AV×PM)},jw l=true->dY l=none
 |[],_=>rfl
 |(_,.af)::l,h=>xA (l:=l) h
 |(_,.j6 _)::l,h=>xA (l:=l) h
 |(_,.mv)::l,h=>by cases h
 |(_,.mut _)::l,h=>by cases h
def Pm(q:Bool)(h:St c G zl s a w){l':List Operand}{as:List (AV×PM)}(hc:gW l' as=true)(hno:dY as=none){f:FuncId}{fv:Option AV}(hop:tJ P c zl o a w l' f fv)(hq:q=true->jw as=true)(hn:∀n,o.dst=some n->n<c.nt)(hK:tU P f o.dst as fv s K):ry P c o a w K q:=by
 obtain⟨k1,k2⟩:=hK;rw[hno] at k2;obtain⟨k2,k3⟩:=k2;obtain⟨ms,G1,g1,g2,hT⟩:=Ga hc h;obtain⟨pU,hrun,AG⟩:=hop.run;have h1:=Ie h hT;rw[<-g1] at k1 k3;have jM:∀b k,c.zb b k->(c.zb b k\/∃t,(G1 t).fp b k):=λb k hz=>.inl hz;have su:∀t b k,(G1 t).fp b k->(c.zb b k\/∃t,(G1 t).fp b k):=λt b k hf=>.inr ⟨t,hf⟩;obtain⟨l,l1,l2,l3⟩:=AG (bG:=λb k=>c.zb b k\/∃t,(G1 t).fp b k) h1 jM su k2
 have acU:∀x∈ms,x.ok w (Zf zl λb k=>c.zb b k\/∃t,(G1 t).fp b k)/\x.bare/\∀b k,x.fp b k->¬(C.dead undef).fp b k:=λx hx=>by
  refine⟨C.gM (λm b k hz=>?_) _ (hT.all x hx).1,(C.l6 x).1 (C.vS.1 k1 _ (kA hx)),λ_ _ _ h=>h⟩;cases m with
  |own=>exact hz
  |sl=>exact hz
  |af=>exact hz.imp id .inl
 obtain⟨cs,c1,c2,c3,c4⟩:=D0 (bG:=λb k=>c.zb b k\/∃t,(G1 t).fp b k) h1 jM su (y:=.dead undef) trivial trivial hc g2 acU hT.apart (λi x n x' hi _=>by
  exfalso
  have:∀{l:List (AV×PM)} {i:Nat},l[i]?=some (x,PM.mut n)->dY l≠none:=by
   intro l;induction l with
   |nil=>intro i hi;simp at hi
   |cons p l ih=>
    intro i hi;obtain⟨y,pm⟩:=p;cases i with
    |zero=>simp only[zn,dL,jU] at hi;obtain⟨_,rfl⟩:=hi;simp[dY]
    |succ i=>have:=ih (by simpa using hi);cases pm<;>simp[dY]<;>first|exact this|skip
  exact this hi hno)
 have cm:∀x∈cs++l,∀b k,x.fp b k->∃m∈ms,m.fp b k:=λx hx b k hf=>by
  rcases dK.1 hx with hx|hx
  ·rcases(c3 x hx).2.2 b k hf with hh|hh;·exact hh
   ·exact hh.2.elim
  ·exact((l3 x hx).cZ b k hf).elim
 have hA:mW w zl (λb k=>c.zb b k\/∃t,(G1 t).fp b k) (cs++l):={
  ok:=λx hx=>(dK.1 hx).elim (λhx=>(c3 x hx).1) λhx=>(l3 x hx).ok
  bare:=λx hx=>(dK.1 hx).elim (λhx=>(c3 x hx).2.1) λhx=>(l3 x hx).bare
  fz:=λx hx b k hf=>by obtain⟨m,hm,hf⟩:=cm x hx b k hf;exact⟨((hT.all m hm).2.2.1 b k hf).1,λhz=>hz.elim ((hT.all m hm).2.2.1 b k hf).2 λ⟨t,ht⟩=>(hT.all m hm).2.1 t b k hf ht⟩
  cI:=λb k hz=>by
   rcases hz with hz|hz|⟨t,ht⟩;·exact hT.inv.cI b k (.inl hz)
   ·exact hT.inv.cI b k (.inr hz)
   ·exact C.fN _ (hT.inv.ok t) b k ht
  apart:=vE.2 ⟨c4,rC λx hx=>(l3 x hx).cZ,λx _ y hy b k _ hf=>(l3 y hy).cZ b k hf⟩}
 have r7:=k3 w zl _ (cs++l) (by rw[iK,c1,l1];rfl) hA (h.J7 _ λb k hz=>.inl hz);have uq:(cs++l).map C.val=l'.map a.eval++pU:=by rw[iK,c2,l2]
 rw[uq] at r7;refine⟨f,_,hrun,r7.mono ?_⟩;rintro e w' ⟨r,ps,aD,hD,hk⟩;have hin:∀b k,aD b k->b<w'.heap.size:=λb k hz=>hD.all.cI b k (.inl hz);have kQ:∀b k,(∃m∈ms,m.fp b k)->(∀t,¬(G1 t).fp b k)/\¬zl b k/\¬c.zb b k:=λb k ⟨m,hm,hf⟩=>⟨λt=>(hT.all m hm).2.1 t b k hf,(hT.all m hm).2.2.1 b k hf⟩;have lD:∀b k,(∃x∈cs++l,x.fp b k)->∃m∈ms,m.fp b k:=λb k ⟨x,hx,hf⟩=>cm x hx b k hf;have A9:∀b k,aD b k->zl b k\/(∃m∈ms,m.fp b k)\/w.heap.size<=b:=λb k hz=>(hD.tI b k hz).imp id λhh=>hh.imp (lD b k) id
 have hi:=hT.inv.OE hD.ext (λb k hs=>kQ b k (lD b k hs)) hD.tH (λb k hz=>⟨hin b k hz,λt hf=>by
  rcases A9 b k hz with hz|hm|hb;·exact(hT.inv.fz t b k hf).1 hz
  ·exact(kQ b k hm).1 t hf
  ·have:=C.fN _ (hT.inv.ok t) b k hf;omega⟩)
 have jL:∀b k,(∃m∈ms,m.fp b k)->∃t,(G t).fp b k:=λb k ⟨m,hm,hf⟩=>(hT.all m hm).2.2.2 b k hf;have h2:St c G1 aD (bZ as s).2 a w':=h.after hi hT.val hD.ext (λb k hs=>jL b k (lD b k hs)) (λt b k hf=>.inl ⟨t,hT.mono t b k hf⟩) hD.tH (λb k hz=>(A9 b k hz).imp id λhh=>hh.imp (jL b k) id);have hrd:∀b k,r.fp b k->(∃m∈ms,m.fp b k)\/w.heap.size<=b:=λb k hf=>(hD.dom r (bE ..) b k hf).imp (lD b k) id
 obtain⟨G3,h3⟩:=h2.result (x:=r) o.dst hn (hD.all.ok r (bE ..)) (hD.all.bare r (bE ..)) (λt b k hf hf'=>by
   rcases hrd b k hf with hm|hb;·exact(kQ b k hm).1 t hf'
   ·have:=C.fN _ (hT.inv.ok t) b k hf';omega) (λb k hf=>⟨(hD.all.fz r (bE ..) b k hf).1,λhz=>by
   rcases hrd b k hf with hm|hb;·exact(kQ b k hm).2.2 hz
   ·have:=hT.inv.cI b k (.inr hz);omega⟩) (λb k hf=>by
   rcases hrd b k hf with hm|hb;·obtain⟨t,ht⟩:=jL b k hm;exact h.tr.dom t b k ht
   ·exact .inr (iZ h.tr.ext.size hb))
 refine⟨r.val,hD.ends,λKL=>hD.ext.mono λb k hs _=>?_,G3,aD,_,hk,h3⟩;obtain⟨m,hm,hf⟩:=lD b k hs;have hd:=Lz s (hq KL) m.er (by rw[<-g1];exact kA hm);cases m<;>first|exact hf|(simp[C.er] at hd)
end
end M
namespace M
open Go Go.RowKit
variable [Bs]
structure fe (w w':World) (zl aD zb:Nat->Nat->Prop) (G:Nat->C) (r:Nat) (p:Path) (D y q:C) (S M:Nat->Nat->Prop):Prop where
 sub:(G r).sub p=some D
 yD:∀b k,y.fp b k->D.fp b k
 ext:Ext S w w'
 sx:∀b k,S b k->M b k\/y.fp b k
 xF:∀b k,M b k->(∀t,¬(G t).fp b k)/\¬zl b k/\¬zb b k
 Gk:q.ok w' (Zf aD zb)
 bare:q.bare
 val:q.val=y.val
 fp:∀b k,q.fp b k->S b k\/w.heap.size<=b
 qz:∀b k,q.fp b k->¬aD b k
 z1:∀b k,zl b k->aD b k
 z2:∀b k,aD b k->zl b k\/S b k\/w.heap.size<=b
 cI:∀b k,aD b k->b<w'.heap.size
section
variable {w w':World}{zl aD zb:Nat->Nat->Prop}{G:Nat->C}{s:ah}{r:Nat}{p:Path}{D y q:C}{S M:Nat->Nat->Prop}
def fe.DG(h:fe w w' zl aD zb G r p D y q S M)(hi:Inv w zl zb G s){b k:Nat}(hf:D.fp b k):(G r).fp b k:=C.gP p h.sub (hi.ok r) hf
def fe.notM(h:fe w w' zl aD zb G r p D y q S M)(hi:Inv w zl zb G s){b k:Nat}(hf:D.fp b k):¬M b k:=λhm=>(h.xF b k hm).1 r (h.DG hi hf)
def fe.SA(h:fe w w' zl aD zb G r p D y q S M)(hi:Inv w zl zb G s){b k:Nat}(hf:D.fp b k):¬w.heap.size<=b:=λhb=>by have:=C.fN _ (hi.ok r) b k (h.DG hi hf);omega
def fe.qD(h:fe w w' zl aD zb G r p D y q S M)(hi:Inv w zl zb G s){b k:Nat}(hq:q.fp b k)(hf:D.fp b k):y.fp b k:=by
 rcases h.fp b k hq with hs|hb;·exact(h.sx b k hs).resolve_left (h.notM hi hf)
 ·exact(h.SA hi hf hb).elim
def fe.zD(h:fe w w' zl aD zb G r p D y q S M)(hi:Inv w zl zb G s){b k:Nat}(hz:aD b k)(hf:D.fp b k):y.fp b k:=by
 rcases h.z2 b k hz with hz|hs|hb;·exact((hi.fz r b k (h.DG hi hf)).1 hz).elim
 ·exact(h.sx b k hs).resolve_left (h.notM hi hf)
 ·exact(h.SA hi hf hb).elim
def fe.SD(h:fe w w' zl aD zb G r p D y q S M)(hi:Inv w zl zb G s){b k:Nat}(hs:S b k)(hf:D.fp b k):y.fp b k:=(h.sx b k hs).resolve_left (h.notM hi hf)
def fe.Z(h:fe w w' zl aD zb G r p D y q S M)(hi:Inv w zl zb G s):∀m b k,Zf zl zb m b k->¬S b k:=λm b k hz hs=>by
 rcases h.sx b k hs with hm|hy
 ·obtain⟨_,a1,a2⟩:=h.xF b k hm;cases m with
  |own=>exact hz
  |sl=>exact a1 hz
  |af=>exact hz.elim a1 a2
 ·exact hi.zq r m b k hz (h.DG hi (h.yD b k hy))
def fe.mono(h:fe w w' zl aD zb G r p D y q S M):∀m b k,Zf zl zb m b k->Zf aD zb m b k:=λm b k hz=>by
 cases m with
 |own=>exact hz
 |sl=>exact h.z1 b k hz
 |af=>exact hz.imp (h.z1 b k) id
def fe.back(h:fe w w' zl aD zb G r p D y q S M)(hi:Inv w zl zb G s){d0:C}(hok:d0.ok w' (Zf aD zb))(hF:C.gC D d0)(hl:C.iy D d0)(hrf:(d0.ay (C.belows r p)).rf λt=>(G t).ay (C.belows r p))(cm:∀b k,d0.fp b k->q.fp b k\/(D.fp b k/\¬y.fp b k))(hz:∀b k,d0.fp b k->¬aD b k):
  ∃G',Inv w' aD zb G' (iH r p d0.er s)/\(∀t,(G' t).val=(G t).val)/\∀t b k,(G' t).fp b k->q.fp b k\/((∃u,(G u).fp b k)/\¬y.fp b k):=by
 have h1:=hi.fm r p;have hs1:((G r).ay (C.belows r p)).sub p=some (D.ay (C.belows r p)):=C.js _ p _ _ (hi.ok r) h.sub;have AM:∀t b k,((G t).ay (C.belows r p)).fp b k↔(G t).fp b k:=λt b k=>C.cR _ _ b k
 have hFB:C.gC (D.ay (C.belows r p)) (d0.ay (C.belows r p)):=by
  cases hF with
  |row=>exact .row ..
  |ptr=>exact .ptr ..
 have sg:C.iy (D.ay (C.belows r p)) (d0.ay (C.belows r p)):=by
  cases hF with
  |row m m' sz A len cap e e'=>exact⟨rfl,λh=>h,λh=>h,λh=>h,hl.fits⟩
  |ptr m m' g o n c c'=>exact⟨rfl,λh=>h,λh=>h,λh=>h,hl.fits⟩
 obtain⟨i1,i2,i3⟩:=h1.I9 r p (λt=>C.gL _ _) hs1 hFB sg ⟨hrf,C.gL _ _⟩ h.ext (λb k hs=>by
   rcases h.sx b k hs with hm|hy;·obtain⟨a1,a2,a3⟩:=h.xF b k hm;exact .inr ⟨λt hf=>a1 t ((AM t b k).1 hf),a2,a3⟩
   ·exact .inl ((C.cR _ D b k).2 (h.yD b k hy))) (C.mD _ _ hok) h.z1 (λb k uu=>⟨λhf=>hz b k ((C.cR _ d0 b k).1 hf) uu,h.cI b k uu,λt hf=>by
   refine(C.cR _ D b k).2 ?_;have hf:=(AM t b k).1 hf;rcases h.z2 b k uu with fO|hs|hb;·exact((hi.fz t b k hf).1 fO).elim
   ·rcases h.sx b k hs with hm|hy;·exact((h.xF b k hm).1 t hf).elim
    ·exact h.yD b k hy
   ·have:=C.fN _ (hi.ok t) b k hf;omega⟩) (λb k hf=>by
   rcases(cm b k ((C.cR _ d0 b k).1 hf)).symm with hf|hf;·exact .inl ((C.cR _ D b k).2 hf.1)
   ·rcases h.fp b k hf with hs|hb
    ·rcases h.sx b k hs with hm|hy;·obtain⟨a1,a2,a3⟩:=h.xF b k hm;exact .inr ⟨λt hf=>a1 t ((AM t b k).1 hf),a3⟩
     ·exact .inl ((C.cR _ D b k).2 (h.yD b k hy))
    ·exact .inr ⟨λt hf=>by have:=C.fN _ (hi.ok t) b k ((AM t b k).1 hf);omega,λhz=>by have:=hi.cI b k (.inr hz);omega⟩)
 rw[C.xd] at i1;refine⟨_,i1,λt=>(i2 t).trans (C.jt _ _),λt b k hf=>?_⟩;rcases i3 t b k hf with hf|hf
 ·rcases cm b k ((C.cR _ d0 b k).1 hf) with hf|hf;·exact .inl hf
  ·exact .inr ⟨⟨r,h.DG hi hf.1⟩,hf.2⟩
 ·exact .inr ⟨⟨t,(AM t b k).1 hf.1⟩,λhy=>hf.2 ((C.cR _ D b k).2 (h.yD b k hy))⟩
end
end M
namespace M
open Go Go.RowKit
variable [Bs]
def TK{α:Type}(f g:Nat->α){nn c n:Nat}(h:c+n<=nn):((List.range nn).map λj=>if c<=j/\j<c+n then g (j - c) else f j)=((List.range nn).map f).take c++(List.range n).map g++((List.range nn).map f).drop (c+n):=by
 apply iw;intro i;rw[C.dm];have Kz:(((List.range nn).map f).take c).length=c:=by simp;omega
 have oD:(((List.range nn).map f).take c++(List.range n).map g).length=c+n:=by rw[fK,Kz];simp
 by_cases h0:i<nn
 ·rw[aA h0];by_cases h1:i<c;·rw[aC (by omega),mT (by omega),mT (by omega),N4 h1,C.dm,aA h0]
  ·by_cases h2:i<c+n;·rw[aA ⟨by omega,h2⟩,mT (by omega),jb (by omega),Kz,C.dm,aA (by omega)]
   ·rw[aC (by omega),jb (by omega),oD,pK,C.dm,show c+n+(i - (c+n))=i by omega,aA h0]
 ·rw[aC h0,jb (by omega),oD,pK,C.dm,aC (by omega)]
section
variable {w w':World}{zl aD zb:Nat->Nat->Prop}{G:Nat->C}{s:ah}{r:Nat}{p:Path}{S M:Nat->Nat->Prop}
def fe.ptr{g o nn n c:Nat}{f qf:Nat->C}(h:fe w w' zl aD zb G r p (.ptr .own g o nn f) (.ptr .own g (o+c) n λj=>f (j+c)) (.ptr .own g (o+c) n qf) S M)(hi:Inv w zl zb G s)(hn:c+n<=nn):
  ∃G',Inv w' aD zb G' (iH r p (.ptr .own (((List.range nn).map λj=>(f j).er).take c++((List.range n).map λj=>(qf j).er)++((List.range nn).map λj=>(f j).er).drop (c+n))) s)/\(∀t,(G' t).val=(G t).val)/\∀t b k,(G' t).fp b k->(C.ptr .own g (o+c) n qf).fp b k\/((∃u,(G u).fp b k)/\¬(C.ptr .own g (o+c) n λj=>f (j+c)).fp b k):=by
 obtain⟨D1,D2,D3,D4⟩:=C.iu p h.sub (hi.ok r);obtain⟨q1,q2,q3,q4⟩:=h.Gk;have nw:∀j,j<n->∀b k,(qf j).fp b k->(C.ptr .own g (o+c) n qf).fp b k:=λj hj b k hf=>C.kR (q3 j hj).1 (q3 j hj).2.1 hj hf;have nk:∀j,j<nn->∀b k,(f j).fp b k->(C.ptr .own g o nn f).fp b k:=λj hj b k hf=>C.kR (D3 j hj).1 (D3 j hj).2.1 hj hf;have p8:∀k,o<=k->k<o+nn->(C.ptr .own g o nn f).fp g k:=λk h1 h2=>⟨rfl,.inl ⟨rfl,h1,h2⟩⟩
 have mz:∀k,o<=k->k<o+nn->(C.ptr .own g (o+c) n λj=>f (j+c)).fp g k->o+c<=k/\k<o+c+n:=λk h1 h2 ⟨_,hf⟩=>by
  rcases hf with hf|⟨j,hj,hf⟩;·exact hf.2
  ·exact((D4 (j+c) (by omega) g k hf).1 rfl ⟨rfl,h1,h2⟩).elim
 have ny:∀j,j<nn->¬(c<=j/\j<c+n)->∀b k,(f j).fp b k->¬(C.ptr .own g (o+c) n λj=>f (j+c)).fp b k:=λj hj hne b k hf ⟨_,hf'⟩=>by
  rcases hf' with hf'|⟨j',hj',hf'⟩;·exact(D4 j hj b k hf).1 rfl ⟨hf'.1,by omega,by omega⟩
  ·exact(D4 j hj b k hf).2 (j'+c) (by omega) (by omega) hf'
 let d:Nat->C:=λj=>if c<=j/\j<c+n then qf (j - c) else f j
 have iM:∀j,c<=j/\j<c+n->d j=qf (j - c):=λj hj=>aA hj;have iN:∀j,¬(c<=j/\j<c+n)->d j=f j:=λj hj=>aC hj
 have hok:(C.ptr .own g o nn d).ok w' (Zf aD zb):=by
  refine⟨λj hj=>⟨?_,λhm=>(hm rfl).elim,λ_=>(h.ext.frozen D2).trans ((D1 j hj).2.2 rfl)⟩,jT D2 h.ext.size,λj hj=>?_,λj hj b k hf=>⟨λ_ hb=>?_,λj' hj' hne=>?_⟩⟩
  ·by_cases hr:c<=j/\j<c+n;·rw[iM j hr];have:=(q1 (j - c) (by omega)).1;rwa [show o+c+(j - c)=o+j by omega] at this
   ·rw[iN j hr];exact h.ext.cell (λhs=>hr (by have:=mz (o+j) (by omega) (by omega) (h.SD hi hs (p8 _ (by omega) (by omega)));omega)) (D1 j hj).1
  ·by_cases hr:c<=j/\j<c+n;·rw[iM j hr];obtain⟨a1,a2,a3⟩:=q3 (j - c) (by omega);exact⟨a1,a2,a3⟩
   ·rw[iN j hr];obtain⟨a1,a2,a3⟩:=D3 j hj;exact⟨a1,a2,C.gM h.mono _ (C.fE h.ext (h.Z hi) _ (λb k hf hs=>ny j hj hr b k hf (h.SD hi hs (nk j hj b k hf))) a3)⟩
  ·obtain⟨rfl,fT,gm⟩:=hb;by_cases hr:c<=j/\j<c+n;·rw[iM j hr] at hf;have:=mz k fT gm (h.qD hi (nw _ (by omega) _ _ hf) (p8 k fT gm));exact(q4 (j - c) (by omega) _ k hf).1 rfl ⟨rfl,this.1,this.2⟩
   ·rw[iN j hr] at hf;exact(D4 j hj _ k hf).1 rfl ⟨rfl,fT,gm⟩
  ·by_cases hr:c<=j/\j<c+n
   ·rw[iM j hr] at hf;by_cases hr':c<=j'/\j'<c+n;·rw[iM j' hr'];exact(q4 (j - c) (by omega) b k hf).2 (j' - c) (by omega) (by omega)
    ·rw[iN j' hr'];exact λhf'=>ny j' hj' hr' b k hf' (h.qD hi (nw _ (by omega) _ _ hf) (nk j' hj' b k hf'))
   ·rw[iN j hr] at hf;by_cases hr':c<=j'/\j'<c+n;·rw[iM j' hr'];exact λhf'=>ny j hj hr b k hf (h.qD hi (nw _ (by omega) _ _ hf') (nk j hj b k hf))
    ·rw[iN j' hr'];exact(D4 j hj b k hf).2 j' hj' hne
 have ab6:=Inv.vC.Dh p ((hi.fm r p).ok r) (C.js (C.belows r p) p _ _ (hi.ok r) h.sub) ((hi.fm r p).rf r)
 obtain⟨G',i1,i2,i3⟩:=h.back hi (d0:=.ptr .own g o nn d) hok (.ptr ..) ⟨rfl,λh=>h,λh=>h,λh=>h,λ_ h=>h⟩ (λj hj=>by
   by_cases hr:c<=j/\j<c+n;·show ((d j).ay _).rf _;rw[iM j hr];exact C.nK _ _ (C.rG _ _ (h.bare (j - c) (by omega)))
   ·show ((d j).ay _).rf _;rw[iN j hr];exact ab6 j hj) (λb k hf=>by
   obtain⟨_,hf|⟨j,hj,hf⟩⟩:=hf
   ·obtain⟨rfl,h1,h2⟩:=hf;by_cases hr:o+c<=k/\k<o+c+n;·exact .inl ⟨rfl,.inl ⟨rfl,hr.1,hr.2⟩⟩
    ·exact .inr ⟨p8 k h1 h2,λhy=>hr (mz k h1 h2 hy)⟩
   ·by_cases hr:c<=j/\j<c+n;·rw[iM j hr] at hf;exact .inl (nw _ (by omega) _ _ hf)
    ·rw[iN j hr] at hf;exact .inr ⟨nk j hj b k hf,ny j hj hr b k hf⟩) (λb k hf hz=>by
   obtain⟨_,hf|⟨j,hj,hf⟩⟩:=hf;·obtain⟨rfl,h1,h2⟩:=hf;have:=mz k h1 h2 (h.zD hi hz (p8 k h1 h2));exact h.qz _ k ⟨rfl,.inl ⟨rfl,this.1,this.2⟩⟩ hz
   ·by_cases hr:c<=j/\j<c+n;·rw[iM j hr] at hf;exact h.qz b k (nw _ (by omega) _ _ hf) hz
    ·rw[iN j hr] at hf;exact ny j hj hr b k hf (h.zD hi hz (nk j hj b k hf)))
 have kM:(C.ptr .own g o nn d).er=.ptr .own (((List.range nn).map λj=>(f j).er).take c++((List.range n).map λj=>(qf j).er)++((List.range nn).map λj=>(f j).er).drop (c+n)):=by rw[<-TK (λj=>(f j).er) (λj=>(qf j).er) hn];simp only[C.er];congr 1;refine cz λj _=>?_;show (if _ then _ else _:C).er=_;split<;>rfl
 rw[kM] at i1;exact⟨G',i1,i2,i3⟩
def fe.row{z len cap:Nat}{A:Option Ad}{e qe:Nat->Nat->C}(h:fe w w' zl aD zb G r p (.row .own z A len cap e) (.row .own z A len cap e) (.row .own z A len cap qe) S M)(hi:Inv w zl zb G s):
  ∃G',Inv w' aD zb G' (iH r p (.row .own z (dN z len qe)) s)/\(∀t,(G' t).val=(G t).val)/\∀t b k,(G' t).fp b k->(C.row .own z A len cap qe).fp b k\/((∃u,(G u).fp b k)/\¬(C.row .own z A len cap e).fp b k):=
 h.back hi (d0:=.row .own z A len cap qe) h.Gk (.row ..) ⟨rfl,λh=>h,λh=>h,λh=>h,λ_ h=>h⟩ trivial (λb k hf=>.inl hf) (λb k hf=>h.qz b k hf)
def fe.elem{z g o len cap n c i:Nat}{e:Nat->Nat->C}{qf:Nat->C}(h:fe w w' zl aD zb G r p (.row .own z (some (g,o,none)) len cap e) (.ptr .own g (o+i*z+c) n λj=>e i (j+c)) (.ptr .own g (o+i*z+c) n qf) S M)(hi:Inv w zl zb G s)(AN:i<len)(hn:c+n<=z)(hqs:∀j,j<n->(qf j).cT):
  ∃G',Inv w' aD zb G' (iH r p (.row .own z ((dN z len e).set i (((List.range z).map λj=>(e i j).er).take c++((List.range n).map λj=>(qf j).er)++((List.range z).map λj=>(e i j).er).drop (c+n)))) s)/\(∀t,(G' t).val=(G t).val)/\∀t b k,(G' t).fp b k->(C.ptr .own g (o+i*z+c) n qf).fp b k\/((∃u,(G u).fp b k)/\¬(C.ptr .own g (o+i*z+c) n λj=>e i (j+c)).fp b k):=by
 obtain⟨D1,D2,D3,D4,D5⟩:=C.iu p h.sub (hi.ok r);obtain⟨q1,q2,q3,q4⟩:=h.Gk;have nw:∀j,j<n->∀b k,(qf j).fp b k->(C.ptr .own g (o+i*z+c) n qf).fp b k:=λj hj b k hf=>C.kR (q3 j hj).1 (q3 j hj).2.1 hj hf;have nk:∀i' j,i'<len->j<z->∀b k,(e i' j).fp b k->(C.row .own z (some (g,o,none)) len cap e).fp b k:=λi' j hi' hj b k hf=>C.kn (D3 i' j hi' hj).1 (D3 i' j hi' hj).2.2.1 hi' hj hf;have p8:∀k,(C.row .own z (some (g,o,none)) len cap e).fp g k:=λk=>⟨rfl,.inl ⟨o,rfl⟩⟩
 have mz:∀k,(C.ptr .own g (o+i*z+c) n λj=>e i (j+c)).fp g k->o+i*z+c<=k/\k<o+i*z+c+n:=λk ⟨_,hf⟩=>by
  rcases hf with hf|⟨j,hj,hf⟩;·exact hf.2
  ·exact((D5 i (j+c) AN (by omega) g k hf).1 rfl o rfl).elim
 have ny:∀i' j,i'<len->j<z->¬(i'=i/\c<=j/\j<c+n)->∀b k,(e i' j).fp b k->¬(C.ptr .own g (o+i*z+c) n λj=>e i (j+c)).fp b k:=λi' j hi' hj hne b k hf ⟨_,hf'⟩=>by
  rcases hf' with hf'|⟨j',hj',hf'⟩;·exact(D5 i' j hi' hj b k hf).1 rfl o (by rw[hf'.1])
  ·exact(D5 i' j hi' hj b k hf).2 i (j'+c) AN (by omega) (λe=>by simp only[jU] at e;exact hne ⟨e.1,by omega,by omega⟩) hf'
 let d:Nat->Nat->C:=λi' j=>if i'=i/\c<=j/\j<c+n then qf (j - c) else e i' j
 have iM:∀i' j,i'=i/\c<=j/\j<c+n->d i' j=qf (j - c):=λi' j hj=>aA hj;have iN:∀i' j,¬(i'=i/\c<=j/\j<c+n)->d i' j=e i' j:=λi' j hj=>aC hj
 have hok:(C.row .own z (some (g,o,none)) len cap d).ok w' (Zf aD zb):=by
  refine⟨D1,λi' j hi' hj=>⟨g,o,rfl,?_,λhm=>(hm rfl).elim⟩,λi' j hi' hj=>?_,λ_=>?_,λi' j hi' hj b k hf=>⟨λ_ o' hA=>?_,λi2 j2 hi2 hj2 hne=>?_⟩⟩
  ·by_cases hr:i'=i/\c<=j/\j<c+n;·rw[iM i' j hr];obtain⟨rfl,h1,h2⟩:=hr;have:=(q1 (j - c) (by omega)).1;rwa [show o+i'*z+c+(j - c)=o+i'*z+j by omega] at this
   ·rw[iN i' j hr];obtain⟨g',o',hA,hcl,_⟩:=D2 i' j hi' hj;injection hA with hA
    injection hA with e1 e2
    injection e2 with e2
    subst e1;subst e2;refine h.ext.cell (λhs=>hr ?_) hcl;have:=mz _ (h.SD hi hs (p8 _));have hj0:o+i'*z+j - (o+i*z)<z:=by omega
    have:=LM hj hj0 (show i'*z+j=i*z+(o+i'*z+j - (o+i*z)) by omega);exact⟨this.1,by omega,by omega⟩
  ·by_cases hr:i'=i/\c<=j/\j<c+n;·rw[iM i' j hr];obtain⟨a1,a2,a3⟩:=q3 (j - c) (by omega);exact⟨a1,hqs _ (by omega),a2,a3⟩
   ·rw[iN i' j hr];obtain⟨a1,a2,a3,a4⟩:=D3 i' j hi' hj;exact⟨a1,a2,a3,C.gM h.mono _ (C.fE h.ext (h.Z hi) _ (λb k hf hs=>ny i' j hi' hj hr b k hf (h.SD hi hs (nk i' j hi' hj b k hf))) a4)⟩
  ·rcases D4 rfl with ⟨hA,_⟩|⟨g',o',arr,t,fz,hA,hh,hsz,hfr⟩;·cases hA
   ·injection hA with hA
    injection hA with e1 e2
    injection e2 with e2
    subst e1;subst e2;have hg:g<w.heap.size:=(gR.1 hh).1;rcases h.ext.block g hg with e'|⟨a1,a2,t',mj,r1,r2,r3,r4⟩;·exact .inr ⟨g,o,arr,t,fz,rfl,e'.trans hh,hsz,λk hk hk'=>(h.ext.frozen hg).trans (hfr k hk hk')⟩
    ·rw[hh] at r1;injection r1 with r1
     injection r1 with s1 s2 s3
     subst s1;exact .inr ⟨g,o,a2,t',mj,rfl,r2,by omega,λk hk hk'=>(h.ext.frozen hg).trans (hfr k hk hk')⟩
  ·injection hA with hA
   injection hA with e1 e2
   subst e1;by_cases hr:i'=i/\c<=j/\j<c+n;·rw[iM i' j hr] at hf;have:=mz k (h.qD hi (nw _ (by omega) _ _ hf) (p8 k));exact(q4 (j - c) (by omega) _ k hf).1 rfl ⟨rfl,this.1,this.2⟩
   ·rw[iN i' j hr] at hf;exact(D5 i' j hi' hj _ k hf).1 rfl o rfl
  ·by_cases hr:i'=i/\c<=j/\j<c+n
   ·rw[iM i' j hr] at hf;by_cases hr':i2=i/\c<=j2/\j2<c+n;·rw[iM i2 j2 hr'];exact(q4 (j - c) (by omega) b k hf).2 (j2 - c) (by omega) (λe=>hne (by simp only[jU];exact⟨by rw[hr.1,hr'.1],by omega⟩))
    ·rw[iN i2 j2 hr'];exact λhf'=>ny i2 j2 hi2 hj2 hr' b k hf' (h.qD hi (nw _ (by omega) _ _ hf) (nk i2 j2 hi2 hj2 b k hf'))
   ·rw[iN i' j hr] at hf;by_cases hr':i2=i/\c<=j2/\j2<c+n;·rw[iM i2 j2 hr'];exact λhf'=>ny i' j hi' hj hr b k hf (h.qD hi (nw _ (by omega) _ _ hf') (nk i' j hi' hj b k hf))
    ·rw[iN i2 j2 hr'];exact(D5 i' j hi' hj b k hf).2 i2 j2 hi2 hj2 hne
 obtain⟨G',i1,i2,i3⟩:=h.back hi (d0:=.row .own z (some (g,o,none)) len cap d) hok (.row ..) ⟨rfl,λh=>h,λh=>h,λh=>h,λ_ h=>h⟩ trivial (λb k hf=>by
   obtain⟨_,hf|⟨i',j,hi',hj,hf⟩⟩:=hf
   ·obtain⟨o',hA⟩:=hf;injection hA with hA
    injection hA with e1 e2
    subst e1;by_cases hr:o+i*z+c<=k/\k<o+i*z+c+n;·exact .inl ⟨rfl,.inl ⟨rfl,hr.1,hr.2⟩⟩
    ·exact .inr ⟨p8 k,λhy=>hr (mz k hy)⟩
   ·by_cases hr:i'=i/\c<=j/\j<c+n;·rw[iM i' j hr] at hf;exact .inl (nw _ (by omega) _ _ hf)
    ·rw[iN i' j hr] at hf;exact .inr ⟨nk i' j hi' hj b k hf,ny i' j hi' hj hr b k hf⟩) (λb k hf hz=>by
   obtain⟨_,⟨o',hA⟩|⟨i',j,hi',hj,hf⟩⟩:=hf
   ·injection hA with hA
    injection hA with e1 e2
    subst e1;have:=mz k (h.zD hi hz (p8 k));exact h.qz _ k ⟨rfl,.inl ⟨rfl,this.1,this.2⟩⟩ hz
   ·by_cases hr:i'=i/\c<=j/\j<c+n;·rw[iM i' j hr] at hf;exact h.qz b k (nw _ (by omega) _ _ hf) hz
    ·rw[iN i' j hr] at hf;exact ny i' j hi' hj hr b k hf (h.zD hi hz (nk i' j hi' hj b k hf)))
 have kM:(C.row .own z (some (g,o,none)) len cap d).er=.row .own z ((dN z len e).set i (((List.range z).map λj=>(e i j).er).take c++((List.range n).map λj=>(qf j).er)++((List.range z).map λj=>(e i j).er).drop (c+n))):=by
  rw[<-TK (λj=>(e i j).er) (λj=>(qf j).er) hn];simp only[C.er];congr 1;symm;refine C.BI _ _ len i _ λi' hi'=>?_;split;·rename_i hii;subst hii;refine cz λj _=>?_;show (if _ then _ else _:C).er=_;simp only[tD];split<;>rfl
  ·rename_i hii;refine cz λj _=>?_;show (if _ then _ else _:C).er=_;rw[aC (λhh=>hii hh.1)]
 rw[kM] at i1;exact⟨G',i1,i2,i3⟩
end
end M
namespace M
open Go Go.RowKit
variable [Bs]
section
variable {P:Program}{c:Ctx}{G:Nat->C}{zl:Nat->Nat->Prop}{s:ah}{a:Act}{w:World}{o:Oper}{K:ah->Prop}
def LA:∀{l':List Operand} {l:List (AV×PM)} {x:AV} {n:Nat},gW l' l=true->dY l=some (x,n)->∃i x',l[i]?=some (x,PM.mut n)/\l'[i]?=some x'/\aK x' x=true/\(∀(j:Nat) (x2:AV) (n2:Nat),l[j]?=some (x2,PM.mut n2)->j=i)/\∀ps:List X,kV l ps=ps.getD i .dead
 |[],[],x,n,_,h=>by cases h
 |Ur::l',(x0,pm)::l,x,n,hc,h=>by
  simp only[gW,av] at hc
  have other:dY l=some (x,n)->(∀n2,pm≠PM.mut n2)->(∀(y:X) ps,kV ((x0,pm)::l) (y::ps)=kV l ps)->(kV ((x0,pm)::l) []=.dead)->∃i x',((x0,pm)::l)[i]?=some (x,PM.mut n)/\(Ur::l')[i]?=some x'/\aK x' x=true/\(∀(j:Nat) (x2:AV) (n2:Nat),((x0,pm)::l)[j]?=some (x2,PM.mut n2)->j=i)/\∀ps:List X,kV ((x0,pm)::l) ps=ps.getD i .dead:=λhm hpm h1 h2=>by
   obtain⟨i,x',i1,i2,i3,i4,i5⟩:=LA hc.2 hm;refine⟨i+1,x',by simpa using i1,by simpa using i2,i3,λj x2 n2 hj=>?_,λps=>?_⟩
   ·cases j with
    |zero=>simp only[zn,dL,jU] at hj;exact(hpm n2 hj.2).elim
    |succ j=>rw[i4 j x2 n2 (by simpa using hj)]
   ·cases ps with
    |nil=>rw[h2];rfl
    |cons y ps=>rw[h1,i5];rfl
  cases pm with
  |mv=>exact other h (λ_ e=>by cases e) (λ_ _=>rfl) rfl
  |af=>exact other h (λ_ e=>by cases e) (λ_ _=>rfl) rfl
  |j6 m=>exact other h (λ_ e=>by cases e) (λ_ _=>rfl) rfl
  | «mut» m=>
   simp only[dY,dL,jU] at h;obtain⟨rfl,rfl⟩:=h;refine⟨0,Ur,rfl,rfl,hc.1.1,λj x2 n2 hj=>?_,λps=>?_⟩
   ·cases j with
    |zero=>rfl
    |succ j=>
     exfalso;have hno:dY l=none:=by simpa using hc.1.2
     have:∀{l:List (AV×PM)} {i:Nat},l[i]?=some (x2,PM.mut n2)->dY l≠none:=by
      intro l;induction l with
      |nil=>intro i hi;simp at hi
      |cons p l ih=>
       intro i hi;obtain⟨y,pm⟩:=p;cases i with
       |zero=>simp only[zn,dL,jU] at hi;obtain⟨_,rfl⟩:=hi;simp[dY]
       |succ i=>have:=ih (by simpa using hi);cases pm<;>simp[dY]<;>first|exact this|skip
     exact this (by simpa using hj) hno
   ·cases ps<;>rfl
 |[],_::_,_,_,hc,_=>by cases hc
 |_::_,[],_,_,hc,_=>by cases hc
def LB(h:St c G zl s a w){l':List Operand}{as:List (AV×PM)}(hc:gW l' as=true){x:AV}{n:Nat}(oE:dY as=some (x,n)){f:FuncId}{fv:Option AV}(hop:tJ P c zl o a w l' f fv)(hn:∀n,o.dst=some n->n<c.nt)
  {ms:List C}{G1:Nat->C}{sm:ah}(hT:bM w zl c.zb G ms G1 sm)(g2:MV a l' as ms)(hmb:∀m∈ms,m.bare){r:Nat}{p:Path}{D y:C}(hsub:(G1 r).sub p=some D)(qh:y.ok w (Zf zl c.zb))(Fj:y.bare)(oH:∀(i:Nat) (x':Operand),as[i]?=some (x,PM.mut n)->l'[i]?=some x'->y.val=a.eval x')(KS:∀b k,y.fp b k->D.fp b k)
  (AG:rK (iW r p .dead sm) fv f){back:X->(ah->Prop)->Prop}(hk:AC P f (gD (iW r p .dead sm) y.er as (ms.map C.er)++oo (iW r p .dead sm) fv) λq ps=>back (kV as ps) λs'=>K (fX o.dst q s'))
  (ack:∀{w':World} {aD:Nat->Nat->Prop} {S M:Nat->Nat->Prop} {q:C},fe w w' zl aD c.zb G1 r p D y q S M->∀Kx,back q.er Kx->∃s',Kx s'/\∃G',Inv w' aD c.zb G' s'/\(∀t,(G' t).val=(G1 t).val)/\∀t b k,(G' t).fp b k->q.fp b k\/((∃u,(G1 u).fp b k)/\¬y.fp b k)):ry P c o a w K false:=by
 obtain⟨pU,hrun,acp⟩:=hop.run;have h1:=Ie h hT;obtain⟨D',G2,t1,t2,t3,t4,t5,t6,t7,t8,t9,t10,t11,t12⟩:=h1.inv.vC r p D hsub;have h2:St c G2 zl (iW r p .dead sm) a w:=h1.move t3 t10 (Ext.refl (λ_ _=>False) w) (λ_ _ hs=>hs.elim) (λt b k hf=>.inl ⟨t,t11 t b k hf⟩);have adl:∀b k,y.fp b k->∀t,¬(G2 t).fp b k:=λb k hf t=>t8 t b k ((t12 b k).2 (KS b k hf));have Fi:∀b k,y.fp b k->(G1 r).fp b k:=λb k hf=>C.gP p hsub (hT.inv.ok r) (KS b k hf);have jM:∀b k,c.zb b k->(c.zb b k\/∃t,(G2 t).fp b k):=λb k hz=>.inl hz;have su:∀t b k,(G2 t).fp b k->(c.zb b k\/∃t,(G2 t).fp b k):=λt b k hf=>.inr ⟨t,hf⟩;obtain⟨l,l1,l2,l3⟩:=acp (bG:=λb k=>c.zb b k\/∃t,(G2 t).fp b k) h2 jM su AG
 have RC:∀m b k,Zf zl c.zb m b k->Zf zl (λb k=>c.zb b k\/∃t,(G2 t).fp b k) m b k:=λm b k hz=>by
  cases m with
  |own=>exact hz
  |sl=>exact hz
  |af=>exact hz.imp id .inl
 obtain⟨i,x',i1,i2,i3,i4,i5⟩:=LA hc oE;have RL:=oH i x' i1 i2
 obtain⟨cs,c1,c2,c3,c4⟩:=D0 (bG:=λb k=>c.zb b k\/∃t,(G2 t).fp b k) h2 jM su (y:=y) (C.gM RC _ qh) Fj hc g2 (λx hx=>⟨C.gM RC _ (hT.all x hx).1,hmb x hx,λb k hf hf'=>(hT.all x hx).2.1 r b k hf (Fi b k hf')⟩) hT.apart (λj x2 n2 x2' hj hj'=>by
  have:=i4 j x2 n2 hj;subst this;rw[i2] at hj';injection hj' with hj'
  rw[<-hj'];exact RL)
 have cm:∀x∈cs++l,∀b k,x.fp b k->(∃m∈ms,m.fp b k)\/y.fp b k:=λx hx b k hf=>by
  rcases dK.1 hx with hx|hx;·exact((c3 x hx).2.2 b k hf).imp id λhh=>hh.2
  ·exact((l3 x hx).cZ b k hf).elim
 have kQ:∀b k,(∃m∈ms,m.fp b k)->(∀t,¬(G1 t).fp b k)/\¬zl b k/\¬c.zb b k:=λb k ⟨m,hm,hf⟩=>⟨λt=>(hT.all m hm).2.1 t b k hf,(hT.all m hm).2.2.1 b k hf⟩
 have hA:mW w zl (λb k=>c.zb b k\/∃t,(G2 t).fp b k) (cs++l):={
  ok:=λx hx=>(dK.1 hx).elim (λhx=>(c3 x hx).1) λhx=>(l3 x hx).ok
  bare:=λx hx=>(dK.1 hx).elim (λhx=>(c3 x hx).2.1) λhx=>(l3 x hx).bare
  fz:=λx hx b k hf=>by
   rcases cm x hx b k hf with hm|hy;·obtain⟨a1,a2,a3⟩:=kQ b k hm;exact⟨a2,λhz=>hz.elim a3 λ⟨t,ht⟩=>a1 t (t11 t b k ht)⟩
   ·have:=hT.inv.fz r b k (Fi b k hy);exact⟨this.1,λhz=>hz.elim this.2 λ⟨t,ht⟩=>adl b k hy t ht⟩
  cI:=λb k hz=>by
   rcases hz with hz|hz|⟨t,ht⟩;·exact hT.inv.cI b k (.inl hz)
   ·exact hT.inv.cI b k (.inr hz)
   ·exact C.fN _ (t3.ok t) b k ht
  apart:=vE.2 ⟨c4,rC λx hx=>(l3 x hx).cZ,λx _ y hy b k _ hf=>(l3 y hy).cZ b k hf⟩}
 have r7:=hk w zl _ (cs++l) (by rw[iK,c1,l1]) hA (h.J7 _ λb k hz=>.inl hz);have uq:(cs++l).map C.val=l'.map a.eval++pU:=by rw[iK,c2,l2]
 rw[uq] at r7;refine⟨f,_,hrun,r7.mono ?_⟩;rintro e w' ⟨r0,ps,aD,hD,hkk⟩;have AN:i<ps.length:=by have h1:=dA List.length hD.vals;have h2:=dA List.length uq;simp only[dV,fK] at h1 h2;have h3:=(aN.1 i2).1;omega
 have hq:ps[i]?=some ps[i]:=cj AN;have Ry:ps[i]∈ps:=cN AN
 have hqv:(ps[i]).val=y.val:=by
  have:(ps.map C.val)[i]?=(l'.map a.eval++pU)[i]?:=by rw[hD.vals,uq]
  rw[de,hq,mT (by simpa using (aN.1 i2).1),de,i2] at this;simp only[cx,dL] at this;rw[this,RL]
 have hmp:kV as (ps.map C.er)=(ps[i]).er:=by rw[i5];exact p6 (by rw[de,hq];rfl) _
 rw[hmp] at hkk;have Fe:=cE r0 Ry
 have Q6:fe w w' zl aD c.zb G1 r p D y ps[i] (λb k=>∃x∈cs++l,x.fp b k) (λb k=>∃m∈ms,m.fp b k):={
  sub:=hsub
  yD:=KS
  ext:=hD.ext
  sx:=λb k ⟨x,hx,hf⟩=>cm x hx b k hf
  xF:=kQ
  Gk:=C.gM (λm b k hz=>by
   cases m with
   |own=>exact hz
   |sl=>exact hz
   |af=>exact hz.imp id λh=>h.elim) _ (hD.all.ok _ Fe)
  bare:=hD.all.bare _ Fe
  val:=hqv
  fp:=λb k hf=>hD.dom _ Fe b k hf
  qz:=λb k hf=>(hD.all.fz _ Fe b k hf).1
  z1:=hD.tH
  z2:=hD.tI
  cI:=λb k hz=>hD.all.cI b k (.inl hz)}
 obtain⟨s',hKs,G',j1,j2,j3⟩:=ack Q6 _ hkk;have jL:∀b k,(∃m∈ms,m.fp b k)->∃t,(G t).fp b k:=λb k ⟨m,hm,hf⟩=>(hT.all m hm).2.2.2 b k hf
 have rY:∀b k,(∃x∈cs++l,x.fp b k)->∃t,(G t).fp b k:=λb k ⟨x,hx,hf⟩=>by
  rcases cm x hx b k hf with hm|hy;·exact jL b k hm
  ·exact⟨r,hT.mono r b k (Fi b k hy)⟩
 have h3:St c G' aD s' a w':=h.after j1 (λt=>(j2 t).trans (hT.val t)) hD.ext rY (λt b k hf=>by
   rcases j3 t b k hf with hq|⟨⟨u,hu⟩,_⟩;·exact(Q6.fp b k hq).imp (rY b k) id
   ·exact .inl ⟨u,hT.mono u b k hu⟩) hD.tH (λb k hz=>(hD.tI b k hz).imp id λhh=>hh.imp (rY b k) id)
 have hrm:=bE (a:=r0) (l:=ps)
 obtain⟨G3,h4⟩:=h3.result (x:=r0) o.dst hn (hD.all.ok r0 hrm) (hD.all.bare r0 hrm) (λt b k hf hf'=>by
   rcases j3 t b k hf' with hq|⟨⟨u,hu⟩,hny⟩;·exact(eZ.1 hD.all.apart).1 _ Ry b k hf hq
   ·rcases hD.dom r0 hrm b k hf with ⟨x,hx,hf⟩|hb
    ·rcases cm x hx b k hf with hm|hy;·exact(kQ b k hm).1 u hu
     ·exact hny hy
    ·have:=C.fN _ (hT.inv.ok u) b k hu;omega) (λb k hf=>⟨(hD.all.fz r0 hrm b k hf).1,λhz=>by
   rcases hD.dom r0 hrm b k hf with ⟨x,hx,hf⟩|hb
   ·rcases cm x hx b k hf with hm|hy;·exact(kQ b k hm).2.2 hz
    ·exact(hT.inv.fz r b k (Fi b k hy)).2 hz
   ·have:=hT.inv.cI b k (.inr hz);omega⟩) (λb k hf=>by
   rcases hD.dom r0 hrm b k hf with hs|hb;·obtain⟨t,ht⟩:=rY b k hs;exact h.tr.dom t b k ht
   ·exact .inr (iZ h.tr.ext.size hb))
 exact⟨r0.val,hD.ends,(λh=>by cases h),G3,aD,_,hKs,h4⟩
end
end M
namespace M
open Go Go.RowKit
variable [Bs]
section
variable {P:Program}{c:Ctx}{G:Nat->C}{zl:Nat->Nat->Prop}{s:ah}{a:Act}{w:World}{o:Oper}{K:ah->Prop}
def JP{x:C}{m:Md}{xs:List X}(h:x.er=.ptr m xs):∃g o n f,x=.ptr m g o n f/\xs=(List.range n).map λj=>(f j).er:=by
 cases x with
 |ptr m' g o n f=>
  simp only[C.er] at h;injection h with h1 h2
  subst h1;exact⟨g,o,n,f,rfl,h2.symm⟩
 |_=>simp[C.er] at h
def agl{m m':Md}{z z' len len' cap cap':Nat}{A A':Option Ad}{e e':Nat->Nat->C}(h:(C.row m z A len cap e).val=(C.row m' z' A' len' cap' e').val):A=A'/\len=len'/\cap=cap':=by
 simp only[C.val] at h;injection h with h1 h2 h3
 refine⟨?_,h2,h3⟩;cases A with
 |none=>cases A' with
  |none=>rfl
  |some q=>simp at h1
 |some q=>cases A' with
  |none=>simp at h1
  |some q'=>
   simp only[cx,dL,Addr.mk.injEq,tC] at h1
   rw[show q=q' from Prod.ext h1.1 (Prod.ext h1.2.1 h1.2.2)]
def SW(n:Nat)(f:Nat->C){k sz:Nat}(h:k+sz<=n):((List.range sz).map λj=>(f (j+k)).er)=(((List.range n).map λj=>(f j).er).drop k).take sz:=by rw[<-mU,oQ,<-pz,<-pz,vG,n7 (by omega),cP];rfl
def Pk(h:St c G zl s a w){l':List Operand}{as:List (AV×PM)}(hc:gW l' as=true){x:AV}{n:Nat}(oE:dY as=some (x,n)){f:FuncId}{fv:Option AV}(hop:tJ P c zl o a w l' f fv)(hn:∀n,o.dst=some n->n<c.nt)(hK:tU P f o.dst as fv s K):ry P c o a w K false:=by
 obtain⟨k1,k2⟩:=hK;rw[oE] at k2;simp only at k2;obtain⟨ms,G1,g1,g2,hT⟩:=Ga hc h;have h1:=Ie h hT;rw[<-g1] at k1 k2;have hmb:∀m∈ms,m.bare:=λm hm=>(C.l6 m).1 (C.vS.1 k1 _ (kA hm));obtain⟨i,x',i1,i2,i3,i4,i5⟩:=LA hc oE;obtain⟨u,u1,u2,u3⟩:=cA h1 i3;rw[<-u1] at k2
 have hval:∀y:C,y.val=u.val->∀(j:Nat) (x2:Operand),as[j]?=some (x,PM.mut n)->l'[j]?=some x2->y.val=a.eval x2:=λy hy j x2 hj hj'=>by
  have:=i4 j x n hj;subst this;rw[i2] at hj';injection hj' with hj'
  rw[hy,u2,hj']
 cases u with
 |ref v r p=>
  obtain⟨y',z',hs,hF,hv,m,z1,A,len,cap,e,rfl⟩:=u3.rf;cases hF with
  |row m m' sz' A len cap e e'=>
   simp only[C.er,placeOf,xy] at k2;split at k2
   ·rename_i z xs hlk;obtain⟨k2,k3,k4⟩:=k2;simp only[look] at hlk;rw[<-h1.inv.er,C.gO,hs] at hlk;simp only[cx,dL] at hlk;obtain⟨A2,am3,cap2,e2,he,rfl⟩:=Al hlk;injection he with b1 b2 b3 b4 b5 b6
    subst b1;subst b2;subst b3;subst b4;subst b5;subst b6;have hok:=C.iu p hs (h1.inv.ok r)
    refine LB h hc oE hop hn hT g2 hmb hs (y:=.row .own z1 A len cap e') (back:=λy Kx=>match y with
     |.row .own z' ys=>z'=z1/\Kx (iH r p (.row .own z1 ys) (bZ as s).2)
     |_=>False) hok trivial (hval _ hv) (λb k hf=>hf) k3 (by rw[hlk];exact k4) λ{w' aD S M q} hM Kx hb=>?_
    split at hb;·rename_i z' ys hq;obtain⟨rfl,hb⟩:=hb;obtain⟨A3,am4,ak3,e3,rfl,rfl⟩:=Al hq;obtain⟨c1,c2,c3⟩:=agl hM.val;subst c1;subst c2;subst c3;obtain⟨G',j1,j2,j3⟩:=hM.row h1.inv;exact⟨_,hb,G',j1,j2,j3⟩
    ·exact hb.elim
   ·exact k2.elim
 |aB v r p i k=>
  obtain⟨D,hs,hp⟩:=u3.rf;have hok:=C.iu p hs (h1.inv.ok r);simp only[C.er,placeOf,xy] at k2;have hlk:look (bZ as s).2 r p=some D.er:=by simp only[look];rw[<-h1.inv.er,C.gO,hs];rfl
  rw[hlk] at k2;rcases hp with ⟨m,z,g,o',len,cap,e,rfl,rfl⟩|⟨m,g,o',nn,f',rfl,rfl,rfl⟩
  ·simp only[C.er] at k2;cases m with
   |own=>
    simp only[C.dm] at k2;split at k2
    ·rename_i e0 lG;split at lG
     ·rename_i hi;injection lG with lG
      obtain⟨k0,k2,k3,k4⟩:=k2;have hkn:k+n<=z:=by rw[<-lG] at k0;simpa using k0
      obtain⟨D1,D2,D3,D4,D5⟩:=hok;have A7:(C.ptr .own g (o'+i*z+k) n λj=>e i (j+k)).er=.ptr .own ((e0.drop k).take n):=by rw[<-lG,<-SW z (λj=>e i j) hkn];rfl
      have hfr:∀j,j<z->w.frozen? ⟨g,o'+i*z+j,none⟩=false/\g<w.heap.size:=λj hj=>by
       rcases D4 rfl with ⟨hA,_⟩|⟨g',o2,arr,t,fz,hA,hh,hsz,hfr⟩;·cases hA
       ·injection hA with hA
        injection hA with e1 e2
        injection e2 with e2
        subst e1;subst e2;refine⟨hfr _ (by omega) ?_,(gR.1 hh).1⟩;have:(i+1)*z<=cap*z:=n8 _ (by omega);rw[fI] at this;omega
      have jm:g<w.heap.size:=by
       rcases D4 rfl with ⟨hA,_⟩|⟨g',o2,arr,t,fz,hA,hh,hsz,hfr⟩;·cases hA
       ·injection hA with hA
        injection hA with e1 e2
        subst e1;exact(gR.1 hh).1
      have qh:(C.ptr .own g (o'+i*z+k) n λj=>e i (j+k)).ok w (Zf zl c.zb):=by
       refine⟨λj hj=>⟨?_,λhm=>(hm rfl).elim,λ_=>?_⟩,jm,λj hj=>?_,λj hj b k' hf=>⟨λ_ hb=>?_,λj' hj' hne=>?_⟩⟩
       ·obtain⟨g',o2,hA,hcl,_⟩:=D2 i (j+k) hi (by omega);injection hA with hA
        injection hA with e1 e2
        injection e2 with e2
        subst e1;subst e2;rw[show o'+i*z+k+j=o'+i*z+(j+k) by omega];exact hcl
       ·rw[show o'+i*z+k+j=o'+i*z+(j+k) by omega];exact(hfr (j+k) (by omega)).1
       ·obtain⟨a1,a2,a3,a4⟩:=D3 i (j+k) hi (by omega);exact⟨a1,a3,a4⟩
       ·exact(D5 i (j+k) hi (by omega) b k' hf).1 rfl o' (by rw[hb.1])
       ·exact(D5 i (j+k) hi (by omega) b k' hf).2 i (j'+k) hi (by omega) (λe=>by simp only[jU] at e;omega)
      refine LB h hc oE hop hn hT g2 hmb hs (back:=λy Kx=>match y with
       |.ptr .own ys=>ys.length=n/\iq ys=true/\Kx (iH r p (.row .own z ((dN z len e).set i (e0.take k++ys++e0.drop (k+n)))) (bZ as s).2)
       |_=>False) qh ((C.l6 _).1 (by rw[A7];exact k2)) (hval _ rfl) (λb k' hf=>?_) k3 (by rw[A7];exact k4) λ{w' aD S M q} hM Kx hb=>?_
      ·obtain⟨_,hf|⟨j,hj,hf⟩⟩:=hf;·exact⟨rfl,.inl ⟨o',by rw[hf.1]⟩⟩
       ·exact⟨rfl,.inr ⟨i,j+k,hi,by omega,hf⟩⟩
      ·split at hb
       ·rename_i ys hq;obtain⟨fT,gm,oC⟩:=hb;obtain⟨g3,o3,n3,f3,rfl,rfl⟩:=JP hq;have lK:=hM.val;simp only[C.val] at lK;injection lK with lK
        injection lK with lK
        injection lK with c1 c2 c3
        subst c1;subst c2;have wN:n3=n:=by simpa using fT
        subst wN;obtain⟨G',j1,j2,j3⟩:=hM.elem h1.inv hi hkn (λj hj=>TI (HS gm _ (aT.2 ⟨j,by simpa using hj,rfl⟩)));rw[lG] at j1;exact⟨_,oC,G',j1,j2,j3⟩
       ·exact hb.elim
     ·cases lG
    ·exact k2.elim
   |sl=>exact k2.elim
   |af=>exact k2.elim
  ·simp only[C.er] at k2;cases m with
   |own=>
    obtain⟨k0,k2,k3,k4⟩:=k2;have hkn:k+n<=nn:=by simpa using k0
    obtain⟨D1,D2,D3,D4⟩:=hok;have A7:(C.ptr .own g (o'+k) n λj=>f' (j+k)).er=.ptr .own ((((List.range nn).map λj=>(f' j).er).drop k).take n):=by rw[<-SW nn f' hkn];rfl
    have qh:(C.ptr .own g (o'+k) n λj=>f' (j+k)).ok w (Zf zl c.zb):=by
     refine⟨λj hj=>⟨?_,λhm=>(hm rfl).elim,λ_=>?_⟩,D2,λj hj=>D3 (j+k) (by omega),λj hj b k' hf=>⟨λ_ hb=>?_,λj' hj' hne=>?_⟩⟩;·rw[show o'+k+j=o'+(j+k) by omega];exact(D1 (j+k) (by omega)).1
     ·rw[show o'+k+j=o'+(j+k) by omega];exact(D1 (j+k) (by omega)).2.2 rfl
     ·exact(D4 (j+k) (by omega) b k' hf).1 rfl ⟨hb.1,by omega,by omega⟩
     ·exact(D4 (j+k) (by omega) b k' hf).2 (j'+k) (by omega) (by omega)
    refine LB h hc oE hop hn hT g2 hmb hs (back:=λy Kx=>match y with
     |.ptr .own ys=>ys.length=n/\Kx (iH r p (.ptr .own (((List.range nn).map λj=>(f' j).er).take k++ys++((List.range nn).map λj=>(f' j).er).drop (k+n))) (bZ as s).2)
     |_=>False) qh ((C.l6 _).1 (by rw[A7];exact k2)) (hval _ rfl) (λb k' hf=>?_) k3 (by rw[A7];exact k4) λ{w' aD S M q} hM Kx hb=>?_
    ·obtain⟨_,hf|⟨j,hj,hf⟩⟩:=hf;·exact⟨rfl,.inl ⟨hf.1,by omega,by omega⟩⟩
     ·exact⟨rfl,.inr ⟨j+k,by omega,hf⟩⟩
    ·split at hb
     ·rename_i ys hq;obtain⟨fT,oC⟩:=hb;obtain⟨g3,o3,n3,f3,rfl,rfl⟩:=JP hq;have lK:=hM.val;simp only[C.val] at lK;injection lK with lK
      injection lK with lK
      injection lK with c1 c2 c3
      subst c1;subst c2;have wN:n3=n:=by simpa using fT
      subst wN;obtain⟨G',j1,j2,j3⟩:=hM.ptr h1.inv hkn;exact⟨_,oC,G',j1,j2,j3⟩
     ·exact hb.elim
   |sl=>exact k2.elim
   |af=>exact k2.elim
 |_=>exact k2.elim
def JZ{f:FuncId}(h:az P f=true):∃fn,P.funcs[f]?=some fn/\(fn.name== "runtime.NumGoroutine")=false/\fn.body.isNone=false:=by
 unfold az at h;split at h;·rename_i fn hf;simp only[av,n9] at h;exact⟨fn,hf,h.1,h.2⟩
 ·cases h
def afk(h:St c G zl s a w){f:FuncId}{fn:Func}{as':Array Operand}{as:List (AV×PM)}{ts:Array TypeId}(ho:o.op=.call {callee:=.value (.func f),args:=as',argTypes:=ts})(hf:P.funcs[f]?=some fn)(hname:(fn.name== "runtime.NumGoroutine")=false) (hb:fn.body.isNone=false)
  (hn:∀n,o.dst=some n->n<c.nt) (hc:gW as'.toList as=true) (hK:aM P (.call o.dst f as) s K):ry P c o a w K (jw as):=by
 have hop:tJ P c zl o a w as'.toList f none:=⟨[],by simp only[execOp,ho,resolve,Act.eval,Deferred.ofValue,Sem.run_bind,Sem.run_pure,Result.andThen_ok,invoke,L7 hf hname hb];congr 2;apply pq;simp,λ_ _ _ _=>⟨[],rfl,rfl,λ_ hx=>(by cases hx)⟩⟩
 cases hm:dY as with
 |none=>exact Pm _ h hc hm hop (λh=>h) hn hK
 |some q=>
  have hq:jw as=false:=by
   cases hq:jw as with
   |false=>rfl
   |true=>rw[xA hq] at hm;cases hm
  rw[hq];exact Pk h hc hm hop hn hK
def afm(h:St c G zl s a w){x:AV}{x':Operand}{as':Array Operand}{as:List (AV×PM)}{ts:Array TypeId}(ho:o.op=.call {callee:=.value x',args:=as',argTypes:=ts})(hx:aK x' x=true)
  (hn:∀n,o.dst=some n->n<c.nt)(hc:gW as'.toList as=true)(hK:aM P (.om o.dst x as) s K):ry P c o a w K (jw as):=by
 simp only[aM] at hK;split at hK
 ·rename_i f cs he;obtain⟨hf,hK⟩:=hK;obtain⟨fn,hf1,ic,hf3⟩:=JZ hf;obtain⟨p,p1,p2,p3⟩:=cA h hx;rw[he] at p1;cases p with
  |fn g n fc=>
   simp only[C.er,X.fn.injEq] at p1;obtain⟨rfl,p1⟩:=p1
   have hop:tJ P c zl o a w as'.toList g (some x):=⟨(List.range n).map λj=>(fc j).val,by
    simp only[execOp,ho,resolve,<-p2,C.val,Deferred.ofValue,Sem.run_bind,Sem.run_pure,Result.andThen_ok,invoke,L7 hf1 ic hf3];congr 2;apply pq;simp,λ{G2 s2 bG} h2 hb hG hi=>by
    simp only[rK] at hi;split at hi;·rename_i g' cs' he';subst hi;obtain⟨l,l1,l2,l3⟩:=Yd h2 hb hG hx he';refine⟨l,l1,?_,l3⟩;rw[<-p2] at l2;simp only[C.val,Value.func.injEq,tD] at l2;exact(Array.mk.injEq _ _▸l2:_).symm
    ·exact hi.elim⟩
   cases hm:dY as with
   |none=>exact Pm _ h hc hm hop (λh=>h) hn hK
   |some q=>
    have hq:jw as=false:=by
     cases hq:jw as with
     |false=>rfl
     |true=>rw[xA hq] at hm;cases hm
    rw[hq];exact Pk h hc hm hop hn hK
  |_=>simp[C.er] at p1
 ·exact hK.elim
end
end M
namespace M
open Go Go.RowKit
variable [Bs]
section
variable {P:Program}{c:Ctx}{G:Nat->C}{zl:Nat->Nat->Prop}{s:ah}{a:Act}{w:World}{o:Oper}{K:ah->Prop}
def agK{x:C}(hc:x.cell)(hs:M.cT x.er=true):x.plain:=by cases x<;>first|trivial|exact hc|(simp[C.er,M.cT] at hs)
def afQ{x:C}(h:x.plain):x.bare:=by cases x<;>first|trivial|exact h.elim
def agI{l:List X}(h:iq l=true):∀x∈l,M.cT x=true:=by
 induction l with
 |nil=>intro x hx;cases hx
 |cons a l ih=>
  simp only[iq,av] at h;intro x hx;rcases ct.1 hx with rfl|hx;·exact h.1
  ·exact ih h.2 x hx
def IX:∀{l':List Operand} {l:List (AV×PM)},gW l' l=true->jw l=true->MV a l' l (l.map λ_=>.dead undef)
 |[],[],_,_=>trivial
 |x'::l',(x,.af)::l,hc,hq=>IX (l':=l') (l:=l) (by simp only[gW,av] at hc;exact hc.2) hq
 |x'::l',(x,.j6 n)::l,hc,hq=>IX (l':=l') (l:=l) (by simp only[gW,av] at hc;exact hc.2) hq
 |x'::l',(x,.mv)::l,hc,hq=>by cases hq
 |x'::l',(x,.mut _)::l,hc,hq=>by cases hq
 |[],_::_,hc,_=>by cases hc
 |_::_,[],hc,_=>by cases hc
def Yc(h:St c G zl s a w){x':Operand}{l':List Operand}{x:AV}{as:List (AV×PM)}(hx:aK x' x=true)(hc:gW l' as=true)(hq:jw as=true){f:FuncId}(hop:tJ P c zl o a w (x'::l') f none)(hn:∀n,o.dst=some n->n<c.nt)(hK:aM P (.rI o.dst f x as) s K):ry P c o a w K false:=by
 obtain⟨p,p1,p2,p3⟩:=cA h hx;simp only[aM] at hK;rw[<-p1] at hK;cases p with
 |agg n f0=>
  have per:(C.agg n f0).er=.agg (((List.range n).map f0).map C.er):=by simp only[C.er,cP];rfl
  rw[per] at hK;simp only at hK;obtain⟨k1,k3⟩:=hK
  have hcells:∀c'∈(List.range n).map f0,zy w zl c.zb G c':=λc' kg=>by
   obtain⟨j,hj,rfl⟩:=aT.1 kg;have hj':j<n:=by simpa using hj
   exact⟨(p3.ok.1 j hj').1,(p3.ok.1 j hj').2,λb k hf=>p3.cZ b k ⟨j,hj',hf⟩,λv r p e=>Dn (by rw[<-e];exact p3.rf j hj')⟩
  obtain⟨l0,G1,e1,e2,e3,e4,e5⟩:=Dj _ G s h.inv hcells;obtain⟨pU,hrun,AG⟩:=hop.run;have h1:=Ie h e4;rw[<-e1] at k1 k3;have jM:∀b k,c.zb b k->(c.zb b k\/∃t,(G1 t).fp b k):=λb k hz=>.inl hz;have su:∀t b k,(G1 t).fp b k->(c.zb b k\/∃t,(G1 t).fp b k):=λt b k hf=>.inr ⟨t,hf⟩;obtain⟨l,q1,q2,q3⟩:=AG h1 jM su trivial;have hl0:l=[]:=by simpa [oo] using q1
  subst hl0;have hcap:pU=[]:=by simpa using q2.symm
  subst hcap
  obtain⟨Aa,r1,r2,r3,r4⟩:=D0 h1 jM su (y:=.dead undef) trivial trivial hc (IX hc hq) (λx hx=>by
   obtain⟨_,_,rfl⟩:=aT.1 hx;exact⟨trivial,trivial,λb k hf=>hf.elim⟩) (rC λx hx=>by
   obtain⟨_,_,rfl⟩:=aT.1 hx
   exact λb k hf=>hf) (λi x n x' hi _=>by
    exfalso;have hno:=xA hq
    have:∀{l:List (AV×PM)} {i:Nat},l[i]?=some (x,PM.mut n)->dY l≠none:=by
     intro l;induction l with
     |nil=>intro i hi;simp at hi
     |cons y l ih=>
      intro i hi;obtain⟨y,pm⟩:=y;cases i with
      |zero=>simp only[zn,dL,jU] at hi;obtain⟨_,rfl⟩:=hi;simp[dY]
      |succ i=>have:=ih (by simpa using hi);cases pm<;>simp[dY]<;>first|exact this|skip
    exact this hi hno)
  have E9:∀x∈Aa,∀b k,¬x.fp b k:=λx hx b k hf=>by
   rcases(r3 x hx).2.2 b k hf with ⟨m,hm,hh⟩|⟨hh,_⟩;·obtain⟨_,_,rfl⟩:=aT.1 hm;exact hh
   ·rw[xA hq] at hh;cases hh
  have oG:l0.length=n:=by have:=dA List.length e2;simpa using this
  have RJ:∀b k,(gT l0).fp b k->∃m∈l0,m.fp b k:=λb k hf=>(rB _ _ _).1 hf
  have hpl:∀x∈l0,x.ok w (Zf zl λb k=>c.zb b k\/∃t,(G1 t).fp b k):=λx hx=>C.gM (λm b k hz=>by
   cases m with
   |own=>exact hz
   |sl=>exact hz
   |af=>exact hz.imp id .inl) _ (e4.all x hx).1
  have hA:mW w zl (λb k=>c.zb b k\/∃t,(G1 t).fp b k) (gT l0::Aa):={
   ok:=λx hx=>by
    rcases ct.1 hx with rfl|hx;·exact⟨λj hj=>⟨C.lS (e3 _ (cW hj _)),hpl _ (cW hj _)⟩,λj hj b k hf j' hj' hne=>xG e4.apart _ hj hj' hne hf⟩
    ·exact(r3 x hx).1
   bare:=λx hx=>by
    rcases ct.1 hx with rfl|hx;·exact λj hj=>afQ (e3 _ (cW hj (C.dead undef)))
    ·exact(r3 x hx).2.1
   fz:=λx hx b k hf=>by
    rcases ct.1 hx with rfl|hx;·obtain⟨m,hm,hf⟩:=RJ b k hf;exact⟨((e4.all m hm).2.2.1 b k hf).1,λhz=>hz.elim ((e4.all m hm).2.2.1 b k hf).2 λ⟨t,ht⟩=>(e4.all m hm).2.1 t b k hf ht⟩
    ·exact(E9 x hx b k hf).elim
   cI:=λb k hz=>by
    rcases hz with hz|hz|⟨t,ht⟩;·exact e4.inv.cI b k (.inl hz)
    ·exact e4.inv.cI b k (.inr hz)
    ·exact C.fN _ (e4.inv.ok t) b k ht
   apart:=eZ.2 ⟨λx hx b k _ hf=>E9 x hx b k hf,rC E9⟩}
  have r7:=k3 w zl _ (gT l0::Aa) (by rw[bg,r1,vP];simp only[cP];rfl) hA (h1.J7 _ λb k hz=>.inl hz)
  have RM:(gT l0).val=a.eval x':=by rw[zE,e2,<-p2];simp only[C.val,cP];rfl
  have uq:(gT l0::Aa).map C.val=(x'::l').map a.eval++[]:=by rw[bg,RM,r2];simp
  rw[uq] at r7;refine⟨f,_,hrun,r7.mono ?_⟩;rintro e w' ⟨r,ps,aD,hD,hk⟩;have hin:∀b k,aD b k->b<w'.heap.size:=λb k hz=>hD.all.cI b k (.inl hz);have kQ:∀b k,(∃m∈l0,m.fp b k)->(∀t,¬(G1 t).fp b k)/\¬zl b k/\¬c.zb b k:=λb k ⟨m,hm,hf⟩=>⟨λt=>(e4.all m hm).2.1 t b k hf,(e4.all m hm).2.2.1 b k hf⟩
  have lD:∀b k,(∃x∈gT l0::Aa,x.fp b k)->∃m∈l0,m.fp b k:=λb k ⟨x,hx,hf⟩=>by
   rcases ct.1 hx with rfl|hx;·exact RJ b k hf
   ·exact(E9 x hx b k hf).elim
  have A9:∀b k,aD b k->zl b k\/(∃m∈l0,m.fp b k)\/w.heap.size<=b:=λb k hz=>(hD.tI b k hz).imp id λhh=>hh.imp (lD b k) id
  have hi:=e4.inv.OE hD.ext (λb k hs=>kQ b k (lD b k hs)) hD.tH (λb k hz=>⟨hin b k hz,λt hf=>by
   rcases A9 b k hz with hz|hm|hb;·exact(e4.inv.fz t b k hf).1 hz
   ·exact(kQ b k hm).1 t hf
   ·have:=C.fN _ (e4.inv.ok t) b k hf;omega⟩)
  have jL:∀b k,(∃m∈l0,m.fp b k)->∃t,(G t).fp b k:=λb k ⟨m,hm,hf⟩=>(e4.all m hm).2.2.2 b k hf;have Fb:∀x∈r::ps,∀b k,x.fp b k->(∃m∈l0,m.fp b k)\/w.heap.size<=b:=λx hx b k hf=>(hD.dom x hx b k hf).imp (lD b k) id
  have Ru:∀x∈r::ps,∀t b k,x.fp b k->¬(G1 t).fp b k:=λx hx t b k hf hf'=>by
   rcases Fb x hx b k hf with hm|hb;·exact(kQ b k hm).1 t hf'
   ·have:=C.fN _ (e4.inv.ok t) b k hf';omega
  have Rw:∀x∈r::ps,∀b k,x.fp b k->¬aD b k/\¬c.zb b k:=λx hx b k hf=>⟨(hD.all.fz x hx b k hf).1,λhz=>by
   rcases Fb x hx b k hf with hm|hb;·exact(kQ b k hm).2.2 hz
   ·have:=e4.inv.cI b k (.inr hz);omega⟩
  cases ps with
  |nil=>exact hk.elim
  |cons p0 ps=>
   cases p0 with
   |agg n0 g0=>
    simp only[bg,C.er] at hk;obtain⟨j1,s',j2,j3⟩:=hk;have AQ:(C.agg n0 g0)∈r::C.agg n0 g0::ps:=cE _ (bE ..);have hv0:(C.agg n0 g0).val=(C.agg n f0).val:=by have:=dA List.head? hD.vals;simp only[bg,List.head?_cons,dL] at this;rw[this,RM,p2]
    simp only[C.val,Value.agg.injEq,Array.mk.injEq,List.toArray_inj] at hv0;have gp:n0=n:=by have:=dA List.length hv0;simpa using this
    subst gp;have KI:=hD.all.ok _ AQ;have E6:∀y∈(List.range n0).map g0,∀b k,y.fp b k->(C.agg n0 g0).fp b k:=λy hy b k hf=>by obtain⟨j,hj,rfl⟩:=aT.1 hy;exact⟨j,by simpa using hj,hf⟩
    rw[show ((List.range n0).map λj=>(g0 j).er)=((List.range n0).map g0).map C.er by simp only[cP];rfl] at j1 j2
    obtain⟨G2,g1,g2,g3⟩:=D8 ((List.range n0).map f0) ((List.range n0).map g0) hi (by simp) (λv r p hm=>e5 v r p ((hcells _ hm).weak v r p rfl)) (λi cc y hi1 hi2=>by
     have hy:y∈(List.range n0).map g0:=lY hi2;obtain⟨j,hj,rfl⟩:=aT.1 hy;have hj':j<n0:=by simpa using hj
     refine⟨agK (KI.1 j hj').1 (agI j1 _ (kA hy)),?_,C.gM (λm b k hz=>by
      cases m with
      |own=>exact hz
      |sl=>exact hz
      |af=>exact hz.imp id λh=>h.elim) _ (KI.1 j hj').2⟩
     have:=dA (λt:List Value=>t[i]?) hv0;rw[show ((List.range n0).map λj=>(g0 j).val)=((List.range n0).map g0).map C.val by simp only[cP];rfl,show ((List.range n0).map λj=>(f0 j).val)=((List.range n0).map f0).map C.val by simp only[cP];rfl,de (l:=(List.range n0).map g0),de (l:=(List.range n0).map f0),hi1,hi2] at this;simpa using this) (λy hy=>⟨λt b k hf=>Ru _ AQ t b k (E6 y hy b k hf),λb k hf=>Rw _ AQ b k (E6 y hy b k hf)⟩) (by
     rw[DB];refine IL ?_ List.nodup_range;intro i j hi hj hne b k hf;exact KI.2 i (by simpa using hi) b k hf j (by simpa using hj) hne) j2
    have A6:∀b k,(∃y∈(List.range n0).map g0,y.fp b k)->(∃m∈l0,m.fp b k)\/w.heap.size<=b:=λb k ⟨y,hy,hf⟩=>Fb _ AQ b k (E6 y hy b k hf)
    have h2:St c G2 aD s' a w':=h.after g1 (λt=>(g2 t).trans (e4.val t)) hD.ext (λb k hs=>jL b k (lD b k hs)) (λt b k hf=>by
     rcases g3 t b k hf with hh|hh;·exact .inl ⟨t,e4.mono t b k hh⟩
     ·exact(A6 b k hh).imp (jL b k) id) hD.tH (λb k hz=>(A9 b k hz).imp id λhh=>hh.imp (jL b k) id)
    have hr:r∈r::C.agg n0 g0::ps:=bE ..
    obtain⟨G3,h3⟩:=h2.result (x:=r) o.dst hn (hD.all.ok r hr) (hD.all.bare r hr) (λt b k hf hf'=>by
      rcases g3 t b k hf' with hh|⟨y,hy,hh⟩;·exact Ru r hr t b k hf hh
      ·exact(eZ.1 hD.all.apart).1 _ (bE ..) b k hf (E6 y hy b k hh)) (Rw r hr) (λb k hf=>by
      rcases Fb r hr b k hf with hm|hb;·obtain⟨t,ht⟩:=jL b k hm;exact h.tr.dom t b k ht
      ·exact .inr (iZ h.tr.ext.size hb))
    exact⟨r.val,hD.ends,λKL=>by (cases KL),G3,aD,_,j3,h3⟩
   |_=>exact hk.elim
 |_=>exact hK.elim
def afl(h:St c G zl s a w){f:FuncId}{fn:Func}{as':Array Operand}{x:AV}{x':Operand}{l':List Operand}{as:List (AV×PM)}{ts:Array TypeId}(ho:o.op=.call {callee:=.value (.func f),args:=as',argTypes:=ts})(hl:as'.toList=x'::l')(hf:P.funcs[f]?=some fn)(hname:(fn.name== "runtime.NumGoroutine")=false) (hb:fn.body.isNone=false)
  (hn:∀n,o.dst=some n->n<c.nt) (hx:aK x' x=true) (hc:gW l' as=true) (hq:jw as=true) (hK:aM P (.rI o.dst f x as) s K):ry P c o a w K false:=by
 have hop:tJ P c zl o a w (x'::l') f none:=⟨[],by simp only[execOp,ho,resolve,Act.eval,Deferred.ofValue,Sem.run_bind,Sem.run_pure,Result.andThen_ok,invoke,L7 hf hname hb];rw[<-hl];congr 2;apply pq;simp,λ_ _ _ _=>⟨[],rfl,rfl,λ_ hx=>(by cases hx)⟩⟩
 exact Yc h hx hc hq hop hn hK
end
end M
namespace M
open Go Go.RowKit
variable [Bs]
section
variable {P:Program}{ops:Array Oper}{Q:Exit->Act->World->Prop}
def wpAnyQ(P:Program)(ops:Array Oper)(quiet:Nat->Bool)(Q:Exit->Act->World->Prop):Nat->Array Bool->Act->World->Prop
 |0,listed,a,w=>Region.ready .any ops listed=[]/\Q .normal a w
 |fuel+1,listed,a,w=>(Region.ready .any ops listed=[]->Q .normal a w)/\
  ∀i∈Region.ready .any ops listed,wpOp P ops Q i (λa' w'=>Rel (quiet i) w w'/\wpAnyQ P ops quiet Q fuel (listed.setIfInBounds i true) a' w') a w
def wpAnyQ.any{quiet:Nat->Bool}:∀{fuel:Nat} {listed:Array Bool} {a:Act} {w:World},wpAnyQ P ops quiet Q fuel listed a w->wpAny P .any ops Q fuel listed a w
 |0,_,_,_,h=>h
 |fuel+1,_,_,_,h=>⟨h.1,λi hi=>wpOp_mono (λ_ _ h=>h.2.any) (h.2 i hi)⟩
def og(P:Program)(ops:Array Oper)(o:Oper)(v:Value)(a:Act)(w:World):Prop:=
 (Region.wanted o (yielded ops a.tmps)=true/\∀w',Ext (λ_ _=>False) w w'->(execOp a.eval o).run P w'=.ok (.value v) w')\/
 (Region.wanted o (yielded ops a.tmps)=false/\v=undef)
def og.wpOp{i:Nat}{o:Oper}{v:Value}{a:Act}{w:World}(hi:ops[i]?=some o)(hy:og P ops o v a w){K:Act->World->Prop}(h:K (a.put o.dst v) w):wpOp P ops Q i K a w:=by
 unfold Go.wpOp;simp only[hi];rcases hy with ⟨hw,hv⟩|⟨hw,rfl⟩;·simp only[hw,dB,Oper.wp,hv w (Ext.refl _ _),Oper.upon];exact .inl h
 ·simp only[hw,fJ,eL];exact h
def ru(P:Program)(ops:Array Oper)(o:Oper)(v:Value)(a:Act):Prop:=
 (Region.wanted o (yielded ops a.tmps)=true/\∀w',(execOp a.eval o).run P w'=.ok (.value v) w')\/
 (Region.wanted o (yielded ops a.tmps)=false/\v=undef)
def ru.later{o:Oper}{v:Value}{a:Act}(h:ru P ops o v a)(w:World):og P ops o v a w:=h.imp (λh=>⟨h.1,λw' _=>h.2 w'⟩) id
def DU(ops:Array Oper)(o:Oper)(a a':Act):Prop:=execOp a'.eval o=execOp a.eval o/\Region.wanted o (yielded ops a'.tmps)=Region.wanted o (yielded ops a.tmps)
def og.same{o:Oper}{v:Value}{a a':Act}{w w':World}(hy:og P ops o v a w)(h:DU ops o a a')(hE:Ext (λ_ _=>False) w w'):og P ops o v a' w':=by unfold og;rw[h.1,h.2];exact hy.imp (λhh=>⟨hh.1,λw2 h2=>hh.2 w2 (hE.trans h2 λ_ _ h _=>h)⟩) id
def ru.same{o:Oper}{v:Value}{a a':Act}(hy:ru P ops o v a)(h:DU ops o a a'):ru P ops o v a':=by unfold ru;rw[h.1,h.2];exact hy
def Up{j:Nat}{oi oj:Oper}{v:Value}(hj:ops[j]?=some oj)(hap:oi.apart ops oj=true)(hsi:∀cs b,oi.op≠.select cs b)(hsj:∀cs b,oj.op≠.select cs b)
  (hQ:∀c a w,Q (.panic c) (a.put oi.dst v) w->Q (.panic c) a w){K:Act->World->Prop}{a:Act}{w:World}(h:wpOp P ops Q j K (a.put oi.dst v) w):
  wpOp P ops Q j (λa' w'=>DU ops oi a a'/\K (a'.put oi.dst v) w') a w:=by
 obtain⟨h1,h2,h3⟩:=Oper.apart_spec hap;have keep:∀u,DU ops oi a (a.put oj.dst u):=λu=>⟨execOp_put oi hsi a oj.dst u h3,wanted_put oi a oj.dst u h3⟩;have put:∀u,(a.put oj.dst u).put oi.dst v=(a.put oi.dst v).put oj.dst u:=λu=>(Act.put_comm a v u h2).symm;unfold Go.wpOp at*;simp only[hj] at*;rw[wanted_put oj a oi.dst v h1] at h;by_cases hw:Region.wanted oj (yielded ops a.tmps)=true
 ·rw[aA hw] at h⊢;have mo:execOp (a.put oi.dst v).eval oj=execOp a.eval oj:=execOp_put oj hsj a oi.dst v h1;refine h.imp (λh=>?_) λh=>⟨?_,h.2⟩
  ·unfold Oper.wp at*;rw[mo] at h;generalize (execOp a.eval oj).run P w=r at h⊢;match r,h with
   |.ok (.value u) w',h=>exact⟨keep u,by rw[put];exact h⟩
   |.ok .skip w',h=>exact⟨keep _,by rw[put];exact h⟩
   |.ok (.defer d) w',h=>
    refine⟨by have k:=keep undef;unfold Act.put at*;cases hd:oj.dst<;>rw[hd] at k<;>exact⟨k.1,k.2⟩,?_⟩
    have h':K (({a.put oi.dst v with defers:=d::(a.put oi.dst v).defers}:Act).put oj.dst undef) w':=h;rw[Act.put_defers,Act.put_comm _ v undef h2] at h';exact h'
   |.ok (.enter f args) w',h=>
    refine Calls.mono h λe w'' he=>?_;match e,he with
    |.returned u,he=>exact⟨keep u,by rw[put];exact he⟩
    |.panicked c,he=>exact hQ _ _ _ he
    |.outgrown,he=>exact he
   |.ok (.row row args) w',h=>exact Rows.mono h λu w'' he=>⟨keep u,by rw[put];exact he⟩
   |.halt (.panic u) w',h=>exact hQ _ _ _ h
  ·have:=h.1;unfold Oper.asks at this⊢;rwa [mo] at this
 ·rw[aC hw] at h⊢;exact⟨keep _,by rw[put];exact h⟩
def Down(ops:Array Oper)(listed:Array Bool):Prop:=∀k ok,ops[k]?=some ok->listed.getD k false=true->∀e∈ok.after,Region.binds .any e=true->listed.getD e.on false=true
def vZ(ops : Array Oper)(t : Nat -> Nat -> Bool) : Bool := (List.range ops.size).all λj => (List.range ops.size).all λi => !t j i || (match ops[j]? with
 |some oj=>oj.after.any λe=>Region.binds .any e && (e.on==i||(decide (e.on<j) && t e.on i))
 |none=>false)
def LS{t:Nat->Nat->Bool}(kg:vZ ops t=true){listed:Array Bool}(hd:Down ops listed){i:Nat}(hi:listed.getD i false=false):∀(n j:Nat),j<n->j<ops.size->i<ops.size->(∀oj,ops[j]?=some oj->∀e∈oj.after,Region.binds .any e=true->listed.getD e.on false=true)->t j i=false
 |0,j,hj,_,_,_=>by omega
 |n+1,j,hj,E7,Ro,hall=>by
  cases ht:t j i with
  |false=>rfl
  |true=>
   exfalso;have hc:=kg;simp only[vZ,pI,nX] at hc;have h1:=hc j E7 i Ro;rw[ht] at h1;simp only[Bool.not_true,Bool.false_or] at h1;split at h1
   ·rename_i oj gH;obtain⟨e,he,hb⟩:=Array.any_eq_true'.1 h1;simp only[av,tE,eH,aZ] at hb;have hl:=hall oj gH e he hb.1;rcases hb.2 with h2|⟨h2,h3⟩;·rw[h2,hi] at hl;cases hl
    ·have:=LS kg hd hi n e.on (by omega) (by omega) Ro (λoe hoe e' he' hb'=>hd e.on oe hoe hl e' he' hb');rw[this] at h3;cases h3
   ·cases h1
def Down.set{listed:Array Bool}(h:Down ops listed){j:Nat}{oj:Oper}(hj:ops[j]?=some oj)(hall:∀e∈oj.after,Region.binds .any e=true->listed.getD e.on false=true):Down ops (listed.setIfInBounds j true):=by
 intro k ok hk hl e he hb;by_cases hjk:j=k
 ·subst hjk;rw[hj] at hk;injection hk with hk
  subst hk;exact getD_set_true (hall e he hb)
 ·rw[getD_set_ne false hjk] at hl;exact getD_set_true (h k ok hk hl e he hb)
def wpAnyQ_first{quiet:Nat->Bool}{i:Nat}{oi:Oper}{v:Value}(hi:ops[i]?=some oi)(hsel:∀(j:Nat) (o:Oper) cs b,ops[j]?=some o->o.op≠.select cs b)(hQ:∀c a w,Q (.panic c) (a.put oi.dst v) w->Q (.panic c) a w){t:Nat->Nat->Bool}(iF:vZ ops t=true):
  ∀(fuel:Nat) (listed:Array Bool) (a:Act) (w:World),
   Down ops listed->(∀j oj,ops[j]?=some oj->j≠i->listed.getD j true=false->t j i=false->oi.apart ops oj=true/\quiet j=true)->
   i∈Region.ready .any ops listed->og P ops oi v a w->
   wpAnyQ P ops quiet Q fuel (listed.setIfInBounds i true) (a.put oi.dst v) w->wpAnyQ P ops quiet Q (fuel+1) listed a w:=by
 intro fuel;induction fuel with
 |zero=>
  intro listed a w _ _ hr hy H;refine⟨λh=>(by rw[h] at hr;cases hr),λj hj=>?_⟩;by_cases hji:j=i;·subst hji;exact hy.wpOp hi ⟨Rel.refl _ _,H⟩
  ·have:=ready_mono hj hji;rw[H.1] at this;cases this
 |succ fuel ih=>
  intro listed a w AJ hfree hr hy H;refine⟨λh=>(by rw[h] at hr;cases hr),λj hj=>?_⟩;by_cases hji:j=i;·subst hji;exact hy.wpOp hi ⟨Rel.refl _ _,H⟩
  ·have h1:=H.2 j (ready_mono hj hji);obtain⟨AO,oj,gH,hall⟩:=mem_ready.1 hj
   have hi0:listed.getD i false=false:=by
    have h0:=(mem_ready.1 hr).1;rcases gB i listed.size with h'|h';·simpa [h'] using h0
    ·simp[kC h']
   have hnot:t j i=false:=LS iF AJ hi0 (j+1) j (by omega) (gR.1 gH).1 (gR.1 hi).1 (λoj' qg e he hb=>by
    rw[gH] at qg;injection qg with qg
    rw[<-qg] at he;exact hall e he hb)
   obtain⟨hap,hqu⟩:=hfree j oj gH hji AO hnot;have h2:=Up gH hap (λcs b=>hsel i oi cs b hi) (λcs b=>hsel j oj cs b gH) hQ h1
   have Ku:∀k ok,ops[k]?=some ok->k≠i->(listed.setIfInBounds j true).getD k true=false->
     t k i=false->oi.apart ops ok=true/\quiet k=true:=λk ok hk hki hun hno=>by
    refine hfree k ok hk hki ?_ hno;by_cases hjk:j=k;·subst hjk;exact AO
    ·rw[getD_set_ne true hjk] at hun;exact hun
   refine wpOp_mono (λa' w' ⟨hsame,hrel,h3⟩=>⟨hrel,ih (listed.setIfInBounds j true) a' w' (AJ.set gH hall) Ku (ready_mono hr (ze hji)) (hy.same hsame (hrel hqu)) ?_⟩) h2;rw[UC _ _ hji];exact h3
def aj1{quiet:Nat->Bool}{i:Nat}{oi:Oper}{v:Value}(hi:ops[i]?=some oi)(hsel:∀(j:Nat) (o:Oper) cs b,ops[j]?=some o->o.op≠.select cs b)(hQ:∀c a w,Q (.panic c) (a.put oi.dst v) w->Q (.panic c) a w){t:Nat->Nat->Bool}(iF:vZ ops t=true):
  ∀(fuel:Nat) (listed:Array Bool) (a:Act) (w:World),
   Down ops listed->(∀j oj,ops[j]?=some oj->j≠i->listed.getD j true=false->t j i=false->oi.apart ops oj=true)->
   i∈Region.ready .any ops listed->ru P ops oi v a->
   wpAnyQ P ops quiet Q fuel (listed.setIfInBounds i true) (a.put oi.dst v) w->wpAnyQ P ops quiet Q (fuel+1) listed a w:=by
 intro fuel;induction fuel with
 |zero=>
  intro listed a w _ _ hr hy H;refine⟨λh=>(by rw[h] at hr;cases hr),λj hj=>?_⟩;by_cases hji:j=i;·subst hji;exact(hy.later w).wpOp hi ⟨Rel.refl _ _,H⟩
  ·have:=ready_mono hj hji;rw[H.1] at this;cases this
 |succ fuel ih=>
  intro listed a w AJ hfree hr hy H;refine⟨λh=>(by rw[h] at hr;cases hr),λj hj=>?_⟩;by_cases hji:j=i;·subst hji;exact(hy.later w).wpOp hi ⟨Rel.refl _ _,H⟩
  ·have h1:=H.2 j (ready_mono hj hji);obtain⟨AO,oj,gH,hall⟩:=mem_ready.1 hj
   have hi0:listed.getD i false=false:=by
    have h0:=(mem_ready.1 hr).1;rcases gB i listed.size with h'|h';·simpa [h'] using h0
    ·simp[kC h']
   have hnot:t j i=false:=LS iF AJ hi0 (j+1) j (by omega) (gR.1 gH).1 (gR.1 hi).1 (λoj' qg e he hb=>by
    rw[gH] at qg;injection qg with qg
    rw[<-qg] at he;exact hall e he hb)
   have hap:=hfree j oj gH hji AO hnot;have h2:=Up gH hap (λcs b=>hsel i oi cs b hi) (λcs b=>hsel j oj cs b gH) hQ h1
   have Ku:∀k ok,ops[k]?=some ok->k≠i->(listed.setIfInBounds j true).getD k true=false->
     t k i=false->oi.apart ops ok=true:=λk ok hk hki hun hno=>by
    refine hfree k ok hk hki ?_ hno;by_cases hjk:j=k;·subst hjk;exact AO
    ·rw[getD_set_ne true hjk] at hun;exact hun
   refine wpOp_mono (λa' w' ⟨hsame,hrel,h3⟩=>⟨hrel,ih (listed.setIfInBounds j true) a' w' (AJ.set gH hall) Ku (ready_mono hr (ze hji)) (hy.same hsame) ?_⟩) h2;rw[UC _ _ hji];exact h3
end
end M
namespace M
open Go Go.RowKit
variable [Bs]
def lX(P:Program)(t:TypeId):Option TypeId:=match P.underlying t with
 |some (.slice e)=>some e
 |_=>none
def isStr(P:Program)(t:TypeId):Bool:=match P.underlying t with
 |some .string=>true
 |_=>false
def La(P:Program)(t:TypeId):Bool:=match P.underlying t with
 |some .bool=>true
 |_=>false
def isInt(P:Program)(t:TypeId)(k:IntKind):Bool:=match P.underlying t with
 |some (.int k')=>decide (k'=k)
 |_=>false
def lE(P:Program)(t:TypeId)(n:Nat):Bool:=match P.info? t with
 |some i=>decide (i.size=n)
 |none=>false
def Wi:TypeDesc->Bool
 |.struct _=>true
 |.array _ _=>true
 |_=>false
def uA(P:Program)(t:TypeId)(b:Bool):Bool:=match P.underlying t with
 |some d=>Wi d==b
 |none=>false
section
variable {P:Program}{t:TypeId}
def nU{e:TypeId}(h:lX P t=some e):P.underlying t=some (.slice e):=by
 unfold lX at h;split at h;·rename_i e' he;injection h with h;subst h;exact he
 ·cases h
def Bv(h:isStr P t=true):P.underlying t=some .string:=by
 unfold isStr at h;split at h;·assumption
 ·cases h
def adt(h:La P t=true):P.underlying t=some .bool:=by
 unfold La at h;split at h;·assumption
 ·cases h
def Lc{k:IntKind}(h:isInt P t k=true):P.underlying t=some (.int k):=by
 unfold isInt at h;split at h;·rename_i k' hk;rw[hk,zh h]
 ·cases h
def r6{n:Nat}(h:lE P t n=true):∃i,P.info? t=some i/\i.size=n:=by
 unfold lE at h;split at h;·rename_i i hi;exact⟨i,hi,zh h⟩
 ·cases h
def Bu{b:Bool}(h:uA P t b=true):∃dd,P.underlying t=some dd/\(match dd with|.struct _=>true|.array _ _=>true|_=>false)=b:=by
 unfold uA at h;split at h;·rename_i d hd;refine⟨d,hd,?_⟩;rw[eH] at h;rw[<-h];cases d<;>rfl
 ·cases h
end
def dG(nt:Nat)(o:Oper)(d:Nat):Bool:=(match o.dst with|some d'=>d'==d|none=>false) && decide (d<nt)
def dQ{nt:Nat}{o:Oper}{d:Nat}(h:dG nt o d=true):o.dst=some d/\d<nt:=by
 simp only[dG,av,aZ] at h;refine⟨?_,h.2⟩;have:=h.1;split at this;·rename_i d' hd;rw[hd];simpa using this
 ·cases this
def xH:cF->Bool
 |.mv _ _|.pick _ _ _ _|.un _ _ _|.bin _ _ _ _|.beq _ _ _ _|.tL _ _ _ _ _|.sH _ _ _|.conv _ _ _|.text _ _|.load _ _ _ _|.eP _ _|.pZ _ _ _|.jG _ _ _ _ _|.iO _ _ _ _|.dD _ _ _|.tN _ _ _ _ _ _
 |.ext _ _ _|.gy _ _ _ _|.oT _ _ _ _ _|.qB _ _ _|.len _ _|.tf _ _|.mn _ _|.mx _ _|.sC _ _ _ _ _=>true
 |_=>false
def sN:cF->Bool
 |.bh _ _ _|.box _ _ _|.new _ _|.make _ _ _ _ _|.bytes _ _|.lit _ _ _ _|.build _ _ _ _=>true
 |.call _ _ as=>jw as
 |.om _ _ as=>jw as
 |x=>xH x
def En(P:Program)(nt:Nat)(o:Oper):cF->Bool
 |.mv d x=>dG nt o d && (match o.op with|.move x'=>aK x' x|.assign x'=>aK x' x|_=>false)
 |.pick d c a b=>dG nt o d && (match o.op with|.pick c' a' b'=>aK c' c && aK a' a && aK b' b|_=>false)
 |.un d op x=>dG nt o d && (match o.op with|.unOp op' _ x'=>decide (op'=op) && aK x' x|_=>false)
 |.bin d op x y=>dG nt o d && (match o.op with|.binOp op' _ x' y' _=>decide (op'=op) && aK x' x && aK y' y|_=>false)
 |.beq d neg x y=>dG nt o d && (match o.op with|.binOp op' ty x' y' _=>decide (op'=bif neg then .neq else .eql) && La P ty && aK x' x && aK y' y|_=>false)
 |.sH d neg x=>dG nt o d && (match o.op with|.binOp op' ty x' (.const (.slice none 0 0)) _=>decide (op'=bif neg then .neq else .eql) && (lX P ty).isSome && aK x' x|_=>false)
 |.tL d neg ks x y=>dG nt o d && (match o.op with|.binOp op' ty x' y' _=>decide (op'=bif neg then .neq else .eql) && JY P ty ks && aK x' x && aK y' y|_=>false)
 |.conv d k x=>dG nt o d && (match o.op with|.convert src dst x'=>(P.underlying src).isSome && isInt P dst k && aK x' x|_=>false)
 |.text d x=>dG nt o d && (match o.op with|.convert src dst x'=>(match lX P src with|some el=>isInt P el .u8 && isStr P dst && aK x' x|none=>false)|_=>false)
 |.load d sz agg x=>dG nt o d && (match o.op with|.load ty x'=>lE P ty sz && uA P ty agg && (agg||decide (sz=1)) && aK x' x|_=>false)
 |.sC d fz sz agg x=>dG nt o d && (match o.op with|.load ty x'=>lE P ty sz && uA P ty agg && (agg||decide (sz=1)) && aK x' x|_=>false)
 |.eP d x=>dG nt o d && (match o.op with|.nilCheck x'=>aK x' x|_=>false)
 |.pZ d x off=>dG nt o d && (match o.op with|.fieldAddr ty x' fi=>(match P.underlying ty with|some (.struct fs)=>(match fs[fi]? with|some f=>decide (f.offset=off) && !lE P f.type 0 && (P.info? f.type).isSome && aK x' x|none=>false)|_=>false)|_=>false)
 |.jG d x off sz agg=>dG nt o d && (match o.op with|.field ty x' fi=>(match P.underlying ty with|some (.struct fs)=>(match fs[fi]? with|some f=>decide (f.offset=off) && lE P f.type sz && uA P f.type agg && (agg||decide (sz=1)) && aK x' x|none=>false)|_=>false)|_=>false)
 |.iO d sz x y=>dG nt o d && (match o.op with|.indexAddr ty x' y'=>(match lX P ty with|some el=>lE P el sz && decide (0<sz) && aK x' x && aK y' y|none=>false)|_=>false)
 |.dD d x y=>dG nt o d && (match o.op with|.index ty x' y'=>isStr P ty && aK x' x && aK y' y|_=>false)
 |.tN d n sz agg x y=>dG nt o d && (match o.op with|.index ty x' y'=>(match P.underlying ty with|some (.array n' el)=>decide (n'=n) && lE P el sz && uA P el agg && (agg||decide (sz=1)) && aK x' x && aK y' y|_=>false)|_=>false)
 |.ext d x i=>dG nt o d && (match o.op with|.extract x' i'=>i'==i && aK x' x|_=>false)
 |.gy d x lo hi=>dG nt o d && (match o.op with|.slice ty x' lo' hi' none=>isStr P ty && aK x' x && mY lo' lo && mY hi' hi|_=>false)
 |.oT d sz x lo hi=>dG nt o d && (match o.op with|.slice ty x' lo' hi' none=>(match lX P ty with|some el=>lE P el sz && aK x' x && mY lo' lo && mY hi' hi|none=>false)|_=>false)
 |.qB d f cs=>dG nt o d && (match o.op with|.makeFunc (.func f') fs cs'=>f'==f && fs.toList.isEmpty && l9 cs'.toList cs|_=>false)
 |.len d x=>dG nt o d && (match o.op with|.call ⟨.builtin .len,as,ts⟩=>(match as.toList,ts.toList with|[x'],[ty]=>(lX P ty).isSome && aK x' x|_,_=>false)|_=>false)
 |.tf d x=>dG nt o d && (match o.op with|.call ⟨.builtin .len,as,ts⟩=>(match as.toList,ts.toList with|[x'],[ty]=>isStr P ty && aK x' x|_,_=>false)|_=>false)
 |.mn d [x,y]=>dG nt o d && (match o.op with|.call ⟨.builtin .min,as,_⟩=>(match as.toList with|[x',y']=>aK x' x && aK y' y|_=>false)|_=>false)
 |.mx d [x,y]=>dG nt o d && (match o.op with|.call ⟨.builtin .max,as,_⟩=>(match as.toList with|[x',y']=>aK x' x && aK y' y|_=>false)|_=>false)
 |_=>false
section
variable {P:Program}{c:Ctx}{G:Nat->C}{zl:Nat->Nat->Prop}{s:ah}{a:Act}{w:World}{o:Oper}{K:ah->Prop}
def Q0(op:BinOp)(ty:TypeId)(p q:Operand)(a b:Option Addr)(l m n k:Nat):eqGuard op ty p q (.slice a l m) (.slice b n k)=pure ():=by unfold eqGuard;cases op<;>rfl
def agc{sz len:Nat}{e:Nat->Nat->C}(h:mG (dN sz len e)=true):0<len/\0<sz:=by
 unfold dN at h;cases len with
 |zero=>cases h
 |succ len=>
  cases sz with
  |zero=>rw[DC] at h;cases h
  |succ sz=>exact⟨Nat.succ_pos _,Nat.succ_pos _⟩
def afC(h:St c G zl s a w){d:Nat}{neg:Bool}{ty ty':TypeId}{e:TypeId}{x:AV}{x':Operand}(ho:o.op=.binOp (bif neg then .neq else .eql) ty x' (.const (.slice none 0 0)) ty')(ht:P.underlying ty=some (.slice e))(hd:o.dst=some d)(hn:d<c.nt)(hx:aK x' x=true)
  (hK:aM P (.sH d neg x) s K):dP P c o a w K:=by
 obtain⟨p,p1,p2,p3⟩:=cA h hx;simp only[aM] at hK;split at hK
 ·rename_i m z xs h1;rw[<-p1] at h1;obtain⟨A,len,cap,f,rfl,hxs⟩:=Al h1;have hb:mG xs=true->(A.map λq=>(⟨q.1,q.2.1,q.2.2⟩:Addr)).isNone=false:=λhc=>by rw[hxs] at hc;obtain⟨h1,h2⟩:=agc hc;obtain⟨g,o',hA,_⟩:=p3.ok.2.1 0 0 h1 h2;rw[hA];rfl
  have gZ:=hK _ hb;obtain⟨nb,hnb⟩:∃nb,(A.map λq=>(⟨q.1,q.2.1,q.2.2⟩:Addr)).isNone=nb:=⟨_,rfl⟩;rw[hnb] at gZ;have hc:a.eval (.const (.slice none 0 0))=.slice none 0 0:=rfl;refine dX h hd hn (x:=.bool (xor neg nb)) trivial (λ_ _ _ _ _ _ e=>(by cases e)) trivial (λw' _=>?_) gZ;cases neg;·simp only[execOp,ho,hc,<-p2,C.val,Q0,Sem.run_bind,Sem.run_pure,Result.andThen_ok,q9,Lib.run_eql_slice_nil w' ty e _ _ _ _ _ ht,Bool.false_bne,hnb]
  ·simp only[execOp,ho,hc,<-p2,C.val,Q0,Sem.run_bind,Sem.run_pure,Result.andThen_ok,lZ,run_neq_slice_nil w' ty e _ _ _ ht,Bool.true_bne,hnb]
 ·exact hK.elim
def Gh{b:Bool}{n m:Nat}(h:(b||decide (n=m))=true):b=true\/n=m:=by simpa using h
def yN{α:Type}{xs:Array α}{x:α}(h:xs.toList=[x]):xs= #[x]:=pq h
def Ib{α:Type}{xs:Array α}{x y:α}(h:xs.toList=[x,y]):xs= #[x,y]:=pq h
def Jz(h:St c G zl s a w){x:cF}(hc:En P c.nt o x=true)(hK:aM P x s K):dP P c o a w K:=by
 unfold En at hc;split at hc
 ·simp only[av] at hc;obtain⟨hd,hn⟩:=dQ hc.1;have hc:=hc.2;split at hc;·rename_i ho;exact SM h (.inl ho) hd hn hc hK
  ·rename_i ho;exact SM h (.inr ho) hd hn hc hK
  ·cases hc
 ·simp only[av] at hc;obtain⟨hd,hn⟩:=dQ hc.1;have hc:=hc.2;split at hc;·rename_i ho;simp only[av] at hc;exact afD h ho hd hn hc.1.1 hc.1.2 hc.2 hK
  ·cases hc
 ·simp only[av] at hc;obtain⟨hd,hn⟩:=dQ hc.1;have hc:=hc.2;split at hc;·rename_i ho;simp only[av,aZ] at hc;obtain⟨rfl,hx⟩:=hc;exact afK h ho hd hn hx hK
  ·cases hc
 ·simp only[av] at hc;obtain⟨hd,hn⟩:=dQ hc.1;have hc:=hc.2;split at hc;·rename_i ho;simp only[av,aZ] at hc;obtain⟨⟨rfl,hx⟩,hy⟩:=hc;exact afg h ho hd hn hx hy hK
  ·cases hc
 ·simp only[av] at hc;obtain⟨hd,hn⟩:=dQ hc.1;have hc:=hc.2;split at hc;·rename_i ho;simp only[av,aZ] at hc;obtain⟨⟨⟨rfl,ht⟩,hx⟩,hy⟩:=hc;exact aff h ho (adt ht) hd hn hx hy hK
  ·cases hc
 ·simp only[av] at hc;obtain⟨hd,hn⟩:=dQ hc.1;have hc:=hc.2;split at hc;·rename_i ho;simp only[av,aZ] at hc;obtain⟨⟨rfl,ht⟩,hx⟩:=hc;obtain⟨el,ht⟩:=zf.1 ht;exact afC h ho (nU ht) hd hn hx hK
  ·cases hc
 ·simp only[av] at hc;obtain⟨hd,hn⟩:=dQ hc.1;have hc:=hc.2;split at hc;·rename_i ho;simp only[av,aZ] at hc;obtain⟨⟨⟨rfl,ht⟩,hx⟩,hy⟩:=hc;exact afb h ho ht hd hn hx hy hK
  ·cases hc
 ·simp only[av] at hc;obtain⟨hd,hn⟩:=dQ hc.1;have hc:=hc.2;split at hc;·rename_i ho;simp only[av] at hc;obtain⟨⟨hs,ht⟩,hx⟩:=hc;obtain⟨sd,hs⟩:=zf.1 hs;exact afp h ho hs (Lc ht) hd hn hx hK
  ·cases hc
 ·simp only[av] at hc;obtain⟨hd,hn⟩:=dQ hc.1;have hc:=hc.2;split at hc
  ·rename_i ho;split at hc;·rename_i el hel;simp only[av] at hc;exact afJ h ho (nU hel) (Lc hc.1.1) (Bv hc.1.2) hd hn hc.2 hK
   ·cases hc
  ·cases hc
 ·simp only[av] at hc;obtain⟨hd,hn⟩:=dQ hc.1;have hc:=hc.2;split at hc;·rename_i ho;simp only[av] at hc;exact SL h ho (r6 hc.1.1.1) (Bu hc.1.1.2) (Gh hc.1.2) hd hn hc.2 hK
  ·cases hc
 ·simp only[av] at hc;obtain⟨hd,hn⟩:=dQ hc.1;have hc:=hc.2;split at hc;·rename_i ho;simp only[av] at hc;exact afw h ho (r6 hc.1.1.1) (Bu hc.1.1.2) (Gh hc.1.2) hd hn hc.2 hK
  ·cases hc
 ·simp only[av] at hc;obtain⟨hd,hn⟩:=dQ hc.1;have hc:=hc.2;split at hc;·rename_i ho;exact afn h ho hd hn hc hK
  ·cases hc
 ·simp only[av] at hc;obtain⟨hd,hn⟩:=dQ hc.1;have hc:=hc.2;split at hc
  ·rename_i ho;split at hc
   ·rename_i fs hfs;split at hc;·rename_i f hf;simp only[av,aZ,n9] at hc;obtain⟨⟨⟨h1,h2⟩,h3⟩,h4⟩:=hc;obtain⟨i,hi⟩:=zf.1 h3;refine afr h ho hfs hf h1 ⟨i,hi,λh0=>?_⟩ hd hn h4 hK;simp[lE,hi,h0] at h2
    ·cases hc
   ·cases hc
  ·cases hc
 ·simp only[av] at hc;obtain⟨hd,hn⟩:=dQ hc.1;have hc:=hc.2;split at hc
  ·rename_i ho;split at hc
   ·rename_i fs hfs;split at hc;·rename_i f hf;simp only[av,aZ] at hc;obtain⟨⟨⟨⟨h1,h2⟩,h3⟩,h4⟩,h5⟩:=hc;exact afs h ho hfs hf h1 (r6 h2) (Bu h3) (Gh h4) hd hn h5 hK
    ·cases hc
   ·cases hc
  ·cases hc
 ·simp only[av] at hc;obtain⟨hd,hn⟩:=dQ hc.1;have hc:=hc.2;split at hc
  ·rename_i ho;split at hc;·rename_i el hel;simp only[av,aZ] at hc;obtain⟨⟨⟨h1,h2⟩,h3⟩,h4⟩:=hc;exact aft h ho (nU hel) (r6 h1) h2 hd hn h3 h4 hK
   ·cases hc
  ·cases hc
 ·simp only[av] at hc;obtain⟨hd,hn⟩:=dQ hc.1;have hc:=hc.2;split at hc;·rename_i ho;simp only[av] at hc;exact afF h ho (Bv hc.1.1) hd hn hc.1.2 hc.2 hK
  ·cases hc
 ·simp only[av] at hc;obtain⟨hd,hn⟩:=dQ hc.1;have hc:=hc.2;split at hc
  ·rename_i ho;split at hc;·rename_i n' el hel;simp only[av,aZ] at hc;obtain⟨⟨⟨⟨⟨rfl,h2⟩,h3⟩,h4⟩,h5⟩,h6⟩:=hc;exact afc h ho hel (r6 h2) (Bu h3) (Gh h4) hd hn h5 h6 hK
   ·cases hc
  ·cases hc
 ·simp only[av] at hc;obtain⟨hd,hn⟩:=dQ hc.1;have hc:=hc.2;split at hc;·rename_i ho;simp only[av,eH] at hc;obtain⟨rfl,hx⟩:=hc;exact afq h ho hd hn hx hK
  ·cases hc
 ·simp only[av] at hc;obtain⟨hd,hn⟩:=dQ hc.1;have hc:=hc.2;split at hc;·rename_i ho;simp only[av] at hc;obtain⟨⟨⟨h1,h2⟩,h3⟩,h4⟩:=hc;exact afH h ho (Bv h1) hd hn h2 h3 h4 hK
  ·cases hc
 ·simp only[av] at hc;obtain⟨hd,hn⟩:=dQ hc.1;have hc:=hc.2;split at hc
  ·rename_i ho;split at hc;·rename_i el hel;simp only[av] at hc;obtain⟨⟨⟨h1,h2⟩,h3⟩,h4⟩:=hc;exact afE h ho (nU hel) (r6 h1) hd hn h2 h3 h4 hK
   ·cases hc
  ·cases hc
 ·simp only[av] at hc;obtain⟨hd,hn⟩:=dQ hc.1;have hc:=hc.2;split at hc;·rename_i fs cs' ho;simp only[av,eH] at hc;obtain⟨⟨rfl,h2⟩,h3⟩:=hc;have hfs:fs= #[]:=pq (List.isEmpty_iff.1 h2);subst hfs;exact afy h ho hd hn h3 hK
  ·cases hc
 ·simp only[av] at hc;obtain⟨hd,hn⟩:=dQ hc.1;have hc:=hc.2;split at hc
  ·rename_i as ts ho;split at hc;·rename_i x' ty has hts;simp only[av] at hc;obtain⟨el,hel⟩:=zf.1 hc.1;rw[yN has,yN hts] at ho;exact afu h ho (nU hel) hd hn hc.2 hK
   ·cases hc
  ·cases hc
 ·simp only[av] at hc;obtain⟨hd,hn⟩:=dQ hc.1;have hc:=hc.2;split at hc
  ·rename_i as ts ho;split at hc;·rename_i x' ty has hts;simp only[av] at hc;rw[yN has,yN hts] at ho;exact afG h ho (Bv hc.1) hd hn hc.2 hK
   ·cases hc
  ·cases hc
 ·simp only[av] at hc;obtain⟨hd,hn⟩:=dQ hc.1;have hc:=hc.2;split at hc
  ·rename_i as ts ho;split at hc;·rename_i x' y' has;simp only[av] at hc;rw[Ib has] at ho;exact afz h ho hd hn hc.1 hc.2 hK
   ·cases hc
  ·cases hc
 ·simp only[av] at hc;obtain⟨hd,hn⟩:=dQ hc.1;have hc:=hc.2;split at hc
  ·rename_i as ts ho;split at hc;·rename_i x' y' has;simp only[av] at hc;rw[Ib has] at ho;exact afA h ho hd hn hc.1 hc.2 hK
   ·cases hc
  ·cases hc
 ·cases hc
end
end M
namespace M
open Go Go.RowKit
variable [Bs]
def Step(P:Program)(c:Ctx)(o:Oper)(a:Act)(w:World)(K:ah->Prop)(q:Bool):Prop:=
 (∃v w',((execOp a.eval o).run P w=.ok (.value v) w'\/((execOp a.eval o).run P w=.ok .skip w'/\v=undef))/\Rel q w w'/\∃G' aD s',K s'/\St c G' aD s' (a.put o.dst v) w')\/ry P c o a w K q
section
variable {P:Program}{c:Ctx}{G:Nat->C}{zl:Nat->Nat->Prop}{s:ah}{a:Act}{w:World}{o:Oper}{K:ah->Prop}
def Good.step(h:Good P c o a w K):Step P c o a w K false:=by obtain⟨v,w',hr,h⟩:=h;exact .inl ⟨v,w',hr,λhq=>by (cases hq),h⟩
def jZ.step(h:jZ P c o a w K)(q:Bool):Step P c o a w K q:=by obtain⟨v,w',hr,hE,h⟩:=h;exact .inl ⟨v,w',.inl hr,λ_=>hE,h⟩
def Step.wp{q:Bool}(h:Step P c o a w K q)(Q:Exit->Act->World->Prop):o.wp P a w (λa' w'=>Rel q w w'/\∃G' aD s',K s'/\St c G' aD s' a' w') Q:=by
 unfold Oper.wp;rcases h with ⟨v,w',hr,hq,h⟩|⟨f,args,hr,hc⟩
 ·rcases hr with hr|⟨hr,rfl⟩;·rw[hr];exact⟨hq,h⟩
  ·rw[hr];exact⟨hq,h⟩
 ·rw[hr];refine Calls.mono hc λe w' he=>?_;obtain⟨v,rfl,hq,h⟩:=he;exact⟨hq,h⟩
def Oe(P:Program)(t:TypeId)(sz bytes:Nat)(z:List X):Bool:=match P.info? t with
 |some i=>decide (i.size=sz) && decide (i.bytes=bytes) && (match i.zero with|some v=>mZ v.cells.toList z|none=>false)
 |none=>false
def akr{t:TypeId}{sz bytes:Nat}{z:List X}(h:Oe P t sz bytes z=true):∃i v,P.info? t=some i/\i.size=sz/\i.bytes=bytes/\i.zero=some v/\mZ v.cells.toList z=true:=by
 unfold Oe at h;split at h
 ·rename_i i hi;simp only[av,aZ] at h;obtain⟨⟨h1,h2⟩,h3⟩:=h;split at h3;·rename_i v hv;exact⟨i,v,hi,h1,h2,hv,h3⟩
  ·cases h3
 ·cases h
def Oi(P:Program)(t:TypeId)(sz bytes:Nat):Bool:=match P.info? t with
 |some i=>decide (i.size=sz) && decide (i.bytes=bytes) && (match i.zero with|some v=>decide (v.cells.size=sz)|none=>false)
 |none=>false
def aku{t:TypeId}{sz bytes:Nat}(h:Oi P t sz bytes=true):∃i v,P.info? t=some i/\i.size=sz/\i.bytes=bytes/\i.zero=some v/\v.cells.size=sz:=by
 unfold Oi at h;split at h
 ·rename_i i hi;simp only[av,aZ] at h;obtain⟨⟨h1,h2⟩,h3⟩:=h;split at h3;·rename_i v hv;exact⟨i,v,hi,h1,h2,hv,zh h3⟩
  ·cases h3
 ·cases h
def Og(P:Program)(t:TypeId)(sz:Nat):Bool:=match P.info? t with
 |some i=>decide (i.size=sz) && (match i.zero with|some v=>decide (v.cells.size=sz)|none=>false)
 |none=>false
def akt{t:TypeId}{sz:Nat}(h:Og P t sz=true):∃i v,P.info? t=some i/\i.size=sz/\i.zero=some v/\v.cells.size=sz:=by
 unfold Og at h;split at h
 ·rename_i i hi;simp only[av,aZ] at h;obtain⟨h1,h3⟩:=h;split at h3;·rename_i v hv;exact⟨i,v,hi,h1,hv,zh h3⟩
  ·cases h3
 ·cases h
def DO(P:Program)(t:TypeId)(z:List X):Bool:=match P.info? t with
 |some i=>(match i.zero with|some v=>mZ v.cells.toList z|none=>false)
 |none=>false
def Oh{t:TypeId}{z:List X}(h:DO P t z=true):∃i v,P.info? t=some i/\i.zero=some v/\mZ v.cells.toList z=true:=by
 unfold DO at h;split at h
 ·rename_i i hi;split at h;·rename_i v hv;exact⟨i,v,hi,hv,h⟩
  ·cases h
 ·cases h
def placesOf(P:Program)(t:TypeId):Option (List (Nat×Nat)):=match P.underlying t with
 |some (.struct fs)=>fs.toList.mapM λf=>(P.info? f.type).map λi=>(f.offset,i.size)
 |some (.array n e)=>(P.info? e).map λi=>(List.range n).map λk=>(k*i.size,i.size)
 |_=>none
def Qj{p q:Nat->Option (Nat×Nat)}(h:∀i r,p i=some r->q i=some r):∀(parts:List (Nat×Value)) (cells r:Array Value),Instr.fill p cells parts=some r->Instr.fill q cells parts=some r
 |[],cells,r,hf=>hf
 |(i,v)::rest,cells,r,hf=>by
  unfold Instr.fill at hf⊢;cases hp:p i with
  |none=>rw[hp] at hf;cases hf
  |some pr=>
   rw[hp] at hf;rw[h i pr hp];obtain⟨off,size⟩:=pr;simp only at hf⊢;split at hf;·cases hf
   ·rename_i hc;rw[aC hc];exact Qj h rest _ r hf
def afP{t:TypeId}{places:List (Nat×Nat)}(hp:placesOf P t=some places){i:TypeInfo}(hi:P.info? t=some i){v:Value}(hz:i.zero=some v):∀parts cells,Instr.fill (λi=>places[i]?) v.cells parts=some cells->P.built t parts=some cells:=by
 intro parts cells hf;unfold placesOf at hp;unfold Program.built;rw[hi];split at hp;·rename_i fs hfs;rw[hfs];simp only[hz,hp];simpa using hf
 ·rename_i n e he;rw[he];cases hie:P.info? e with
  |none=>rw[hie] at hp;cases hp
  |some ie=>
   rw[hie] at hp;simp only[cx,dL] at hp;simp only[hz,hie];refine Qj (λk r hk=>?_) _ _ _ hf;rw[<-hp,C.dm] at hk;split at hk;·exact hk
   ·cases hk
 ·cases hp
def Af(nt:Nat)(o:Oper)(d:Option Nat):Bool:=match o.dst,d with
 |some d',some d=>d'==d && decide (d<nt)
 |none,none=>true
 |_,_=>false
def JM{nt:Nat}{d:Option Nat}(h:Af nt o d=true):o.dst=d/\∀n,o.dst=some n->n<nt:=by
 unfold Af at h;split at h;·rename_i d' d hd;simp only[av,eH,aZ] at h;rw[hd,h.1];exact⟨rfl,λn hn=>by injection hn with hn;rw[<-hn];exact h.2⟩
 ·rename_i hd;rw[hd];exact⟨rfl,λn hn=>by cases hn⟩
 ·cases h
def JA(P:Program)(nt:Nat)(o:Oper):cF->Bool
 |.bh d h x=>dG nt o d && (match o.op with|.assign x'=>aK x' x|_=>false)
 |.box d h x=>dG nt o d && (match o.op with|.box _ x'=>aK x' x|_=>false)
 |.new d z=>dG nt o d && (match o.op with|.alloc ty=>DO P ty z|_=>false)
 |.make d sz bytes z n=>dG nt o d && (match o.op with|.makeSlice ty n1 n2=>(match lX P ty with|some el=>Oe P el sz bytes z && decide (0<bytes) && decide (0<sz) && decide (z.length=sz) && aK n1 n && aK n2 n|none=>false)|_=>false)
 |.bytes d x=>dG nt o d && (match o.op with|.convert src dst x'=>(match lX P dst with|some el=>isInt P el .u8 && isStr P src && aK x' x|none=>false)|_=>false)
 |.lit d h sz ps=>dG nt o d && (match o.op with|.buildSlice ty n ps'=>(match lX P ty with|some el=>Og P el sz && decide (0<sz) && decide (ps'.toList.length=n) && decide (n*sz<=16777216) && zZ 0 ps'.toList ps|none=>false)|_=>false)
 |.build d h z ps=>dG nt o d && (match o.op with|.build ty ps'=>(match placesOf P ty with|some places=>DO P ty z && tX places z.length ps'.toList ps|none=>false)|_=>false)
 |.store sz h y x=>(match o.dst with|none=>true|some _=>false) && (match o.op with|.store ty y' x'=>lE P ty sz && decide (0<sz) && aK x' x && aK y' y|_=>false)
 |.app d h sz bytes x y=>dG nt o d && (match o.op with|.call ⟨.builtin .append,as,ts⟩=>(match as.toList,ts.toList with|[x',y'],[ty,ty']=>(match lX P ty,lX P ty' with|some el,some _=>Oi P el sz bytes && decide (0<bytes) && decide (0<sz) && aK x' x && aK y' y|_,_=>false)|_,_=>false)|_=>false)
 |.call d f as=>Af nt o d && (match o.op with|.call ⟨.value (.func f'),as',_⟩=>f'==f && az P f && gW as'.toList as|_=>false)
 |.om d x as=>Af nt o d && (match o.op with|.call ⟨.value x',as',_⟩=>aK x' x && gW as'.toList as|_=>false)
 |.wg sz z x=>(match o.dst with|none=>true|some _=>false) && (match o.op with|.call ⟨.builtin .clear,as,ts⟩=>(match as.toList,ts.toList with|[x'],[ty]=>(match lX P ty with|some el=>DO P el z && decide (z.length=sz) && decide (0<sz) && aK x' x|_=>false)|_,_=>false)|_=>false)
 |.rI d f x as=>Af nt o d && (match o.op with|.call ⟨.value (.func f'),as',_⟩=>f'==f && az P f && (match as'.toList with|x'::l'=>aK x' x && gW l' as && jw as|[]=>false)|_=>false)
 |_=>false
def Yi(h:St c G zl s a w){x:cF}(hc:JA P c.nt o x=true)(hK:aM P x s K):Step P c o a w K (sN x):=by
 unfold JA at hc;split at hc
 ·simp only[av] at hc;obtain⟨hd,hn⟩:=dQ hc.1;have hc:=hc.2;split at hc;·rename_i ho;exact(afe h ho hd hn hc hK).step _
  ·cases hc
 ·simp only[av] at hc;obtain⟨hd,hn⟩:=dQ hc.1;have hc:=hc.2;split at hc;·rename_i ho;exact(afh h ho hd hn hc hK).step _
  ·cases hc
 ·simp only[av] at hc;obtain⟨hd,hn⟩:=dQ hc.1;have hc:=hc.2;split at hc;·rename_i ho;obtain⟨i,v,h1,h2,h3⟩:=Oh hc;exact(afB h ho h1 h2 h3 hd hn hK).step _
  ·cases hc
 ·simp only[av] at hc;obtain⟨hd,hn⟩:=dQ hc.1;have hc:=hc.2;split at hc
  ·rename_i ho;split at hc;·rename_i el hel;simp only[av,aZ] at hc;obtain⟨⟨⟨⟨⟨h1,h2⟩,h3⟩,h4⟩,h5⟩,h6⟩:=hc;obtain⟨i,v,i1,i2,i3,i4,i5⟩:=akr h1;exact(afx h ho (nU hel) i1 i4 i2 i3 h2 h3 h4 i5 hd hn h5 h6 hK).step _
   ·cases hc
  ·cases hc
 ·simp only[av] at hc;obtain⟨hd,hn⟩:=dQ hc.1;have hc:=hc.2;split at hc
  ·rename_i ho;split at hc;·rename_i el hel;simp only[av] at hc;exact(afj h ho (Bv hc.1.2) (nU hel) (Lc hc.1.1) hd hn hc.2 hK).step _
   ·cases hc
  ·cases hc
 ·simp only[av] at hc;obtain⟨hd,hn⟩:=dQ hc.1;have hc:=hc.2;split at hc
  ·rename_i ho;split at hc;·rename_i el hel;simp only[av,aZ] at hc;obtain⟨⟨⟨⟨h1,h2⟩,h3⟩,h4⟩,h5⟩:=hc;obtain⟨i,v,i1,i2,i3,i4⟩:=akt h1;exact(afv h ho (nU hel) i1 i3 i2 h2 i4 h3 h4 hd hn h5 hK).step _
   ·cases hc
  ·cases hc
 ·simp only[av] at hc;obtain⟨hd,hn⟩:=dQ hc.1;have hc:=hc.2;split at hc
  ·rename_i ho;split at hc;·rename_i places hp;simp only[av] at hc;obtain⟨i,v,i1,i2,i3⟩:=Oh hc.1;exact(afi (i:=i) h ho (afP hp i1 i2) i3 hd hn hc.2 hK).step _
   ·cases hc
  ·cases hc
 ·simp only[av] at hc;obtain⟨hd,hc⟩:=hc
  have hd:o.dst=none:=by
   split at hd;·assumption
   ·cases hd
  split at hc;·rename_i ho;simp only[av,aZ] at hc;obtain⟨⟨⟨h1,h2⟩,h3⟩,h4⟩:=hc;exact(afI h ho (r6 h1) h2 hd h3 h4 hK).step
  ·cases hc
 ·simp only[av] at hc;obtain⟨hd,hn⟩:=dQ hc.1;have hc:=hc.2;split at hc
  ·rename_i as ts ho;split at hc
   ·rename_i x' y' ty ty' has hts;split at hc;·rename_i el Ez hel acz;simp only[av,aZ] at hc;obtain⟨⟨⟨⟨h1,h2⟩,h3⟩,h4⟩,h5⟩:=hc;obtain⟨i,v,i1,i2,i3,i4,i5⟩:=aku h1;rw[Ib has,Ib hts] at ho;exact(afd h ho (nU hel) (nU acz) i1 i4 i2 i3 h2 h3 i5 hd hn h4 h5 hK).step
    ·cases hc
   ·cases hc
  ·cases hc
 ·simp only[av] at hc;obtain⟨hd,hc⟩:=hc;obtain⟨hd,hn⟩:=JM hd;subst hd;split at hc;·rename_i f' as' ts ho;simp only[av,eH] at hc;obtain⟨⟨rfl,h2⟩,h3⟩:=hc;obtain⟨fn,f1,f2,f3⟩:=JZ h2;exact .inr (afk h ho f1 f2 f3 hn h3 hK)
  ·cases hc
 ·simp only[av] at hc;obtain⟨hd,hc⟩:=hc;obtain⟨hd,hn⟩:=JM hd;subst hd;split at hc;·rename_i x' as' ts ho;simp only[av] at hc;exact .inr (afm h ho hc.1 hn hc.2 hK)
  ·cases hc
 ·simp only[av] at hc;obtain⟨hd,hc⟩:=hc
  have hd:o.dst=none:=by
   split at hd;·assumption
   ·cases hd
  split at hc
  ·rename_i as ts ho;split at hc
   ·rename_i x' ty has hts;split at hc;·rename_i el hel;simp only[av,aZ] at hc;obtain⟨⟨⟨h1,h2⟩,h3⟩,h4⟩:=hc;obtain⟨i,v,i1,i2,i3⟩:=Oh h1;rw[yN has,yN hts] at ho;exact(afo h ho (nU hel) i1 i2 i3 h2 h3 hd h4 hK).step
    ·cases hc
   ·cases hc
  ·cases hc
 ·simp only[av] at hc;obtain⟨hd,hc⟩:=hc;obtain⟨hd,hn⟩:=JM hd;subst hd;split at hc
  ·rename_i f' as' ts ho;simp only[av,eH] at hc;obtain⟨⟨rfl,h2⟩,h3⟩:=hc;obtain⟨fn,f1,f2,f3⟩:=JZ h2;split at h3;·rename_i x' l' hl;simp only[av] at h3;exact .inr (afl h ho hl f1 f2 f3 hn h3.1.1 h3.1.2 h3.2 hK)
   ·cases h3
  ·cases hc
 ·cases hc
def zY(P:Program)(nt:Nat)(o:Oper)(x:cF):Bool:=bif xH x then En P nt o x else JA P nt o x
def Pt(h:St c G zl s a w){x:cF}(hc:zY P c.nt o x=true)(hK:aM P x s K):Step P c o a w K (sN x):=by
 unfold zY at hc;cases hr:xH x with
 |true=>rw[hr] at hc;exact(Jz h hc hK).quiet.step _
 |false=>rw[hr] at hc;exact Yi h hc hK
end
end M
namespace M
open Go Go.RowKit
variable [Bs]
section
variable {P:Program}{c:Ctx}{G:Nat->C}{zl:Nat->Nat->Prop}{s s':ah}{a:Act}{w:World}{K:ah->Prop}{ops:Array Oper}
def St.congr(h:St c G zl s a w)(he:∀t,get s t=get s' t):St c G zl s' a w:=
 {h with inv:={h.inv with er:=λt=>(h.inv.er t).trans (he t)}}
def pV(P:Program)(nt:Nat)(ops:Array Oper)(i:Nat)(g:M.G):Bool:=match ops[i]? with
 |some o=>(match o.guard,g.g with
  |none,none=>true
  |some (j,b),some (t,b')=>b==b' && decide (t<base) && (match ops[j]? with|some oj=>decide (oj.dst=some t)|none=>false)
  |_,_=>false) && decide (o.dst=g.o.dst) && (match g.o.dst with|some d=>decide (d<nt)|none=>true) && zY P nt o g.o
 |none=>false
def vO(c:Ctx)(K:ah->Prop)(a:Act)(w:World):Prop:=∃G zl s,K s/\St c G zl s a w
def Uw(h:St c G zl s a w){t j:Nat}{v:Bool}(hv:get s t=.bool v)(ht:t<base){oj:Oper}(hj:ops[j]?=some oj)(hd:oj.dst=some t):yielded ops a.tmps j=some v:=by
 have hG:=h.inv.er t;rw[hv] at hG;have hc:=rT hG;have:=h.val t ht;rw[hc,C.val] at this;unfold yielded;simp only[hj,ja,hd];rw[vH] at this;cases ht:a.tmps[t]? with
 |none=>rw[ht] at this;simp[undef] at this
 |some u=>rw[ht] at this;simp only[q8] at this;rw[<-this]
def St.Ij(h:St c G zl s a w)(d:Option Nat)(hn:∀n,d=some n->n<c.nt):∃G',St c G' zl (fX d (.aj []) s) (a.put d undef) w:=by
 cases d with
 |none=>exact⟨G,h⟩
 |some n=>exact h.put (x:=.aj 0 λ_=>.dead undef) (hn n rfl) ⟨λj hj=>(by omega),λj hj=>(by omega)⟩ (λ_ _ b k ⟨j,hj,_⟩=>(by omega)) (λb k ⟨j,hj,_⟩=>(by omega)) (λj hj=>(by omega)) (λb k ⟨j,hj,_⟩=>(by omega))
def EX{t:Nat}{v:Bool}(hv:get s t=.bool v):∀u,get s u=get ((t,.bool v)::s) u:=λu=>by
 rw[wH];split;·rename_i e;subst e;exact hv
 ·rfl
def Ux(h:St c G zl s a w){t j:Nat}(hv:get s t=.aj [])(ht:t<base){oj:Oper}(hj:ops[j]?=some oj)(hd:oj.dst=some t):yielded ops a.tmps j=none:=by
 have hG:=h.inv.er t;rw[hv] at hG;have hval:=h.val t ht
 have:(G t).val=.tuple #[]:=by
  cases hc:G t with
  |aj n f=>rw[hc] at hG;simp only[C.er,X.aj.injEq,List.map_eq_nil_iff,List.range_eq_nil] at hG;subst hG;rfl
  |_=>rw[hc] at hG;simp[C.er] at hG
 rw[this] at hval;unfold yielded;simp only[hj,ja,hd];rw[vH] at hval;cases ht:a.tmps[t]? with
 |none=>rfl
 |some u=>rw[ht] at hval;simp only[q8] at hval;rw[<-hval]
def Pq{i:Nat}{g:M.G}(h:St c G zl s a w)(hc:pV P c.nt ops i g=true)(hK:pR P g s K)(Q:Exit->Act->World->Prop):
  wpOp P ops Q i (λa' w'=>Rel (sN g.o) w w'/\vO c K a' w') a w:=by
 unfold pV at hc;split at hc
 ·rename_i o ho;simp only[av,aZ] at hc;obtain⟨⟨⟨hg,hd⟩,hn⟩,hop⟩:=hc;unfold wpOp;simp only[ho];obtain⟨gg,go⟩:=g;split at hg
  ·rename_i h1 h2;subst h2;have hw:Region.wanted o (yielded ops a.tmps)=true:=by simp[Region.wanted,h1]
   rw[aA hw];exact .inl ((Pt h hop hK).wp Q)
  ·rename_i j b t b' h1 h2;subst h2;simp only[av,eH,aZ] at hg;obtain⟨⟨rfl,ht⟩,hj⟩:=hg;split at hj
   ·rename_i oj gH;have hj:=zh hj;simp only[pR] at hK;split at hK
    ·rename_i v hv;have hy:=Uw h hv ht gH hj;obtain⟨k1,k2⟩:=hK;have sn:Region.wanted o (yielded ops a.tmps)=(v==b):=by simp only[Region.wanted,h1,hy];cases v<;>cases b<;>rfl
     rw[sn];by_cases lJ:v=b;·subst lJ;rw[aA (by simp)];exact .inl ((Pt (h.congr (EX hv)) hop (k1 rfl)).wp Q)
     ·have hnb:v= !b:=by cases v<;>cases b<;>first|rfl|exact absurd rfl lJ
      rw[aC (by simpa using lJ)];subst hnb;obtain⟨G',h'⟩:=(h.congr (EX hv)).Ij o.dst (λn gp=>by rw[hd] at gp;simp only[gp] at hn;simpa using hn)
      rw[hd] at h'⊢;exact⟨Rel.refl _ _,G',zl,_,k2 rfl,h'⟩
    ·rename_i hv;have hy:=Ux h hv ht gH hj;have sn:Region.wanted o (yielded ops a.tmps)=false:=by simp only[Region.wanted,h1,hy];rfl
     rw[sn,aC (by simp)];obtain⟨G',h'⟩:=h.Ij o.dst (λn gp=>by rw[hd] at gp;simp only[gp] at hn;simpa using hn)
     rw[hd] at h'⊢;exact⟨Rel.refl _ _,G',zl,_,hK,h'⟩
    ·exact hK.elim
   ·cases hj
  ·cases hg
 ·cases hc
def Yh{i:Nat}{g:M.G}(h:St c G zl s a w)(hc:pV P c.nt ops i g=true)(hr:xH g.o=true)(hK:pR P g s K):
  ∃o v,ops[i]?=some o/\og P ops o v a w/\vO c K (a.put o.dst v) w:=by
 unfold pV at hc;split at hc
 ·rename_i o ho;simp only[av,aZ] at hc;obtain⟨⟨⟨hg,hd⟩,hn⟩,hop⟩:=hc;obtain⟨gg,go⟩:=g;unfold zY at hop;simp only at hr hop;rw[hr] at hop;simp only[lZ] at hop;refine⟨o,?_⟩;split at hg
  ·rename_i h1 h2;subst h2;have hw:Region.wanted o (yielded ops a.tmps)=true:=by simp[Region.wanted,h1]
   obtain⟨v,hv,G',aD,s',k1,k2⟩:=Jz h hop hK;exact⟨v,ho,.inl ⟨hw,hv⟩,G',aD,s',k1,k2⟩
  ·rename_i j b t b' h1 h2;subst h2;simp only[av,eH,aZ] at hg;obtain⟨⟨rfl,ht⟩,hj⟩:=hg;split at hj
   ·rename_i oj gH;have hj:=zh hj;simp only[pR] at hK;split at hK
    ·rename_i v hv;have hy:=Uw h hv ht gH hj;obtain⟨k1,k2⟩:=hK;have sn:Region.wanted o (yielded ops a.tmps)=(v==b):=by simp only[Region.wanted,h1,hy];cases v<;>cases b<;>rfl
     by_cases lJ:v=b;·subst lJ;obtain⟨u,hu,G',aD,s',k3,k4⟩:=Jz (h.congr (EX hv)) hop (k1 rfl);exact⟨u,ho,.inl ⟨by rw[sn];simp,hu⟩,G',aD,s',k3,k4⟩
     ·have hnb:v= !b:=by cases v<;>cases b<;>first|rfl|exact absurd rfl lJ
      subst hnb;obtain⟨G',h'⟩:=(h.congr (EX hv)).Ij o.dst (λn gp=>by rw[hd] at gp;simp only[gp] at hn;simpa using hn)
      refine⟨undef,ho,.inr ⟨by rw[sn];simp,rfl⟩,G',zl,_,k2 rfl,?_⟩;rw[hd] at h'⊢;exact h'
    ·rename_i hv;have hy:=Ux h hv ht gH hj;have sn:Region.wanted o (yielded ops a.tmps)=false:=by simp only[Region.wanted,h1,hy];rfl
     obtain⟨G',h'⟩:=h.Ij o.dst (λn gp=>by rw[hd] at gp;simp only[gp] at hn;simpa using hn)
     refine⟨undef,ho,.inr ⟨sn,rfl⟩,G',zl,_,hK,?_⟩;rw[hd] at h'⊢;exact h'
    ·exact hK.elim
   ·cases hj
  ·cases hg
 ·cases hc
def jY(c:Ctx)(Q:Ex->ah->Prop):Exit->Act->World->Prop
 |.normal,a,w=>vO c (Q .normal) a w
 |.exit id,a,w=>vO c (Q (.exit id)) a w
 |.ret,a,w=>vO c (Q .ret) a w
 |_,_,_=>False
def rM(P:Program)(nt:Nat)(ops:Array Oper):Nat->List M.G->Bool
 |k,[]=>decide (k=ops.size)
 |k,g::l=>pV P nt ops k g && rM P nt ops (k+1) l
def SO{Q:Ex->ah->Prop}:∀(l:List M.G) (k:Nat) {G:Nat->C} {zl:Nat->Nat->Prop} {s:ah} {a:Act} {w:World},rM P c.nt ops k l=true->St c G zl s a w->kF P l s Q->wpOps P ops (jY c Q) (List.range' k l.length) a w
 |[],k,G,zl,s,a,w,hc,h,hK=>⟨G,zl,s,hK,h⟩
 |g::l,k,G,zl,s,a,w,hc,h,hK=>by simp only[rM,av] at hc;rw[cO,List.range'_succ,wpOps_cons];refine wpOp_mono (λa' w' ⟨_,G',aD,s',k1,k2⟩=>?_) (Pq h hc.1 hK (jY c Q));exact SO l (k+1) hc.2 k2 k1
def Pr:∀(l:List M.G) (k:Nat),rM P c.nt ops k l=true->k+l.length=ops.size
 |[],k,h=>by simpa [rM] using h
 |g::l,k,h=>by simp only[rM,av] at h;have:=Pr l (k+1) h.2;simp only[cO];omega
def af6{Q:Ex->ah->Prop}{l:List M.G}{id:Nat}(hc:rM P c.nt ops 0 l=true)(h:St c G zl s a w)(hK:kF P l s Q):(Code.region id ops false).wp P (jY c Q) a w:=by refine wp_region ?_;have hl:=Pr l 0 hc;rw[List.range_eq_range',<-hl,mQ];exact SO l 0 hc h hK
def QL(Lj:List Nat)(s:ah)(t:Nat):∀ks:List Nat,get (ks.map λk=>(k,(get s k).only Lj)) t=if ks.contains t then (get s t).only Lj else .dead
 |[]=>rfl
 |k::ks=>by
  simp only[bg,get];by_cases h:k=t;·subst h;simp
  ·have h1:(k==t)=false:=by simpa using h
   have h2:(k::ks).contains t=ks.contains t:=by
    simp only[List.contains_cons];have:(t==k)=false:=by simpa using λe=>h e.symm
    rw[this,Bool.false_or]
   rw[h1,h2,q9];exact QL Lj s t ks
def St.keep(h:St c G zl s a w)(ks:List Nat):∃G',St c G' zl (M.keep ks s) a w:=by
 let G':Nat->C:=λt=>if ks.contains t then (G t).ay (C.others ks) else .dead (G t).val
 have hin:∀t,ks.contains t=true->G' t=(G t).ay (C.others ks):=λt ht=>aA ht;have hout:∀t,ks.contains t=false->G' t=.dead (G t).val:=λt ht=>aC (by rw[ht];simp)
 have hv:∀t,(G' t).val=(G t).val:=λt=>by
  cases ht:ks.contains t with
  |true=>rw[hin t ht,C.jt]
  |false=>rw[hout t ht];rfl
 have cm:∀t b k,(G' t).fp b k->(G t).fp b k:=λt b k hf=>by
  cases ht:ks.contains t with
  |true=>rw[hin t ht,C.cR] at hf;exact hf
  |false=>rw[hout t ht] at hf;exact hf.elim
 refine⟨G',h.move ⟨λt=>?_,λt=>?_,λt u hne b k hf hf'=>h.inv.sep t u hne b k (cm t b k hf) (cm u b k hf'),λt b k hf=>h.inv.fz t b k (cm t b k hf),λt=>?_,h.inv.cI⟩ hv (Ext.refl (λ_ _=>False) w) (λ_ _ hs=>hs.elim) (λt b k hf=>.inl ⟨t,cm t b k hf⟩)⟩
 ·unfold M.keep;rw[QL];cases ht:ks.contains t with
  |true=>rw[hin t ht,C.BZ,h.inv.er];rfl
  |false=>rw[hout t ht];rfl
 ·cases ht:ks.contains t with
  |true=>rw[hin t ht];exact C.mD _ _ (h.inv.ok t)
  |false=>rw[hout t ht];trivial
 ·cases ht:ks.contains t with
  |true=>
   rw[hin t ht];refine C.lW (C.others ks) (λs' q y hk hs=>?_) _ (C.gL _ _) (C.nK _ _ (h.inv.rf t));have hs':ks.contains s'=true:=by simpa [C.others] using hk
   rw[hin s' hs'];rcases C.self y _ q hs with ⟨z,hz,hs2⟩|hno;·exact .inl ⟨_,hz.off _,C.js _ q _ _ (h.inv.ok s') hs2⟩
   ·exact .inr hno
  |false=>rw[hout t ht];trivial
def EE:cF->Bool
 |.pZ _ _ _=>true
 |_=>false
def YT{ev:Operand->Value}{o:Oper}{ty:TypeId}{fi:Nat}{x':Operand}{fs:Array Field}{f:Field}{i:TypeInfo}(ho:o.op=.fieldAddr ty x' fi)(hu:P.underlying ty=some (.struct fs))(hf:fs[fi]?=some f)(hi:P.info? f.type=some i)(hi0:i.size≠0){v:Value}{w:World}(h:(execOp ev o).run P w=.ok (.value v) w)(w':World):(execOp ev o).run P w'=.ok (.value v) w':=by
 cases hv:ev x' with
 |pointer p=>
  cases p with
  |none=>simp[execOp,ho,hv,Instr.fieldAt,Instr.sureAddr,run_underlying hu,hf] at h
  |some a=>simp[execOp,ho,hv,Instr.fieldAt,Instr.sureAddr,run_underlying hu,hf,fieldPlace,Go.sizeOf,typeInfo,hi,hi0] at h⊢;exact h
 |_=>simp[execOp,ho,hv,Instr.fieldAt,Instr.sureAddr,run_underlying hu,hf] at h
def Yg{i:Nat}{g:M.G}(hc:pV P c.nt ops i g=true)(he:EE g.o=true){o:Oper}{v:Value}(ho:ops[i]?=some o)(hl:og P ops o v a w):ru P ops o v a:=by
 rcases hl with ⟨h1,h2⟩|h
 ·refine .inl ⟨h1,?_⟩;have h3:=h2 w (Ext.refl _ _);unfold pV at hc;rw[ho] at hc;simp only[av] at hc;obtain⟨_,hop⟩:=hc;obtain⟨gg,go⟩:=g;cases go<;>simp only[EE] at he<;>try (cases he)
  unfold zY at hop;simp only[xH,lZ] at hop;unfold En at hop;simp only[av] at hop;have hc:=hop.2;split at hc
  ·rename_i hfo;split at hc
   ·rename_i fs hfs;split at hc;·rename_i f hf;simp only[av,aZ,n9] at hc;obtain⟨⟨⟨h5,h6⟩,h7⟩,h8⟩:=hc;obtain⟨i,hi⟩:=zf.1 h7;exact λw'=>YT hfo hfs hf hi (λh0=>by simp[lE,hi,h0] at h6) h3 w'
    ·cases hc
   ·cases hc
  ·cases hc
 ·exact .inr h
def DT.kL:DT->List Nat
 |.nil _=>[]
 |.step i _ _=>[i]
 |.alt a b=>a.kL++b.kL
 |.kp _ t=>t.kL
def DT.quiet:DT->Nat->Bool
 |.nil _,_=>true
 |.step i g t,j=>(if i=j then sN g.o else true) && t.quiet j
 |.alt a b,j=>a.quiet j && b.quiet j
 |.kp _ t,j=>t.quiet j
def J2(ops:Array Oper)(q:Nat->Bool)(t:Nat->Nat->Bool)(listed:Array Bool)(e:Bool)(i:Nat):Bool:=match ops[i]? with
 | some oi => (List.range ops.size).all λj => j == i || listed.getD j true || t j i || ((e || q j) && (match ops[j]? with
  |some oj=>oi.apart ops oj
  |none=>true))
 |none=>false
def gF(P:Program)(nt:Nat)(ops:Array Oper)(q:Nat->Bool)(bf:Nat->Nat->Bool):DT->Nat->Array Bool->Bool->Bool
 |.nil _,_,listed,alt=> !alt && decide (Region.ready .any ops listed=[])
 |.step i g t,fuel,listed,alt=>(match fuel with
  |0=>false
  |fuel+1=>pV P nt ops i g && (!q i||sN g.o) && (alt||decide (Region.ready .any ops listed=[i])||(xH g.o && (Region.ready .any ops listed).contains i && J2 ops q bf listed (EE g.o) i)) && gF P nt ops q bf t fuel (listed.setIfInBounds i true) false)
 |.alt a b,fuel,listed,alt=>(alt||decide (Region.ready .any ops listed=a.kL++b.kL)) && gF P nt ops q bf a fuel listed true && gF P nt ops q bf b fuel listed true
 |.kp _ t,fuel,listed,alt=>gF P nt ops q bf t fuel listed alt
def QD{q:Nat->Bool}{t:Nat->Nat->Bool}{listed:Array Bool}{i:Nat}{oi:Oper}{e:Bool}(hi:ops[i]?=some oi)(h:J2 ops q t listed e i=true)(j:Nat)(oj:Oper)(hj:ops[j]?=some oj)(hne:j≠i)(hun:listed.getD j true=false)(hno:t j i=false):oi.apart ops oj=true/\(e=true\/q j=true):=by simp only[J2,hi,pI,nX] at h;have h1:=h j (gR.1 hj).1;simp only[hj,tE,eH,hne,false_or,hun,fJ,hno,av] at h1;exact⟨h1.2,h1.1⟩
def vD{q:Nat->Bool}{bf:Nat->Nat->Bool}(iF:vZ ops bf=true)(hns:Region.noSelect ops=true){Q:Ex->ah->Prop}:∀(t:DT) (fuel:Nat) (listed:Array Bool) {G:Nat->C} {zl:Nat->Nat->Prop} {s:ah} {a:Act} {w:World},Down ops listed->St c G zl s a w->iz P t s Q->
  (gF P c.nt ops q bf t fuel listed false=true->wpAnyQ P ops q (jY c Q) fuel listed a w)/\
  ((∀i∈t.kL,i∈Region.ready .any ops listed)->gF P c.nt ops q bf t fuel listed true=true->∃f,fuel=f+1/\∀i∈t.kL,wpOp P ops (jY c Q) i (λa' w'=>Rel (q i) w w'/\wpAnyQ P ops q (jY c Q) f (listed.setIfInBounds i true) a' w') a w)
 |.nil ks,fuel,listed,G,zl,s,a,w,hdn,h,hK=>by
  obtain⟨G',h'⟩:=h.keep ks;constructor
  ·intro hc;simp only[gF,NT,NU,aZ] at hc;cases fuel with
   |zero=>exact⟨hc,G',zl,_,hK,h'⟩
   |succ f=>exact⟨λ_=>⟨G',zl,_,hK,h'⟩,by rw[hc];intro i hi;cases hi⟩
  ·intro _ hc;simp[gF] at hc
 |.step i g t,fuel,listed,G,zl,s,a,w,hdn,h,hK=>by
  cases fuel with
  |zero=>exact⟨λhc=>by simp[gF] at hc,λ_ hc=>by simp[gF] at hc⟩
  |succ f=>
   have AY:i∈Region.ready .any ops listed->Down ops (listed.setIfInBounds i true):=λhr=>by obtain⟨_,o,ho,hall⟩:=mem_ready.1 hr;exact hdn.set ho hall
   have one:i∈Region.ready .any ops listed->gF P c.nt ops q bf t f (listed.setIfInBounds i true) false=true->pV P c.nt ops i g=true->(q i=true->sN g.o=true)->
     wpOp P ops (jY c Q) i (λa' w'=>Rel (q i) w w'/\wpAnyQ P ops q (jY c Q) f (listed.setIfInBounds i true) a' w') a w:=λwQ ht hg hq=>
    wpOp_mono (λa' w' ⟨hr,G',aD,s',k1,k2⟩=>⟨λhqi=>hr (hq hqi),(vD iF hns t f _ (AY wQ) k2 k1).1 ht⟩) (Pq h hg hK (jY c Q))
   constructor
   ·intro hc;have hc0:=hc;simp only[gF,av,tE,aZ,fJ,false_or] at hc;obtain⟨⟨⟨hg,hq⟩,hr⟩,ht⟩:=hc;have oF:q i=true->sN g.o=true:=λhqi=>by rw[hqi] at hq;simpa using hq
    rcases hr with hr|⟨⟨hr,hrd⟩,nu⟩;·refine⟨λh0=>(by rw[hr] at h0;cases h0),λj hj=>?_⟩;rw[hr,fH] at hj;subst hj;exact one (by rw[hr];exact fH.2 rfl) ht hg oF
    ·obtain⟨o,v,ho,hl,G',aD,s',k1,k2⟩:=Yh h hg hr hK;have wQ:i∈Region.ready .any ops listed:=by simpa using hrd
     cases he:EE g.o with
     |true=>exact aj1 ho (Region.noSelect_spec hns) (λ_ _ _ hh=>hh.elim) iF f listed a w hdn (λj oj hj hne hun hno=>(QD ho nu j oj hj hne hun hno).1) wQ (Yg hg he ho hl) ((vD iF hns t f _ (AY wQ) k2 k1).1 ht)
     |false=>rw[he] at nu;exact wpAnyQ_first ho (Region.noSelect_spec hns) (λ_ _ _ hh=>hh.elim) iF f listed a w hdn (λj oj hj hne hun hno=>(QD ho nu j oj hj hne hun hno).imp id λh=>h.resolve_left (by simp)) wQ hl ((vD iF hns t f _ (AY wQ) k2 k1).1 ht)
   ·intro Ky hc;have hc0:=hc;simp only[gF,av,tE,aZ,true_or] at hc;obtain⟨⟨⟨hg,hq⟩,_⟩,ht⟩:=hc;have oF:q i=true->sN g.o=true:=λhqi=>by rw[hqi] at hq;simpa using hq
    refine⟨f,rfl,λj hj=>?_⟩;rw[DT.kL,fH] at hj;subst hj;exact one (Ky j (fH.2 rfl)) ht hg oF
 |.alt t1 t2,fuel,listed,G,zl,s,a,w,hdn,h,hK=>by
  have both:(∀i∈t1.kL++t2.kL,i∈Region.ready .any ops listed)->gF P c.nt ops q bf t1 fuel listed true=true->gF P c.nt ops q bf t2 fuel listed true=true->∃f,fuel=f+1/\∀i∈t1.kL++t2.kL,wpOp P ops (jY c Q) i (λa' w'=>Rel (q i) w w'/\wpAnyQ P ops q (jY c Q) f (listed.setIfInBounds i true) a' w') a w:=λhh h1 h2=>by
   obtain⟨f,hf,i1⟩:=(vD iF hns t1 fuel listed hdn h hK.1).2 (λi hi=>hh i (NB _ hi)) h1;obtain⟨f',hf',i2⟩:=(vD iF hns t2 fuel listed hdn h hK.2).2 (λi hi=>hh i (NC _ hi)) h2;have:f'=f:=by omega
   subst this;exact⟨f',hf,λi hi=>(dK.1 hi).elim (i1 i) (i2 i)⟩
  constructor
  ·intro hc;simp only[gF,av,tE,aZ,fJ,false_or] at hc;obtain⟨⟨hr,h1⟩,h2⟩:=hc;obtain⟨f,rfl,hi⟩:=both (λi hi=>by rw[hr];exact hi) h1 h2;refine⟨λh0=>?_,λi hi'=>hi i (by rw[<-hr];exact hi')⟩;exfalso;rw[h0] at hr
   have ne:∀{t:DT},gF P c.nt ops q bf t (f+1) listed true=true->t.kL≠[]:=by
    intro t;induction t with
    |nil=>intro hh;simp[gF] at hh
    |step i g t _=>intro _ hh;cases hh
    |alt a b iP _=>intro hh he;simp only[gF,av] at hh;rw[DT.kL,UL] at he;exact iP hh.1.2 he.1
    |kp ks t ih=>exact ih
   have:=(UL.1 hr.symm).1;exact ne h1 this
  ·intro Ky hc;simp only[gF,av,tE,aZ,true_or,tD] at hc;exact both Ky hc.1 hc.2
 |.kp ks t,fuel,listed,G,zl,s,a,w,hdn,h,hK=>by obtain⟨G',h'⟩:=h.keep ks;exact vD iF hns t fuel listed hdn h' hK
def waits(ops:Array Oper)(j i:Nat):Bool:=((Region.before ops).getD j 0).testBit i
def Jy(P:Program)(nt:Nat)(ops:Array Oper)(t:DT):Bool:=P.follows .mixedOrders && Region.noSelect ops && vZ ops (waits ops) && gF P nt ops t.quiet (waits ops) t ops.size (Array.replicate ops.size false) false
def YA{Q:Ex->ah->Prop}{t:DT}{id:Nat}(hc:Jy P c.nt ops t=true)(h:St c G zl s a w)(hK:iz P t s Q):(Code.region id ops true).wp P (jY c Q) a w:=by
 simp only[Jy,av] at hc;obtain⟨⟨⟨hm,hns⟩,iF⟩,hc⟩:=hc;refine wp_region_any hm ?_;have hE:Ext (λ_ _=>False) w w.drew:=Ext.drew w _;have h':St c G zl s a w.drew:=h.move (h.inv.world hE λ_ _ hs=>hs.elim) (λ_=>rfl) hE (λ_ _ hs=>hs.elim) (λt b k hf=>.inl ⟨t,hf⟩);have hdn:Down ops (Array.replicate ops.size false):=λk ok _ hl=>by exfalso;simp only[vH,UT] at hl;split at hl<;>simp at hl
 exact((vD iF hns t ops.size _ hdn h' hK).1 hc).any
end
end M
namespace M
open Go Go.RowKit
variable [Bs]
section
variable {P:Program}{c:Ctx}{G:Nat->C}{zl:Nat->Nat->Prop}{s s':ah}{a:Act}{w:World}
def gX(P:Program)(nt:Nat):A->Code->Bool
 |.skip,.skip=>true
 |.ret,.ret=>true
 |.exit id,.exit id'=>decide (id=id')
 |.ops l,.region _ ops false=>rM P nt ops 0 l
 |.draw t,.region _ ops true=>Jy P nt ops t
 |.seq a b,.seq x y=>gX P nt a x && gX P nt b y
 |.cond c a b,.cond c' x y=>aK c' c && gX P nt a x && gX P nt b y
 |.block id b,.block id' x=>decide (id=id') && gX P nt b x
 |.loop b,.loop x=>gX P nt b x
 |.pk _ b,x=>gX P nt b x
 |_,_=>false
def least(p:Nat->Prop):(∃n,p n)->∃m,p m/\∀k,p k->m<=k:=by
 rintro ⟨n,hn⟩;induction n using Nat.strongRecOn with
 |_ n ih=>
  by_cases h:∃k,k<n/\p k;·obtain⟨k,hk,hp⟩:=h;exact ih k hk hp
  ·exact⟨n,hn,λk hk=>by
    rcases gB k n with hlt|hge;·exact(h ⟨k,hlt,hk⟩).elim
    ·exact hge⟩
def Yo:∀(t:A) (code:Code) {Q:Ex->ah->Prop} {G:Nat->C} {zl:Nat->Nat->Prop} {s:ah} {a:Act} {w:World},gX P c.nt t code=true->St c G zl s a w->eV P t s Q->code.wp P (jY c Q) a w:=by
 intro t;induction t with
 |skip=>intro code Q G zl s a w hc h hK;unfold gX at hc;cases code<;>simp at hc;exact wp_skip ⟨G,zl,s,hK,h⟩
 |ret=>intro code Q G zl s a w hc h hK;unfold gX at hc;cases code<;>simp at hc;exact wp_ret ⟨G,zl,s,hK,h⟩
 |exit id=>intro code Q G zl s a w hc h hK;unfold gX at hc;cases code<;>simp at hc;subst hc;exact wp_exit ⟨G,zl,s,hK,h⟩
 |ops l=>
  intro code Q G zl s a w hc h hK;unfold gX at hc;cases code with
  |region id os d=>
   cases d with
   |false=>exact af6 hc h hK
   |true=>simp at hc
  |_=>simp at hc
 |draw t=>
  intro code Q G zl s a w hc h hK;unfold gX at hc;cases code with
  |region id os d=>
   cases d with
   |true=>exact YA hc h hK
   |false=>simp at hc
  |_=>simp at hc
 |seq x y K7 K8=>
  intro code Q G zl s a w hc h hK;unfold gX at hc;cases code with
  |seq x' y'=>
   simp only[av] at hc;refine wp_seq (wp_mono (K7 x' hc.1 h hK) λe a w he=>?_);cases e with
   |normal=>obtain⟨G,zl,s,k,h⟩:=he;exact K8 y' hc.2 h k
   |exit id=>exact he
   |ret=>exact he
   |goto l=>exact he.elim
   |panic ch=>exact he.elim
   |outgrown=>exact he.elim
  |_=>simp at hc
 |cond cc x y K7 K8=>
  intro code Q G zl s a w hc h hK;unfold gX at hc;cases code with
  |cond c' x' y'=>
   simp only[av] at hc;obtain⟨⟨h1,h2⟩,h3⟩:=hc;obtain⟨d,e1,e2,e3⟩:=cA h h1;simp only[eV] at hK;split at hK;·rename_i b hb;rw[<-e1] at hb;have:=rT hb;subst this;exact wp_cond_split (by rw[<-e2];rfl) (λht=>K7 x' h2 h (hK.1 ht)) (λhf=>K8 y' h3 h (hK.2 hf))
   ·exact hK.elim
  |_=>simp at hc
 |block id b ih=>
  intro code Q G zl s a w hc h hK;unfold gX at hc;cases code with
  |block id' x=>
   simp only[av,aZ] at hc;obtain⟨rfl,hc⟩:=hc;refine wp_block (wp_mono (ih x hc h hK) λe a w he=>?_);cases e with
   |normal=>exact he
   |exit i=>
    obtain⟨G,zl,s,k,h⟩:=he;simp only at k;show if i=id then jY c Q .normal a w else jY c Q (.exit i) a w
    by_cases hi:i=id;·subst hi;rw[aA rfl];simp only[beq_self_eq_true,lZ] at k;exact⟨G,zl,s,k,h⟩
    ·rw[aC hi];have:(i==id)=false:=by simpa using hi
     rw[this] at k;exact⟨G,zl,s,k,h⟩
   |ret=>exact he
   |goto l=>exact he.elim
   |panic ch=>exact he.elim
   |outgrown=>exact he.elim
  |_=>simp at hc
 |loop b ih=>
  intro code Q G zl s a w hc h hK;unfold gX at hc;cases code with
  |loop x=>
   obtain⟨I,⟨n,hn⟩,ada⟩:=hK;let J:Nat->Act->World->Prop:=λn a w=>vO c (I n) a w;have KC:=λa w=>least (λn=>J n a w);let μ:Act->World->Nat:=λa w=>by classical exact if hh:∃n,J n a w then Classical.choose (KC a w hh) else 0
   have hμ:∀a w,(∃n,J n a w)->J (μ a w) a w/\∀k,J k a w->μ a w<=k:=λa w hh=>by have hspec:=DH (KC a w hh);have:μ a w=Classical.choose (KC a w hh):=jV hh;rw[this];exact hspec
   refine wp_loop (λa w=>∃n,J n a w) μ ?_ λa w hI=>?_;·exact⟨n,G,zl,s,hn,h⟩
   ·obtain⟨⟨G1,tH,s1,k1,h1⟩,_⟩:=hμ a w hI;refine wp_mono (ih x hc h1 (ada _ s1 k1)) λe a' w' he=>?_;cases e with
    |normal=>obtain⟨G2,tI,s2,⟨m,hm,Kh⟩,h2⟩:=he;have hJ:J m a' w':=⟨G2,tI,s2,Kh,h2⟩;exact⟨⟨m,hJ⟩,Nat.lt_of_le_of_lt ((hμ a' w' ⟨m,hJ⟩).2 m hJ) hm⟩
    |exit id=>exact he
    |ret=>exact he
    |goto l=>exact he.elim
    |panic ch=>exact he.elim
    |outgrown=>exact he.elim
  |_=>simp at hc
 |pk ks b ih=>
  intro code Q G zl s a w hc h hK;have hc:gX P c.nt b code=true:=by cases b<;>cases code<;>first|exact hc|(rename_i d;cases d<;>exact hc)
  refine wp_mono (ih code hc h hK) λe a w he=>?_;cases e with
  |normal=>obtain⟨G,zl,s,k,h⟩:=he;obtain⟨G',h'⟩:=h.keep ks;exact⟨G',zl,_,k,h'⟩
  |exit id=>exact he
  |ret=>exact he
  |goto l=>exact he.elim
  |panic ch=>exact he.elim
  |outgrown=>exact he.elim
end
end M
namespace M
open Go Go.RowKit
variable [Bs]
def Df:Nat->List X->ah
 |_,[]=>[]
 |i,x::l=>(i,alias (base+i) [] x)::Df (i+1) l
def Dg:Nat->List X->ah
 |_,[]=>[]
 |i,x::l=>(base+i,x)::Dg (i+1) l
def mX(xs:List X):ah:=Df 0 xs++Dg 0 xs
def X.mB:X->Bool
 |.aj _=>true
 |_=>false
def post(x:X):X:=bif x.clean then x else .dead
inductive RV where
 |t (n:Nat)
 |c (n sz:Nat) (agg:Bool) (ty:TypeId)
def ef:List RV->ah->List X×ah
 |[],s=>([],s)
 |.t n::l,s=>((take .mv (ax s (.t n)) s).1::(ef l (take .mv (ax s (.t n)) s).2).1,(ef l (take .mv (ax s (.t n)) s).2).2)
 |.c n sz agg _::l,s=>((match get s n with
  |.ptr .own cs=>if cs.length=sz then (bif agg then .agg (X.gI n [] cs) else (X.gI n [] cs).headD (.aj [])) else .aj []
  |_=>.aj [])::(ef l (iW n [] .dead s)).1,(ef l (iW n [] .dead s)).2)
def uL:List X->X
 |[x]=>x
 |l=>.aj l
def qH:Nat->Nat->ah->List X
 |_,0,_=>[]
 |i,n+1,s=>post (get s (base+i))::qH (i+1) n s
def Ends(rs:List RV)(n:Nat)(Q:X->List X->Prop):Ex->ah->Prop
 |.exit _,_=>False
 |_,s=>X.clean.cL (ef rs s).1=true/\(∀x∈(ef rs s).1,x.mB=false)/\Q (uL (ef rs s).1) (qH 0 n (ef rs s).2)
namespace C
def tZ:∀c:C,c.er.clean=true->c.bare
 |.ref _ _ _,h=>by simp[er,X.clean] at h
 |.aB _ _ _ _ _,h=>by simp[er,X.clean] at h
 |.cut _ _ _ _ _,h=>by simp[er,X.clean] at h
 |.ptr m g o n c,h=>λj hj=>tZ (c j) (by simp only[er,X.clean,av] at h;exact j7.1 h.2 _ (aT.2 ⟨j,by simpa using hj,rfl⟩))
 |.agg n c,h=>λj hj=>tZ (c j) (by simp only[er,X.clean] at h;exact j7.1 h _ (aT.2 ⟨j,by simpa using hj,rfl⟩))
 |.aj n c,h=>λj hj=>tZ (c j) (by simp only[er,X.clean] at h;exact j7.1 h _ (aT.2 ⟨j,by simpa using hj,rfl⟩))
 |.fn f n c,h=>λj hj=>tZ (c j) (by simp only[er,X.clean] at h;exact j7.1 h _ (aT.2 ⟨j,by simpa using hj,rfl⟩))
 |.dead _,_=>trivial
 |.int _ _,_=>trivial
 |.bool _,_=>trivial
 |.str _,_=>trivial
 |.row _ _ _ _ _ _,_=>trivial
variable {w:World}{zl zb:Nat->Nat->Prop}
def rN:∀c:C,c.er.clean=true->c.ok w (Zf zl zb)->c.ok w (Zf zl λ_ _=>False)
 |.ref _ _ _,h,_=>by simp[er,X.clean] at h
 |.aB _ _ _ _ _,h,_=>by simp[er,X.clean] at h
 |.cut _ _ _ _ _,h,_=>by simp[er,X.clean] at h
 |.row m sz A len cap e,h,ho=>by
  simp only[er,X.clean,av] at h;obtain⟨h1,h2,h3,h4,h5⟩:=ho;refine⟨h1,λi j hi hj=>?_,λi j hi hj=>?_,h4,h5⟩
  ·obtain⟨g,o,q1,q2,q3⟩:=h2 i j hi hj;refine⟨g,o,q1,q2,λhm=>?_⟩;cases m with
   |own=>exact(hm rfl).elim
   |sl=>exact q3 hm
   |af=>simp at h
  ·obtain⟨a1,a2,a3,a4⟩:=h3 i j hi hj;exact⟨a1,a2,a3,rN (e i j) (Pv.1 h.2 _ (aT.2 ⟨i,by simpa using hi,rfl⟩) _ (aT.2 ⟨j,by simpa using hj,rfl⟩)) a4⟩
 |.ptr m g o n c,h,ho=>by
  simp only[er,X.clean,av] at h;obtain⟨h1,h2,h3,h4⟩:=ho;refine⟨λj hj=>?_,h2,λj hj=>?_,h4⟩
  ·obtain⟨a1,a2,a3⟩:=h1 j hj;refine⟨a1,λhm=>?_,a3⟩;cases m with
   |own=>exact(hm rfl).elim
   |sl=>exact a2 hm
   |af=>simp at h
  ·obtain⟨a1,a2,a3⟩:=h3 j hj;exact⟨a1,a2,rN (c j) (j7.1 h.2 _ (aT.2 ⟨j,by simpa using hj,rfl⟩)) a3⟩
 |.agg n c,h,ho=>by simp only[er,X.clean] at h;exact⟨λj hj=>⟨(ho.1 j hj).1,rN (c j) (j7.1 h _ (aT.2 ⟨j,by simpa using hj,rfl⟩)) (ho.1 j hj).2⟩,ho.2⟩
 |.aj n c,h,ho=>by simp only[er,X.clean] at h;exact⟨λj hj=>⟨(ho.1 j hj).1,rN (c j) (j7.1 h _ (aT.2 ⟨j,by simpa using hj,rfl⟩)) (ho.1 j hj).2⟩,ho.2⟩
 |.fn f n c,h,ho=>λj hj=>⟨rN (c j) (by simp only[er,X.clean] at h;exact j7.1 h _ (aT.2 ⟨j,by simpa using hj,rfl⟩)) (ho j hj).1,(ho j hj).2⟩
 |.dead _,_,_=>trivial
 |.int _ _,_,_=>trivial
 |.bool _,_,_=>trivial
 |.str _,_,h=>h
end C
def QO(i:Nat):∀(xs:List X) (r:ah) (t:Nat),get (Df i xs++r) t=if i<=t/\t<i+xs.length then alias (base+t) [] (xs.getD (t - i) .dead) else get r t
 |[],r,t=>by rw[aC (by simp only[gS];omega)];rfl
 |x::xs,r,t=>by
  simp only[Df,e9];rw[wH,QO (i+1) xs];by_cases h:t=i;·subst h;rw[aA rfl,aA ⟨dF _,by simp only[cO];omega⟩,ID];rfl
  ·rw[aC h];by_cases h2:i+1<=t/\t<i+1+xs.length;·rw[aA h2,aA ⟨by omega,by simp only[cO];omega⟩,show t - i=(t - (i+1))+1 by omega];rfl
   ·rw[aC h2,aC (by simp only[cO];omega)]
def QS(i:Nat):∀(xs:List X) (t:Nat),get (Dg i xs) t=if base+i<=t/\t<base+i+xs.length then xs.getD (t - (base+i)) .dead else .dead
 |[],t=>by rw[aC (by simp only[gS];omega)];rfl
 |x::xs,t=>by
  simp only[Dg];rw[wH,QS (i+1) xs];by_cases h:t=base+i;·subst h;rw[aA rfl,aA ⟨dF _,by simp only[cO];omega⟩,ID];rfl
  ·rw[aC h];by_cases h2:base+(i+1)<=t/\t<base+(i+1)+xs.length;·rw[aA h2,aA ⟨by omega,by simp only[cO];omega⟩,show t - (base+i)=(t - (base+(i+1)))+1 by omega];rfl
   ·rw[aC h2,aC (by simp only[cO];omega)]
def agV{w:World}{zl zb:Nat->Nat->Prop}{cs:List C}(h:mW w zl zb cs)(jm:pO w zl zb){nt:Nat}(hn:cs.length<=nt)(hnt:nt<=base):
  ∃G,St ⟨w,λb k=>∃x∈cs,x.fp b k,zl,zb,nt,cs.map C.val⟩ G zl (mX (cs.map C.er)) ⟨(cs.map C.val).toArray++Array.replicate (nt - (cs.map C.val).toArray.size) undef,[]⟩ w:=by
 let G:Nat->C:=λt=>if t<cs.length then (cs.getD t (.dead undef)).alias (base+t) [] else if base<=t/\t<base+cs.length then cs.getD (t - base) (.dead undef) else .dead undef
 have g1:∀t,t<cs.length->G t=(cs.getD t (.dead undef)).alias (base+t) []:=λt ht=>aA ht;have g2:∀t,t<cs.length->G (base+t)=cs.getD t (.dead undef):=λt ht=>by show (if _ then _ else _:C)=_;rw[aC (by omega),aA (by omega),Nat.add_sub_cancel_left]
 have g3:∀t,¬t<cs.length->¬(base<=t/\t<base+cs.length)->G t=.dead undef:=λt h1 h2=>by show (if _ then _ else _:C)=_;rw[aC h1,aC h2]
 have hm:∀t,t<cs.length->cs.getD t (.dead undef)∈cs:=λt ht=>cW ht _
 have Ek:∀t,(t<cs.length/\t<base)\/(∃u,u<cs.length/\t=base+u)\/(G t=.dead undef/\¬t<cs.length/\¬(base<=t/\t<base+cs.length)):=λt=>by
  by_cases h1:t<cs.length;·exact .inl ⟨h1,by omega⟩
  ·by_cases h2:base<=t/\t<base+cs.length;·exact .inr (.inl ⟨t - base,by omega,by omega⟩)
   ·exact .inr (.inr ⟨g3 t h1 h2,h1,h2⟩)
 have hal:∀t,t<cs.length->(G t).ok w (Zf zl zb)/\(G t).rf G/\∀b k,¬(G t).fp b k:=λt ht=>by rw[g1 t ht];have hx:=hm t ht;exact C.Ot (base+t) _ (g2 t ht) (h.ok _ hx) (C.rG G _ (h.bare _ hx))
 have cm:∀t b k,(G t).fp b k->∃u,u<cs.length/\t=base+u/\(cs.getD u (.dead undef)).fp b k:=λt b k hf=>by
  rcases Ek t with ⟨h1,_⟩|⟨u,hu,rfl⟩|⟨h1,_⟩;·exact((hal t h1).2.2 b k hf).elim
  ·rw[g2 u hu] at hf;exact⟨u,hu,rfl,hf⟩
  ·rw[h1] at hf;exact hf.elim
 refine⟨G,⟨⟨λt=>?_,λt=>?_,λt u hne b k hf hf'=>?_,λt b k hf=>?_,λt=>?_,h.cI⟩,λt ht=>?_,?_,hnt,rfl,⟨Ext.refl _ _,λt b k hf=>?_,λ_ _ hz=>hz,λ_ _ hz=>.inl hz,jm,λb k hb ⟨x,hx,hf⟩=>((jm b hb).2 k).elim (h.fz x hx b k hf).1 (h.fz x hx b k hf).2⟩,λi v hi=>?_⟩⟩
 ·have hgd:∀u,(cs.map C.er).getD u .dead=(cs.getD u (.dead undef)).er:=λu=>by rw[jX,jX,de];cases cs[u]?<;>rfl
  unfold mX;rw[QO,QS,dV,hgd,hgd];rcases Ek t with ⟨h1,h2⟩|⟨u,hu,rfl⟩|⟨h1,h2,h3⟩;·rw[aA ⟨by omega,by omega⟩,g1 t h1,C.Ou,Nat.sub_zero]
  ·rw[aC (by omega),aA ⟨by omega,by omega⟩,g2 u hu,show base+u - (base+0)=u by omega]
  ·rw[aC (by omega),aC (by omega),h1];rfl
 ·rcases Ek t with ⟨h1,_⟩|⟨u,hu,rfl⟩|⟨h1,_⟩;·exact(hal t h1).1
  ·rw[g2 u hu];exact h.ok _ (hm u hu)
  ·rw[h1];trivial
 ·obtain⟨x,hx,e1,h1⟩:=cm t b k hf;obtain⟨y,hy,e2,h2⟩:=cm u b k hf';exact xG h.apart _ hx hy (λe=>hne (by rw[e1,e2,e])) h1 h2
 ·obtain⟨x,hx,e1,h1⟩:=cm t b k hf;exact h.fz _ (hm x hx) b k h1
 ·rcases Ek t with ⟨h1,_⟩|⟨u,hu,rfl⟩|⟨h1,_⟩;·exact(hal t h1).2.1
  ·rw[g2 u hu];exact C.rG G _ (h.bare _ (hm u hu))
  ·rw[h1];trivial
 ·rw[vH,Array.getElem?_append];simp only[pE,dV];by_cases h1:t<cs.length;·rw[aA h1,g1 t h1,C.Ov,zo,de,cj h1,p6 (cj h1)];rfl
  ·rw[aC h1,g3 t h1 (by omega),UT];split<;>rfl
 ·simp only[NK,pE,dV,Array.size_replicate];omega
 ·obtain⟨x,hx,e1,h1⟩:=cm t b k hf;exact .inl ⟨_,hm x hx,h1⟩
 ·simp only[de] at hi;cases hc:cs[i]? with
  |none=>rw[hc] at hi;cases hi
  |some x=>
   rw[hc] at hi;injection hi with hi
   have hlt:=(aN.1 hc).1;rw[g2 i hlt,p6 hc,hi]
end M
namespace M
open Go Go.RowKit
variable [Bs]
def tY(P:Program):List ResultVar->List RV->Bool
 |[],[]=>true
 |.tmp t::l,.t t'::l'=>t==t' && decide (t<base) && tY P l l'
 |.cell a ty::l,.c n sz agg ty'::l'=>a==n && decide (n<base) && ty==ty' && lE P ty sz && uA P ty agg && (agg||decide (sz=1)) && tY P l l'
 |_,_=>false
section
variable {P:Program}{w:World}
def aeA(x:C)(h:x.er.mB=false):x.fV:=by cases x<;>first|trivial|(simp[C.er,X.mB] at h)
def LG:List Value->Value
 |[v]=>v
 |l=>.tuple l.toArray
def B9(tmps:Array Value):ResultVar->Sem Value
 |.tmp t=>pure (tmps.getD t undef)
 |.cell a t=>do loadVar t (<-asAddr (tmps.getD a undef))
def agx{fn:Func}{vs:List Value}(tmps:Array Value)(h:(fn.results.toList.mapM (B9 tmps)).run P w=.ok vs w):(results fn tmps).run P w=.ok (LG vs) w:=by
 unfold results;rw[Array.mapM_eq_mapM_toList];rw[Sem.run_bind,Sem.run_map];erw [h];simp only[Result.andThen_ok,Sem.run_pure];match vs with
 |[]=>rfl
 |[v]=>rfl
 |u::v::l=>simp[LG]
def M9{c:Ctx}{zl:Nat->Nat->Prop}{a:Act}:∀{l':List ResultVar} {l:List RV},tY P l' l=true->∀{G:Nat->C} {s:ah},St c G zl s a w->(∀x∈(ef l s).1,x.mB=false)->
  ∃cs G',cs.map C.er=(ef l s).1/\(l'.mapM (B9 a.tmps)).run P w=.ok (cs.map C.val) w/\bM w zl c.zb G cs G' (ef l s).2
 |[],[],_,G,s,h,_=>⟨[],G,rfl,by simp,bM.nil h.inv⟩
 |.tmp t::l',.t t'::l,hc,G,s,h,hk=>by
  simp only[tY,av,eH,aZ] at hc;obtain⟨⟨rfl,ht⟩,hc⟩:=hc;obtain⟨p,p1,p2,p3⟩:=cA h (o:=.tmp t) (x:=.t t) (by simp[aK,ht]);obtain⟨y,G1,f1,f2,f3,f4⟩:=qW .mv h.inv p3;rw[p1] at f1 f4;obtain⟨cs,G',g1,g2,g3⟩:=M9 hc (h.yO f4) λx hx=>hk x (cE _ hx);refine⟨y::cs,G',by simp[ef,f1,g1],?_,bM.cons f4 g3⟩;have hv:a.tmps.getD t undef=y.val:=by rw[f2,p2];rfl
  simp only[List.mapM_cons,B9,Sem.run_bind,Sem.run_pure,Result.andThen_ok,g2,hv,bg]
 |.cell ad ty::l',.c n sz agg ty'::l,hc,G,s,h,hk=>by
  simp only[tY,av,eH,aZ] at hc;obtain⟨⟨⟨⟨⟨⟨rfl,ht⟩,rfl⟩,hsz⟩,nr⟩,h1⟩,hc⟩:=hc
  have hk0:(match get s ad with
   |.ptr .own cs=>if cs.length=sz then (bif agg then .agg (X.gI ad [] cs) else (X.gI ad [] cs).headD (.aj [])) else .aj []
   |_=>.aj []:X).mB=false:=hk _ (bE ..)
  split at hk0
  ·rename_i cs0 hg;split at hk0
   ·rename_i hlen;obtain⟨D,G1,t1,t2,t3,t4,t5,t6,t7,t8,t9,t10,t11,t12⟩:=h.inv.vC ad [] (G ad) rfl;rw[h.inv.er,hg] at t1;simp only[X.kill] at t1;obtain⟨g,o,m,f,rfl,hcs⟩:=JP t1;have hm:m=sz:=by have:=dA List.length hcs;rw[X.Li] at this;simpa [hlen] using this.symm
    subst hm;obtain⟨q1,q2,q3,q4⟩:=t4;have hin:∀j,j<m->∀b k,(f j).fp b k->(C.ptr .own g o m f).fp b k:=λj hj b k hf=>C.kR (q3 j hj).1 (q3 j hj).2.1 hj hf;have Kl:a.tmps.getD ad undef=.pointer (some ⟨g,o,none⟩):=by rw[<-h.val ad ht,<-t2];rfl
    obtain⟨ii,hi,kN⟩:=r6 hsz;obtain⟨dd,AH,hda⟩:=Bu nr;have um:(isAgg ty).run P w=.ok agg w:=by subst hda;simp only[isAgg,Sem.run_bind,run_underlying AH,Result.andThen_ok];cases dd<;>rfl
    have hsize:(Go.sizeOf ty).run P w=.ok m w:=by simp[Go.sizeOf,typeInfo,hi,kN]
    have hl:(loadCells ⟨g,o,none⟩ m).run P w=.ok ((List.range m).map λj=>(f j).val).toArray w:=run_loadCells w _ m _ (λj hj=>by rw[rz];exact(q1 j hj).1)
    have fin:∀y:C,(∀b k,y.fp b k->(C.ptr .own g o m f).fp b k)->y.ok w (Zf zl c.zb)->y.rf G1->y.er=(if cs0.length=m then (bif agg then .agg (X.gI ad [] cs0) else (X.gI ad [] cs0).headD (.aj [])) else .aj [])->(loadVar ty ⟨g,o,none⟩).run P w=.ok y.val w->
      ∃cs G',cs.map C.er=(ef (.c ad m agg ty::l) s).1/\((ResultVar.cell ad ty::l').mapM (B9 a.tmps)).run P w=.ok (cs.map C.val) w/\bM w zl c.zb G cs G' (ef (.c ad m agg ty::l) s).2:=λy NA yok yrf yer akl=>by
     have jK:fL w zl c.zb G y G1 (iW ad [] .dead s):=⟨t3,yok,yrf,λt b k hf=>t8 t b k (NA b k hf),λb k hf=>h.inv.fz ad b k (t9 b k (NA b k hf)),t10,λb k hf=>⟨ad,t9 b k (NA b k hf)⟩,t11⟩;obtain⟨cs,G',g1,g2,g3⟩:=M9 hc (h.yO jK) λx hx=>hk x (cE _ hx);refine⟨y::cs,G',?_,?_,bM.cons jK g3⟩;·simp only[bg,ef,hg,yer,g1]
     ·simp only[List.mapM_cons,B9,Kl,asAddr,Sem.run_bind,Sem.run_pure,Result.andThen_ok,akl,g2,bg]
    cases agg with
    |true=>
     refine fin (.agg m f) (λb k ⟨j,hj,hf⟩=>hin j hj b k hf) ⟨λj hj=>⟨(q3 j hj).1,(q3 j hj).2.2⟩,λj hj b k hf=>(q4 j hj b k hf).2⟩ t5 ?_ ?_;·rw[aA hlen,lZ,hcs];rfl
     ·simp only[loadVar,Sem.run_bind,um,Result.andThen_ok,dB,hsize,hl,Sem.run_pure];rfl
    |false=>
     have hs1:m=1:=by simpa using h1
     subst hs1;refine fin (f 0) (λb k hf=>hin 0 (by omega) b k hf) (q3 0 (by omega)).2.2 (t5 0 (by omega)) ?_ ?_;·rw[aA hlen,q9,hcs];rfl
     ·have:=(q1 0 (by omega)).1;simp only[loadVar,Sem.run_bind,um,Result.andThen_ok,fJ,eL,run_load];simp only[nZ] at this;rw[this]
   ·simp[X.mB] at hk0
  ·simp[X.mB] at hk0
 |[],_::_,hc,_,_,_,_=>by cases hc
 |.tmp _::_,[],hc,_,_,_,_=>by cases hc
 |.cell _ _::_,[],hc,_,_,_,_=>by cases hc
 |.tmp _::_,.c _ _ _ _::_,hc,_,_,_,_=>by cases hc
 |.cell _ _::_,.t _::_,hc,_,_,_,_=>by cases hc
def afS{c:Ctx}{G:Nat->C}{zl:Nat->Nat->Prop}{s:ah}(h:Inv w zl c.zb G s)(t:Nat):∃p:C,p.er=post (get s t)/\p.val=(G t).val/\p.ok w (Zf zl λ_ _=>False)/\p.bare/\∀b k,p.fp b k->(G t).fp b k:=by
 unfold post;cases hc:(get s t).clean with
 |true=>rw[<-h.er] at hc;exact⟨G t,h.er t,rfl,C.rN _ hc (h.ok t),C.tZ _ hc,λ_ _ hf=>hf⟩
 |false=>exact⟨.dead (G t).val,rfl,rfl,trivial,trivial,λ_ _ hf=>hf.elim⟩
def SY{c:Ctx}{G:Nat->C}{zl:Nat->Nat->Prop}{s:ah}(h:Inv w zl c.zb G s):∀(n i:Nat),∃ps:List C,ps.map C.er=qH i n s/\ps.map C.val=(List.range' i n).map (λj=>(G (base+j)).val)/\(∀p∈ps,p.ok w (Zf zl λ_ _=>False)/\p.bare/\∃t,i<=t/\∀b k,p.fp b k->(G (base+t)).fp b k)/\ps.Pairwise λa b=>∀x k,a.fp x k->¬b.fp x k
 |0,i=>⟨[],rfl,rfl,λ_ hx=>(by cases hx),List.Pairwise.nil⟩
 |n+1,i=>by
  obtain⟨p,p1,p2,p3,p4,p5⟩:=afS h (base+i);obtain⟨ps,q1,q2,q3,q4⟩:=SY h n (i+1);refine⟨p::ps,by simp[qH,p1,q1],by simp[List.range'_succ,p2,q2],λx hx=>?_,eZ.2 ⟨λx hx b k hf hf'=>?_,q4⟩⟩
  ·rcases ct.1 hx with rfl|hx;·exact⟨p3,p4,i,dF _,p5⟩
   ·obtain⟨a1,a2,t,ht,a3⟩:=q3 x hx;exact⟨a1,a2,t,by omega,a3⟩
  ·obtain⟨_,_,t,ht,a3⟩:=q3 x hx;exact h.sep (base+i) (base+t) (by omega) b k (p5 b k hf) (a3 b k hf')
structure Told (P:Program) (f:FuncId) (t:A) (rs:List RV) (n:Nat):Prop where
 told:∃fn code,P.funcs[f]?=some fn/\fn.body=some code/\gX P fn.ntmps t code=true/\tY P fn.results.toList rs=true/\fn.ntmps<=base/\n<=fn.ntmps
def Told.ac{f:FuncId}{t:A}{rs:List RV}{n:Nat}(hT:Told P f t rs n){xs:List X}(hn:xs.length=n){Q:X->List X->Prop}(h:eV P t (mX xs) (Ends rs n Q)):AC P f xs Q:=by
 intro w zl zb cs hxs hA jm;obtain⟨fn,code,hf,hb,hc,hr,hnt,gp⟩:=hT.told;have hcl:cs.length=n:=by rw[<-hn,<-hxs];simp
 obtain⟨G,hst⟩:=agV hA jm (nt:=fn.ntmps) (by omega) hnt;rw[hxs] at hst;refine calls_of_wp hf hb (wp_mono (Yo t code hc hst h) λe a w' he=>?_)
 have fin:∀{G:Nat->C} {aD:Nat->Nat->Prop} {s:ah},St ⟨w,λb k=>∃x∈cs,x.fp b k,zl,zb,fn.ntmps,cs.map C.val⟩ G aD s a w'->(X.clean.cL (ef rs s).1=true/\(∀x∈(ef rs s).1,x.mB=false)/\Q (uL (ef rs s).1) (qH 0 n (ef rs s).2))->
   a.defers=[]/\∃v,(results fn a.tmps).run P w'=.ok v w'/\∃r ps aD,Ol w zl cs (.returned v) w' r ps aD/\Q r.er (ps.map C.er):=by
  intro G aD s h ⟨k1,k2,k3⟩;obtain⟨nO,G1,g1,g2,jK⟩:=M9 hr h k2;refine⟨h.defers,_,agx a.tmps g2,?_⟩;rw[<-g1] at k1 k2 k3;obtain⟨ps,p1,p2,p3,p4⟩:=SY (c:=⟨w,λb k=>∃x∈cs,x.fp b k,zl,zb,fn.ntmps,cs.map C.val⟩) jK.inv n 0;have hrc:∀x∈nO,x.er.clean=true:=λx hx=>j7.1 k1 _ (kA hx)
  obtain⟨r,r1,r2,r3,r4,r5⟩:∃r:C,r.er=uL (nO.map C.er)/\r.val=LG (nO.map C.val)/\r.ok w' (Zf aD λ_ _=>False)/\r.bare/\∀b k,r.fp b k->∃x∈nO,x.fp b k:=by
   by_cases h1:nO.length=1;·obtain⟨x,rfl⟩:=List.length_eq_one_iff.1 h1;refine⟨x,rfl,rfl,C.rN x (hrc x (fH.2 rfl)) (jK.all x (fH.2 rfl)).1,C.tZ x (hrc x (fH.2 rfl)),λb k hf=>⟨x,fH.2 rfl,hf⟩⟩
   ·refine⟨.aj nO.length λj=>nO.getD j (.dead undef),?_,?_,⟨λj hj=>⟨?_,C.rN _ (hrc _ (cW hj _)) (jK.all _ (cW hj _)).1⟩,λj hj b k hf j' hj' hne=>xG jK.apart _ hj hj' hne hf⟩,λj hj=>C.tZ _ (hrc _ (cW hj _)),λb k ⟨j,hj,hf⟩=>⟨_,cW hj _,hf⟩⟩
    ·show X.aj _=_;rw[mE nO _ C.er];cases nO with
     |nil=>rfl
     |cons x l=>cases l with
      |nil=>simp at h1
      |cons y l=>rfl
    ·show Value.tuple _=_;rw[mE nO _ C.val];cases nO with
     |nil=>rfl
     |cons x l=>cases l with
      |nil=>simp at h1
      |cons y l=>rfl
    ·have:=k2 _ (kA (cW hj (.dead undef)));exact aeA _ this
  refine⟨r,ps,aD,?_,by rw[r1,p1];exact k3⟩;have acu:∀t b k,(G1 t).fp b k->(∃y∈cs,y.fp b k)\/w.heap.size<=b:=λt b k hf=>h.tr.dom t b k (jK.mono t b k hf);have hrd:∀b k,r.fp b k->(∃y∈cs,y.fp b k)\/w.heap.size<=b:=λb k hf=>by obtain⟨x,hx,hf⟩:=r5 b k hf;obtain⟨t,ht⟩:=(jK.all x hx).2.2.2 b k hf;exact h.tr.dom t b k ht
  refine⟨by rw[r2],?_,h.tr.ext,⟨λx hx=>?_,λx hx=>?_,λx hx b k hf=>?_,λb k hz=>jK.inv.cI b k (hz.imp id λh=>h.elim),eZ.2 ⟨λx hx b k hf hf'=>?_,p4⟩⟩,λx hx b k hf=>?_,h.tr.pM,h.tr.zl⟩
  ·rw[p2,List.range_eq_range'.symm];apply iw;intro i;rw[de,de];by_cases hi:i<n;·rw[rq hi,cj (by omega)];simp only[cx,dL];rw[jK.val];exact h.args i _ (by rw[de,cj (by omega)];rfl)
   ·rw[lf (by simp;omega),lf (by omega)];rfl
  ·rcases ct.1 hx with rfl|hx;·exact r3
   ·exact(p3 x hx).1
  ·rcases ct.1 hx with rfl|hx;·exact r4
   ·exact(p3 x hx).2.1
  ·refine⟨?_,λh=>h⟩;rcases ct.1 hx with rfl|hx;·obtain⟨y,hy,hf⟩:=r5 b k hf;exact((jK.all y hy).2.2.1 b k hf).1
   ·obtain⟨_,_,t,_,a3⟩:=p3 x hx;exact(jK.inv.fz _ b k (a3 b k hf)).1
  ·obtain⟨y,hy,hf⟩:=r5 b k hf;obtain⟨_,_,t,_,a3⟩:=p3 x hx;exact(jK.all y hy).2.1 _ b k hf (a3 b k hf')
  ·rcases ct.1 hx with rfl|hx;·exact hrd b k hf
   ·obtain⟨_,_,t,_,a3⟩:=p3 x hx;exact acu _ b k (a3 b k hf)
 cases e with
 |normal=>obtain⟨G,aD,s,k,h⟩:=he;exact fin h k
 |ret=>obtain⟨G,aD,s,k,h⟩:=he;exact fin h k
 |exit id=>obtain⟨G,aD,s,k,h⟩:=he;exact k.elim
 |goto l=>exact he.elim
 |panic ch=>exact he.elim
 |outgrown=>exact he.elim
def T5(P:Program)(fn:Func)(t:A)(rs:List RV)(n:Nat):Bool:=match fn.body with
 |some code=>gX P fn.ntmps t code && tY P fn.results.toList rs && decide (fn.ntmps<=base) && decide (n<=fn.ntmps)
 |none=>false
def Told.of{f:FuncId}{fn:Func}{t:A}{rs:List RV}{n:Nat}(hf:P.funcs[f]?=some fn)(h:T5 P fn t rs n=true):Told P f t rs n:=by
 unfold T5 at h;split at h;·rename_i code hc;simp only[av,aZ] at h;exact⟨fn,code,hf,hc,h.1.1.1,h.1.1.2,h.1.2,h.2⟩
 ·cases h
end
end M
namespace M
open Go
def AC.mono[Bs]{P:Program}{f:FuncId}{xs:List X}{Q Q':X->List X->Prop}(h:AC P f xs Q)(hq:∀r ps,Q r ps->Q' r ps):AC P f xs Q':=
 λw zl zb cs e a g=>(h w zl zb cs e a g).mono λ_ _ ⟨r,ps,aD,d,q⟩=>⟨r,ps,aD,d,hq _ _ q⟩
abbrev Out:=X×List X
abbrev cB:=FuncId->List X->Option Out
def FX(f:FuncId):X->Bool
 |.fn g _=>g==f
 |_=>false
def vW(s1:ah)(fv:Option AV)(f:FuncId):Bool:=match fv with
 |none=>true
 |some x=>FX f (ax s1 x)
abbrev zu:=X->Option ah
def Gb(r:Nat)(p:Path)(s:ah)(n:Nat)(x:X):Option (X×zu):=
 match x with
 |.ref _ _=>(match look s r p with
  |some (.row .own z xs)=>some (.row .own z xs,λy=>match y with
   |.row .own z' ys=>if z'=z then some (iH r p (.row .own z ys) s) else none
   |_=>none)
  |_=>none)
 |.aB _ _ i c=>(match look s r p with
  |some (.ptr .own cs)=>if c+n<=cs.length then some (.ptr .own ((cs.drop c).take n),λy=>match y with
   |.ptr .own ys=>if ys.length=n then some (iH r p (.ptr .own (cs.take c++ys++cs.drop (c+n))) s) else none
   |_=>none) else none
  |some (.row .own z xs)=>(match xs[i]? with
   |some e=>if c+n<=e.length then some (.ptr .own ((e.drop c).take n),λy=>match y with
    |.ptr .own ys=>if ys.length=n then (if iq ys=true then some (iH r p (.row .own z (xs.set i (e.take c++ys++e.drop (c+n)))) s) else none) else none
    |_=>none) else none
   |none=>none)
  |_=>none)
 |_=>none
def qI(d:Option Nat)(s:ah):Option Out->Option ah
 |some o=>some (fX d o.1 s)
 |none=>none
def B8(d:Option Nat)(as:List (AV×PM))(back:zu):Option Out->Option ah
 |some o=>(match back (kV as o.2) with
  |some s'=>some (fX d o.1 s')
  |none=>none)
 |none=>none
def Ej(C:cB)(f:FuncId)(d:Option Nat)(as:List (AV×PM))(fv:Option AV)(ms:List X)(s0:ah):Option (X×zu)->Option ah
 |some (y,back)=>if X.bare y=true/\vW s0 fv f=true then B8 d as back (C f (gD s0 y as ms++oo s0 fv)) else none
 |none=>none
def rJ(C:cB)(f:FuncId)(d:Option Nat)(as:List (AV×PM))(fv:Option AV)(s:ah):Option ah:=
 if X.bare.jg (bZ as s).1=true then
 match dY as with
 |none=>if vW (bZ as s).2 fv f=true then qI d (bZ as s).2 (C f (gD (bZ as s).2 .dead as (bZ as s).1++oo (bZ as s).2 fv)) else none
 |some (x,n)=>Ej C f d as fv (bZ as s).1 (iW (placeOf (ax (bZ as s).2 x)).1 (placeOf (ax (bZ as s).2 x)).2 .dead (bZ as s).2) (Gb (placeOf (ax (bZ as s).2 x)).1 (placeOf (ax (bZ as s).2 x)).2 (bZ as s).2 n (ax (bZ as s).2 x))
 else none
def D9(op:BinOp):X->X->Bool
 |.int k a,.int k' b=>match op with
  |.shl=>decide (0<=b)
  |.shr=>decide (0<=b)
  |.quo=>decide (k=k') && !decide (b=0)
  |.rem=>decide (k=k') && !decide (b=0)
  |.andNot=>false
  |_=>decide (k=k')
 |.str a,.str b=>match op with
  |.add=>decide (a.size+b.size<=9223372036854775807)
  |.eql=>true
  |.neq=>true
  |_=>false
 |_,_=>false
def WT{op:BinOp}{x y:X}(h:D9 op x y=true):vT op x y:=by cases x<;>cases y<;>cases op<;>simp_all[D9,vT]
def Ii(op:UnOp):X->Bool
 |.int _ _=>match op with
  |.neg=>true
  |_=>false
 |.bool _=>match op with
  |.not=>true
  |_=>false
 |_=>false
def ajT{op:UnOp}{x:X}(h:Ii op x=true):yQ op x:=by cases x<;>cases op<;>simp_all[Ii,yQ]
def FY:List X->Option UInt8
 |[.int .u8 n]=>if 0<=n/\n<256 then some (UInt8.ofNat n.toNat) else none
 |_=>none
def adu{e:List X}{b:UInt8}(h:FY e=some b):e=[.int .u8 b.toNat]:=by
 unfold FY at h;split at h
 ·split at h
  ·rename_i n hn;obtain rfl:=iJ h;have:(UInt8.ofNat n.toNat).toNat=n.toNat:=by rw[IF];exact Nat.mod_eq_of_lt (by omega)
   rw[this];congr 2;omega
  ·cases h
 ·cases h
def qX:List (List X)->Option (List UInt8)
 |[]=>some []
 |e::l=>match FY e,qX l with
  |some b,some r=>some (b::r)
  |_,_=>none
def Ub:∀{xs:List (List X)} {l:List UInt8},qX xs=some l->xs=l.map λb=>[.int .u8 b.toNat]
 |[],l,h=>by cases h;rfl
 |e::r,l,h=>by
  unfold qX at h;split at h;·rename_i b r' h1 h2;obtain rfl:=iJ h;rw[adu h1,Ub h2];rfl
  ·cases h
def Nk(l:List UInt8):qX (l.map λb=>[.int .u8 (b.toNat:Int)])=some l:=by
 induction l with
 |nil=>rfl
 |cons b l ih=>
  simp only[bg,qX,ih];have:FY [.int .u8 (b.toNat:Int)]=some b:=by have h:=b.toNat_lt;show (if 0<=(b.toNat:Int)/\(b.toNat:Int)<256 then some (UInt8.ofNat (b.toNat:Int).toNat) else none)=some b;rw[aA ⟨by omega,by omega⟩];simp
  rw[this]
def fY:List (List X)->Bool
 |[]=>true
 |e::l=>e.all scalar && fY l
def M0{xs:List (List X)}(h:fY xs=true):scalars xs:=by
 induction xs with
 |nil=>intro e he;cases he
 |cons a l ih=>
  simp only[fY,av,pI] at h;intro e he c hc;rcases ct.1 he with rfl|he;·exact h.1 c hc
  ·exact ih h.2 e he c hc
def cK(h:Tk)(l:List X):Bool:=match h with
 |.al=>true
 |_=>l.all λx=>iq (cellsOf x)
def agL{h:Tk}{l:List X}(e:cK h l=true):HT h l:=by
 cases h;·intro x hx;exact(pI.1 e) x hx
 ·trivial
 ·intro x hx;exact(pI.1 e) x hx
def cH:List Nat->List X->Bool
 |[],[]=>true
 |n::ns,y::ys=>((cellsOf y).length==n) && cH ns ys
 |_,_=>false
def TH:∀{ns:List Nat} {ys:List X},cH ns ys=true->yH ns ys
 |[],[],_=>trivial
 |[],_::_,h=>by cases h
 |_::_,[],h=>by cases h
 |n::ns,y::ys,h=>by simp only[cH,av,eH] at h;exact⟨h.1,TH h.2⟩
def cJ(sz:Nat)(l:List X):Bool:=l.all λx=>((cellsOf x).length==sz) && iq (cellsOf x)
def HY(s:ah)(r:Nat)(p:Path)(i c:Nat)(l:List X):Bool:=match look s r p with
 |some (.row .own _ xs)=>(match xs[i]? with
  |some e=>decide (c+l.length<=e.length) && iq l
  |none=>false)
 |some (.ptr .own cs)=>decide (c+l.length<=cs.length)
 |_=>false
def agY{s:ah}{r:Nat}{p:Path}{i c:Nat}{l:List X}(h:HY s r p i c l=true):storable s r p i c l:=by
 unfold HY at h;unfold storable;split at h
 ·split at h;·rename_i h1 _ _ h2;rw[h1];simp only[h2];simpa using h
  ·cases h
 ·rename_i h1;rw[h1];simpa using h
 ·cases h
def S2(d:Option Nat)(cs:List X)(s1:ah):Option Out->Option ah
 |some (r,.agg ys::_)=>if iq ys=true then (match l5 cs ys s1 with
  |some s'=>some (fX d r s')
  |none=>none) else none
 |_=>none
def cQ(C:cB)(ok:FuncId->Bool)(o:cF)(s:ah):Option ah:=
 match o with
 |.mv d x=>some (put d (ax s x) s)
 |.bh d h x=>some (put d (take h (ax s x) s).1 (take h (ax s x) s).2)
 |.pick d c a b=>match ax s c with
  |.bool t=>some (put d (B1 t (ax s a) (ax s b)) s)
  |_=>none
 |.un d op x=>if Ii op (ax s x)=true then some (put d (Nl op (ax s x)) s) else none
 |.bin d op x y=>if D9 op (ax s x) (ax s y)=true then some (put d (Jb op (ax s x) (ax s y)) s) else none
 |.beq d neg x y=>match ax s x,ax s y with
  |.bool p,.bool q=>some (put d (.bool (xor neg (p==q))) s)
  |_,_=>none
 |.sH d neg x=>match ax s x with
  |.row _ _ xs=>if mG xs=true then some (put d (.bool neg) s) else none
  |_=>none
 |.tL d neg ks x y=>match ax s x,ax s y with
  |.agg p,.agg q=>match j9 ks p q with
   |some t=>some (put d (.bool (xor neg t)) s)
   |none=>none
  |_,_=>none
 |.conv d k x=>match ax s x with
  |.int _ n=>some (put d (.int k (k.wrap n)) s)
  |_=>none
 |.bytes d x=>match ax s x with
  |.str t=>some (put d (.row .own 1 (t.data.toList.map λb=>[.int .u8 b.toNat])) s)
  |_=>none
 |.text d x=>match rowAt s (ax s x) with
  |some (1,xs)=>if xs.length<=9223372036854775807 then (match qX xs with
   |some l=>some (put d (.str ⟨l.toArray⟩) s)
   |none=>none) else none
  |_=>none
 |.box d h x=>if 0<(cellsOf (take h (ax s x) s).1).length then some (put d (.ptr .own (cellsOf (take h (ax s x) s).1)) (take h (ax s x) s).2) else none
 |.new d z=>some (put d (.ptr .own z) s)
 |.build d h z ps=>if cK h (takes h (ps.map (·.2)) s).1=true/\cH (ps.map (·.1.2)) (takes h (ps.map (·.2)) s).1=true then some (put d (.agg (wA z (ps.map (·.1.1)) (takes h (ps.map (·.2)) s).1)) (takes h (ps.map (·.2)) s).2) else none
 |.lit d h sz ps=>if cJ sz (takes h ps s).1=true then some (put d (.row .own sz ((takes h ps s).1.map cellsOf)) (takes h ps s).2) else none
 |.make d sz bytes z n=>match ax s n with
  |.int _ i=>if 0<=i/\i*bytes<=140737488355328 then some (put d (.row .own sz (List.replicate i.toNat z)) s) else none
  |_=>none
 |.load d sz agg a=>match gE s (ax s a) with
  |some cs=>if sz<=cs.length then some (put d (bif agg then .agg (cs.take sz) else cs.headD .dead) s) else none
  |none=>none
 |.store sz h a x=>if (cellsOf (take h (ax s x) s).1).length=sz then (match ax (take h (ax s x) s).2 a with
  |.aB r p i c=>if HY (take h (ax s x) s).2 r p i c (cellsOf (take h (ax s x) s).1)=true then some (setCells r p i c (cellsOf (take h (ax s x) s).1) (take h (ax s x) s).2) else none
  |_=>none) else none
 |.eP d x=>match ax s x with
  |.aB r p i c=>some (put d (.aB r p i c) s)
  |.ptr m cs=>some (put d (.ptr m cs) s)
  |.fn f cs=>some (put d (.fn f cs) s)
  |_=>none
 |.pZ d x off=>match ax s x with
  |.aB r p i c=>some (put d (.aB r p i (c+off)) s)
  |.ptr m cs=>some (put d (.ptr m (cs.drop off)) s)
  |_=>none
 |.jG d x off sz agg=>match ax s x with
  |.agg cs=>if off+sz<=cs.length then some (put d (bif agg then .agg ((cs.drop off).take sz) else (cs.drop off).headD .dead) s) else none
  |_=>none
 |.iO d sz x i=>match ax s i with
  |.int _ n=>if 0<=n then (match ax s x with
   |.row m z xs=>if z=sz then (match xs[n.toNat]? with
    |some e=>some (put d (.ptr m e) s)
    |none=>none) else none
   |.ref r p=>(match look s r p with
    |some (.row _ z xs)=>if z=sz/\n.toNat<xs.length then some (put d (.aB r p n.toNat 0) s) else none
    |_=>none)
   |.cut r p lo hi=>(match look s r p with
    |some (.row _ z _)=>if z=sz/\lo+n.toNat<hi then some (put d (.aB r p (lo+n.toNat) 0) s) else none
    |_=>none)
   |_=>none) else none
  |_=>none
 |.dD d x i=>match ax s x,ax s i with
  |.str t,.int _ n=>if 0<=n then (match t.data[n.toNat]? with
   |some b=>some (put d (.int .u8 b.toNat) s)
   |none=>none) else none
  |_,_=>none
 |.tN d n sz agg x i=>match ax s x,ax s i with
  |.agg cs,.int _ j=>if 0<=j/\j<n/\cs.length=n*sz then some (put d (bif agg then .agg ((cs.drop (j.toNat*sz)).take sz) else (cs.drop (j.toNat*sz)).headD .dead) s) else none
  |_,_=>none
 |.ext d x i=>match ax s x with
  |.aj cs=>if i<cs.length then some (put d (cs.getD i .dead) s) else none
  |_=>none
 |.gy d x lo hi=>match ax s x with
  |.str t=>if 0<=asNat s lo 0/\asNat s lo 0<=asNat s hi t.size/\asNat s hi t.size<=t.size then some (put d (.str (t.extract (asNat s lo 0).toNat (asNat s hi t.size).toNat)) s) else none
  |_=>none
 |.oT d sz x lo hi=>match rowAt s (ax s x) with
  |some (z0,xs)=>if z0=sz/\0<=asNat s lo 0/\asNat s lo 0<=asNat s hi xs.length/\asNat s hi xs.length<=xs.length then (match ax s x with
   |.row m z _=>some (put d (.row m z ((xs.take (asNat s hi xs.length).toNat).drop (asNat s lo 0).toNat)) s)
   |.ref r p=>some (put d (.cut r p (asNat s lo 0).toNat (asNat s hi xs.length).toNat) s)
   |_=>none) else none
  |none=>none
 |.wg sz z x=>match ax s x with
  |.cut r p lo hi=>(match look s r p with
   |some (.row .own z' xs)=>if z'=sz then some (iH r p (.row .own z' (EJ lo hi z xs)) s) else none
   |_=>none)
  |_=>none
 |.rI d f x as=>match ax s x with
  |.agg cs=>if X.bare.jg (cg cs s).1=true then S2 d cs (cg cs s).2 (C f (.agg (cg cs s).1::gD (cg cs s).2 .dead as (as.map λ_=>.dead))) else none
  |_=>none
 |.sC d fz sz agg a=>match gE s (ax s a) with
  |some cs=>if sz<=cs.length then ghost fz d (put d (bif agg then .agg (cs.take sz) else cs.headD .dead) s) else none
  |none=>none
 |.qB d f cs=>some (put d (.fn f (cs.map (ax s))) s)
 |.len d x=>match rowAt s (ax s x) with
  |some (z,xs)=>some (put d (.int .i64 xs.length) s)
  |none=>none
 |.tf d x=>match ax s x with
  |.str t=>some (put d (.int .i64 t.size) s)
  |_=>none
 |.app d h sz bytes x y=>match (take .mv (ax s x) s).1 with
  |.row .own z xs=>if z=sz then (match h with
   |.mv=>(match (cD (ax (take .mv (ax s x) s).2 y) (take .mv (ax s x) s).2).1 with
    |.row .own z' ys=>if z'=sz/\(xs.length+ys.length)*bytes<=140737488355328 then some (put d (.row .own z (xs++ys)) (cD (ax (take .mv (ax s x) s).2 y) (take .mv (ax s x) s).2).2) else none
    |_=>none)
   |_=>(match rowAt (take .mv (ax s x) s).2 (ax (take .mv (ax s x) s).2 y) with
    |some (z',ys)=>if z'=sz/\(xs.length+ys.length)*bytes<=140737488355328/\fY ys=true then some (put d (.row .own z (xs++ys)) (take .mv (ax s x) s).2) else none
    |none=>none)) else none
  |_=>none
 |.mn d xs=>match xs.map (ax s) with
  |[.int k a,.int k' b]=>if k=k' then some (put d (.int k (if b<a then b else a)) s) else none
  |_=>none
 |.mx d xs=>match xs.map (ax s) with
  |[.int k a,.int k' b]=>if k=k' then some (put d (.int k (if b>a then b else a)) s) else none
  |_=>none
 |.call d f as=>rJ C f d as none s
 |.om d x as=>match ax s x with
  |.fn f _=>if ok f=true then rJ C f d as (some x) s else none
  |_=>none
end M
namespace M
open Go
def cB.Sound[Bs](P:Program)(C:cB):Prop:=∀f xs o,C f xs=some o->AC P f xs λr ps=>r=o.1/\ps=o.2
section
variable [Bs]{P:Program}{C:cB}{ok:FuncId->Bool}
def Pn{s1:ah}{fv:Option AV}{f:FuncId}(h:vW s1 fv f=true):rK s1 fv f:=by
 unfold vW at h;unfold rK;cases fv with
 |none=>trivial
 |some x=>
  simp only at h⊢;unfold FX at h;split at h;·rename_i h1;rw[h1];simpa using h
  ·cases h
def aew{r:Nat}{p:Path}{s:ah}{n:Nat}{x y:X}{back:zu}(h:Gb r p s n x=some (y,back)){go:X->(X->(ah->Prop)->Prop)->Prop}
  (hg:∀b':X->(ah->Prop)->Prop,(∀q K s',back q=some s'->K s'->b' q K)->go y b'):xy r p s n x go:=by
 unfold Gb at h;unfold xy;split at h
 ·split at h
  ·rename_i z xs hl;obtain⟨rfl,rfl⟩:=IE (iJ h);simp only[hl];refine hg _ λq K s' hb hK=>?_;simp only at hb;split at hb
   ·split at hb;·rename_i hz;obtain rfl:=iJ hb;exact⟨hz,hK⟩
    ·cases hb
   ·cases hb
  ·cases h
 ·split at h
  ·rename_i cs hl;split at h
   ·rename_i hc;obtain⟨rfl,rfl⟩:=IE (iJ h);simp only[hl];refine⟨hc,hg _ λq K s' hb hK=>?_⟩;simp only at hb;split at hb
    ·split at hb;·rename_i hz;obtain rfl:=iJ hb;exact⟨hz,hK⟩
     ·cases hb
    ·cases hb
   ·cases h
  ·rename_i z xs hl;split at h
   ·rename_i e he;split at h
    ·rename_i hc;obtain⟨rfl,rfl⟩:=IE (iJ h);simp only[hl,he];refine⟨hc,hg _ λq K s' hb hK=>?_⟩;simp only at hb;split at hb
     ·split at hb
      ·split at hb;·rename_i hz hso;obtain rfl:=iJ hb;exact⟨hz,hso,hK⟩
       ·cases hb
      ·cases hb
     ·cases hb
    ·cases h
   ·cases h
  ·cases h
 ·cases h
def Pj(hC:C.Sound P){f:FuncId}{d:Option Nat}{as:List (AV×PM)}{fv:Option AV}{s s':ah}(h:rJ C f d as fv s=some s'){K:ah->Prop}(hK:K s'):tU P f d as fv s K:=by
 unfold rJ at h;unfold tU;split at h
 ·rename_i hb;refine⟨hb,?_⟩;split at h
  ·rename_i hm;split at h
   ·rename_i hc;simp only[hm];refine⟨Pn hc,?_⟩;unfold qI at h;split at h;·rename_i o ho;obtain rfl:=iJ h;exact(hC _ _ _ ho).mono λr ps ⟨h1,_⟩=>by rw[h1];exact hK
    ·cases h
   ·cases h
  ·rename_i x n hm;simp only[hm];unfold Ej at h;split at h
   ·rename_i y back hmu;split at h
    ·rename_i hc;refine aew hmu λb' hb'=>⟨hc.1,Pn hc.2,?_⟩;unfold B8 at h;split at h
     ·rename_i o ho;split at h;·rename_i s2 hs2;obtain rfl:=iJ h;refine(hC _ _ _ ho).mono λr ps ⟨h1,h2⟩=>?_;rw[h1,h2];exact hb' _ _ _ hs2 hK
      ·cases h
     ·cases h
    ·cases h
   ·cases h
 ·cases h
def PY(hC:C.Sound P)(hok:∀f,ok f=true->az P f=true){o:cF}{s s':ah}(h:cQ C ok o s=some s'){K:ah->Prop}(hK:K s'):aM P o s K:=by
 cases o with
 |mv d x=>cases h;exact hK
 |bh d h1 x=>cases h;exact hK
 |pick d c a b=>simp only[cQ] at h;simp only[aM];split at h<;>first|(rename_i h1;rw[h1];cases h;exact hK)|cases h
 |un d op x=>
  simp only[cQ] at h;split at h;·rename_i h1;cases h;exact⟨ajT h1,hK⟩
  ·cases h
 |bin d op x y=>
  simp only[cQ] at h;split at h;·rename_i h1;cases h;exact⟨WT h1,hK⟩
  ·cases h
 |beq d neg x y=>
  simp only[cQ] at h;simp only[aM];split at h;·rename_i h1 h2;rw[h1,h2];cases h;exact hK
  ·cases h
 |sH d neg x=>
  simp only[cQ] at h;simp only[aM];split at h
  ·rename_i h1;rw[h1];split at h;·rename_i hc;cases h;intro b hb;rw[hb hc];cases neg<;>exact hK
   ·cases h
  ·cases h
 |tL d neg ks x y=>
  simp only[cQ] at h;simp only[aM];split at h
  ·rename_i h1 h2;rw[h1,h2];split at h;·rename_i t ht;cases h;exact⟨t,ht,hK⟩
   ·cases h
  ·cases h
 |conv d k x=>
  simp only[cQ] at h;simp only[aM];split at h;·rename_i h1;rw[h1];cases h;exact hK
  ·cases h
 |bytes d x=>
  simp only[cQ] at h;simp only[aM];split at h;·rename_i h1;rw[h1];cases h;exact hK
  ·cases h
 |text d x=>
  simp only[cQ] at h;simp only[aM];split at h
  ·rename_i xs h1;split at h
   ·rename_i h2;split at h;·rename_i l h3;cases h;exact⟨xs,h1,h2,l,Ub h3,hK⟩
    ·cases h
   ·cases h
  ·cases h
 |box d h1 x=>
  simp only[cQ] at h;split at h;·rename_i h2;cases h;exact⟨h2,hK⟩
  ·cases h
 |new d z=>cases h;exact hK
 |build d h1 z ps=>
  simp only[cQ] at h;split at h;·rename_i h2;cases h;exact⟨agL h2.1,TH h2.2,hK⟩
  ·cases h
 |lit d h1 sz ps=>
  simp only[cQ] at h;split at h;·rename_i h2;cases h;refine⟨λx hx=>?_,hK⟩;have:=(pI.1 h2) x hx;simpa using this
  ·cases h
 |make d sz bytes z n=>
  simp only[cQ] at h;simp only[aM];split at h
  ·rename_i h1;rw[h1];split at h;·rename_i h2;cases h;exact⟨h2.1,h2.2,hK⟩
   ·cases h
  ·cases h
 |load d sz agg a=>
  simp only[cQ] at h;simp only[aM];split at h
  ·rename_i cs h1;split at h;·rename_i h2;cases h;exact⟨cs,h1,h2,hK⟩
   ·cases h
  ·cases h
 |store sz h1 a x=>
  simp only[cQ] at h;simp only[aM];split at h
  ·rename_i h2;refine⟨h2,?_⟩;split at h
   ·rename_i h3;rw[h3];split at h;·rename_i h4;cases h;exact⟨agY h4,hK⟩
    ·cases h
   ·cases h
  ·cases h
 |eP d x=>simp only[cQ] at h;simp only[aM];split at h<;>first|(rename_i h1;rw[h1];cases h;exact hK)|cases h
 |pZ d x off=>simp only[cQ] at h;simp only[aM];split at h<;>first|(rename_i h1;rw[h1];cases h;exact hK)|cases h
 |jG d x off sz agg=>
  simp only[cQ] at h;simp only[aM];split at h
  ·rename_i h1;rw[h1];split at h;·rename_i h2;cases h;exact⟨h2,hK⟩
   ·cases h
  ·cases h
 |iO d sz x i=>
  simp only[cQ] at h;simp only[aM];split at h
  ·rename_i h1;rw[h1];split at h
   ·rename_i h2;refine⟨h2,?_⟩;split at h
    ·rename_i h3;rw[h3];split at h
     ·rename_i h4;refine⟨h4,?_⟩;split at h;·rename_i e h5;cases h;exact⟨e,h5,hK⟩
      ·cases h
     ·cases h
    ·rename_i h3;rw[h3];simp only;split at h
     ·rename_i h4;rw[h4];split at h;·rename_i h5;cases h;exact⟨h5.1,h5.2,hK⟩
      ·cases h
     ·cases h
    ·rename_i h3;rw[h3];simp only;split at h
     ·rename_i h4;rw[h4];split at h;·rename_i h5;cases h;exact⟨h5.1,h5.2,hK⟩
      ·cases h
     ·cases h
    ·cases h
   ·cases h
  ·cases h
 |dD d x i=>
  simp only[cQ] at h;simp only[aM];split at h
  ·rename_i h1 h2;rw[h1,h2];split at h
   ·rename_i h3;refine⟨h3,?_⟩;split at h;·rename_i b h4;cases h;exact⟨b,h4,hK⟩
    ·cases h
   ·cases h
  ·cases h
 |tN d n sz agg x i=>
  simp only[cQ] at h;simp only[aM];split at h
  ·rename_i h1 h2;rw[h1,h2];split at h;·rename_i h3;cases h;exact⟨h3.1,h3.2.1,h3.2.2,hK⟩
   ·cases h
  ·cases h
 |ext d x i=>
  simp only[cQ] at h;simp only[aM];split at h
  ·rename_i h1;rw[h1];split at h;·rename_i h3;cases h;exact⟨h3,hK⟩
   ·cases h
  ·cases h
 |gy d x lo hi=>
  simp only[cQ] at h;simp only[aM];split at h
  ·rename_i h1;rw[h1];split at h;·rename_i h3;cases h;exact⟨h3.1,h3.2.1,h3.2.2,hK⟩
   ·cases h
  ·cases h
 |oT d sz x lo hi=>
  simp only[cQ] at h;simp only[aM];split at h
  ·rename_i z0 xs h1;split at h;·rename_i h2;obtain⟨rfl,h2,h3,h4⟩:=h2;refine⟨xs,h1,h2,h3,h4,?_⟩;split at h<;>first|(rename_i h5;rw[h5];cases h;exact hK)|cases h
   ·cases h
  ·cases h
 |wg sz z x=>
  simp only[cQ] at h;simp only[aM];split at h
  ·rename_i h1;rw[h1];simp only;split at h
   ·rename_i h2;rw[h2];split at h;·rename_i h3;cases h;exact⟨h3,hK⟩
    ·cases h
   ·cases h
  ·cases h
 |rI d f x as=>
  simp only[cQ] at h;simp only[aM];split at h
  ·rename_i cs h1;rw[h1];split at h
   ·rename_i h2;refine⟨h2,?_⟩;unfold S2 at h;split at h
    ·rename_i r ys ps ho;split at h
     ·rename_i h3;split at h;·rename_i s2 h4;cases h;exact(hC _ _ _ ho).mono λr' ps' ⟨e1,e2⟩=>by rw[e1,e2];exact⟨h3,_,h4,hK⟩
      ·cases h
     ·cases h
    ·cases h
   ·cases h
  ·cases h
 |sC d fz sz agg a=>
  simp only[cQ] at h;simp only[aM];split at h
  ·rename_i cs h1;split at h;·rename_i h2;exact⟨cs,h1,h2,s',h,hK⟩
   ·cases h
  ·cases h
 |qB d f cs=>cases h;exact hK
 |len d x=>
  simp only[cQ] at h;simp only[aM];split at h;·rename_i z xs h1;cases h;exact⟨z,xs,h1,hK⟩
  ·cases h
 |tf d x=>
  simp only[cQ] at h;simp only[aM];split at h;·rename_i h1;rw[h1];cases h;exact hK
  ·cases h
 |app d h1 sz bytes x y=>
  simp only[cQ] at h;simp only[aM];split at h
  ·rename_i z xs h2;rw[h2];split at h
   ·rename_i h3;refine⟨h3,?_⟩;cases h1 with
    |mv=>
     simp only at h⊢;split at h
     ·rename_i h4;simp only[h4];split at h;·rename_i h5;cases h;exact⟨h5.1,h5.2,hK⟩
      ·cases h
     ·cases h
    |al=>
     simp only at h⊢;split at h
     ·rename_i z' ys h4;split at h;·rename_i h5;obtain⟨rfl,h5,h6⟩:=h5;cases h;exact⟨ys,h4,h5,M0 h6,hK⟩
      ·cases h
     ·cases h
    |aX=>
     simp only at h⊢;split at h
     ·rename_i z' ys h4;split at h;·rename_i h5;obtain⟨rfl,h5,h6⟩:=h5;cases h;exact⟨ys,h4,h5,M0 h6,hK⟩
      ·cases h
     ·cases h
   ·cases h
  ·cases h
 |mn d xs=>
  simp only[cQ] at h;simp only[aM];split at h
  ·rename_i h1;rw[h1];split at h;·rename_i h2;cases h;exact⟨h2,hK⟩
   ·cases h
  ·cases h
 |mx d xs=>
  simp only[cQ] at h;simp only[aM];split at h
  ·rename_i h1;rw[h1];split at h;·rename_i h2;cases h;exact⟨h2,hK⟩
   ·cases h
  ·cases h
 |call d f as=>exact Pj hC h hK
 |om d x as=>
  simp only[cQ] at h;simp only[aM];split at h
  ·rename_i h1;rw[h1];split at h;·rename_i h2;exact⟨hok _ h2,Pj hC h hK⟩
   ·cases h
  ·cases h
end
end M
namespace M
open Go
mutual
def X.eX:X->X->Bool
 |.dead,.dead=>true
 |.int k n,.int k' n'=>decide (k=k') && decide (n=n')
 |.bool a,.bool b=>a==b
 |.str s,.str t=>decide (s=t)
 |.row m z xs,.row m' z' ys=>decide (m=m') && z==z' && X.rS xs ys
 |.ptr m xs,.ptr m' ys=>decide (m=m') && X.me xs ys
 |.agg xs,.agg ys=>X.me xs ys
 |.aj xs,.aj ys=>X.me xs ys
 |.fn f xs,.fn g ys=>f==g && X.me xs ys
 |.ref s p,.ref t q=>s==t && p==q
 |.aB s p i c,.aB t q j d=>s==t && p==q && i==j && c==d
 |.cut s p i c,.cut t q j d=>s==t && p==q && i==j && c==d
 |_,_=>false
def X.me:List X->List X->Bool
 |[],[]=>true
 |x::l,y::r=>X.eX x y && X.me l r
 |_,_=>false
def X.rS:List (List X)->List (List X)->Bool
 |[],[]=>true
 |x::l,y::r=>X.me x y && X.rS l r
 |_,_=>false
end
mutual
def X.P6:∀{x y:X},X.eX x y=true->x=y
 |.dead,y,h=>by cases y<;>simp_all[X.eX]
 |.int k n,y,h=>by cases y<;>simp_all[X.eX]
 |.bool a,y,h=>by cases y<;>simp_all[X.eX]
 |.str s,y,h=>by cases y<;>simp_all[X.eX]
 |.row m z xs,y,h=>by cases y<;>simp only[X.eX,av,aZ,eH,fJ] at h;rw[h.1.1,h.1.2,X.P4 h.2]
 |.ptr m xs,y,h=>by cases y<;>simp only[X.eX,av,aZ,eH,fJ] at h;rw[h.1,X.wo h.2]
 |.agg xs,y,h=>by cases y<;>simp only[X.eX,fJ] at h;rw[X.wo h]
 |.aj xs,y,h=>by cases y<;>simp only[X.eX,fJ] at h;rw[X.wo h]
 |.fn f xs,y,h=>by cases y<;>simp only[X.eX,av,eH,fJ] at h;rw[h.1,X.wo h.2]
 |.ref s p,y,h=>by cases y<;>simp_all[X.eX]
 |.aB s p i c,y,h=>by cases y<;>simp_all[X.eX]
 |.cut s p i c,y,h=>by cases y<;>simp_all[X.eX]
def X.wo:∀{x y:List X},X.me x y=true->x=y
 |[],[],_=>rfl
 |[],_::_,h=>by simp[X.me] at h
 |_::_,[],h=>by simp[X.me] at h
 |x::l,y::r,h=>by simp only[X.me,av] at h;rw[X.P6 h.1,X.wo h.2]
def X.P4:∀{x y:List (List X)},X.rS x y=true->x=y
 |[],[],_=>rfl
 |[],_::_,h=>by simp[X.rS] at h
 |_::_,[],h=>by simp[X.rS] at h
 |x::l,y::r,h=>by simp only[X.rS,av] at h;rw[X.wo h.1,X.P4 h.2]
end
mutual
def X.P7:∀x:X,X.eX x x=true
 |.dead=>rfl
 |.int k n=>by simp[X.eX]
 |.bool a=>by simp[X.eX]
 |.str s=>by simp[X.eX]
 |.row m z xs=>by simp[X.eX,X.P5 xs]
 |.ptr m xs=>by simp[X.eX,X.wq xs]
 |.agg xs=>by simp[X.eX,X.wq xs]
 |.aj xs=>by simp[X.eX,X.wq xs]
 |.fn f xs=>by simp[X.eX,X.wq xs]
 |.ref s p=>by simp[X.eX]
 |.aB s p i c=>by simp[X.eX]
 |.cut s p i c=>by simp[X.eX]
def X.wq:∀x:List X,X.me x x=true
 |[]=>rfl
 |x::l=>by simp[X.me,X.P7 x,X.wq l]
def X.P5:∀x:List (List X),X.rS x x=true
 |[]=>rfl
 |x::l=>by simp[X.rS,X.wq x,X.P5 l]
end
def rR:ah->ah->Bool
 |[],[]=>true
 |(k,x)::l,(k',y)::r=>k==k' && X.eX x y && rR l r
 |_,_=>false
def P3:∀{x y:ah},rR x y=true->x=y
 |[],[],_=>rfl
 |[],_::_,h=>by simp[rR] at h
 |_::_,[],h=>by simp[rR] at h
 |(k,x)::l,(k',y)::r,h=>by simp only[rR,av,eH] at h;rw[h.1.1,X.P6 h.1.2,P3 h.2]
def same:Option ah->Option ah->Option ah
 |some a,some b=>if rR a b=true then some a else none
 |_,_=>none
def eG(C:cB)(ok:FuncId->Bool)(g:G)(s:ah):Option ah:=match g with
 |⟨none,o⟩=>cQ C ok o s
 |⟨some (t,b),o⟩=>match get s t with
  |.bool v=>if v=b then cQ C ok o ((t,.bool b)::s) else some (fX o.dst (.aj []) ((t,.bool (!b))::s))
  |.aj []=>some (fX o.dst (.aj []) s)
  |_=>none
def j8(C:cB)(ok:FuncId->Bool):List G->ah->Option ah
 |[],s=>some s
 |g::l,s=>(eG C ok g s).bind (j8 C ok l)
def eD(C:cB)(ok:FuncId->Bool):DT->ah->Option ah
 |.nil ks,s=>some (keep ks s)
 |.step _ g t,s=>(eG C ok g s).bind (eD C ok t)
 |.alt a b,s=>same (eD C ok a s) (eD C ok b s)
 |.kp ks t,s=>eD C ok t (keep ks s)
abbrev cG:=Option (Ex×ah)
def fG(k:ah->cG):cG->cG
 |some (.normal,s)=>k s
 |some (.exit i,s)=>some (.exit i,s)
 |some (.ret,s)=>some (.ret,s)
 |none=>none
def lg(id:Nat):cG->cG
 |some (.exit i,s)=>if i=id then some (.normal,s) else some (.exit i,s)
 |some (.normal,s)=>some (.normal,s)
 |some (.ret,s)=>some (.ret,s)
 |none=>none
def lR(ks:List Nat):cG->cG
 |some (.normal,s)=>some (.normal,keep ks s)
 |some (.exit i,s)=>some (.exit i,s)
 |some (.ret,s)=>some (.ret,s)
 |none=>none
def iS:Option ah->cG
 |some s=>some (.normal,s)
 |none=>none
def iter(f:ah->cG):Nat->ah->cG
 |0,_=>none
 |n+1,s=>fG (iter f n) (f s)
def eA(C:cB)(ok:FuncId->Bool)(N:Nat):A->ah->cG
 |.skip,s=>some (.normal,s)
 |.ret,s=>some (.ret,s)
 |.exit id,s=>some (.exit id,s)
 |.ops l,s=>iS (j8 C ok l s)
 |.draw t,s=>iS (eD C ok t s)
 |.seq a b,s=>fG (eA C ok N b) (eA C ok N a s)
 |.cond c a b,s=>match ax s c with
  |.bool t=>if t=true then eA C ok N a s else eA C ok N b s
  |_=>none
 |.block id b,s=>lg id (eA C ok N b s)
 |.loop b,s=>iter (eA C ok N b) N s
 |.pk ks b,s=>lR ks (eA C ok N b s)
structure Fn where
 body:A
 rs:List RV
 n:Nat
abbrev iL:=FuncId->Option Fn
def fin(F:Fn):cG->Option Out
 |some (.exit _,_)=>none
 |some (_,s)=>if X.clean.cL (ef F.rs s).1=true/\(ef F.rs s).1.any X.mB=false then some (uL (ef F.rs s).1,qH 0 F.n (ef F.rs s).2) else none
 |none=>none
def eF(C:cB)(ok:FuncId->Bool)(N:Nat)(F:Fn)(xs:List X):Option Out:=
 if xs.length=F.n then fin F (eA C ok N F.body (mX xs)) else none
def au(T:iL)(f:FuncId):Bool:=(T f).isSome
def exec(L:cB)(T:iL):Nat->cB
 |0,_,_=>none
 |n+1,f,xs=>match T f with
  |some F=>eF (exec L T n) (au T) n F xs
  |none=>L f xs
section
variable [Bs]{P:Program}{C:cB}{ok:FuncId->Bool}
def PW(hC:C.Sound P)(hok:∀f,ok f=true->az P f=true){g:G}{s s':ah}(h:eG C ok g s=some s'){K:ah->Prop}(hK:K s'):pR P g s K:=by
 obtain⟨gg,o⟩:=g;cases gg with
 |none=>exact PY hC hok h hK
 |some tb=>
  obtain⟨t,b⟩:=tb;simp only[eG] at h;simp only[pR];split at h
  ·rename_i v hv;rw[hv];split at h;·rename_i lJ;exact⟨λ_=>PY hC hok h hK,λhn=>by subst lJ;cases v<;>simp at hn⟩
   ·rename_i lJ;exact⟨λhh=>(lJ hh).elim,λ_=>by cases h;exact hK⟩
  ·rename_i hv;rw[hv];cases h;exact hK
  ·cases h
def P0(hC:C.Sound P)(hok:∀f,ok f=true->az P f=true):∀{l:List G} {s s':ah},j8 C ok l s=some s'->∀{Q:Ex->ah->Prop},Q .normal s'->kF P l s Q
 |[],s,s',h,Q,hQ=>by cases h;exact hQ
 |g::l,s,s',h,Q,hQ=>by
  simp only[j8] at h;cases h1:eG C ok g s with
  |none=>rw[h1] at h;cases h
  |some s1=>rw[h1] at h;exact PW hC hok h1 (P0 hC hok h hQ)
def Ah(hC:C.Sound P)(hok:∀f,ok f=true->az P f=true):∀{t:DT} {s s':ah},eD C ok t s=some s'->∀{Q:Ex->ah->Prop},Q .normal s'->iz P t s Q
 |.nil ks,s,s',h,Q,hQ=>by cases h;exact hQ
 |.step i g t,s,s',h,Q,hQ=>by
  simp only[eD] at h;cases h1:eG C ok g s with
  |none=>rw[h1] at h;cases h
  |some s1=>rw[h1] at h;exact PW hC hok h1 (Ah hC hok h hQ)
 |.alt a b,s,s',h,Q,hQ=>by
  simp only[eD] at h;unfold same at h;split at h
  ·rename_i x y hx hy;split at h;·rename_i he;obtain rfl:=P3 he;cases h;exact⟨Ah hC hok hx hQ,Ah hC hok hy hQ⟩
   ·cases h
  ·cases h
 |.kp ks t,s,s',h,Q,hQ=>Ah (t:=t) hC hok h hQ
def TZ{k:ah->cG}{r:cG}{e:Ex}{s:ah}(h:fG k r=some (e,s)):(∃s',r=some (.normal,s')/\k s'=some (e,s))\/(e≠.normal/\r=some (e,s)):=by
 unfold fG at h;split at h;·exact .inl ⟨_,rfl,h⟩
 ·cases h;exact .inr ⟨by simp,rfl⟩
 ·cases h;exact .inr ⟨by simp,rfl⟩
 ·cases h
def YE(hC:C.Sound P)(hok:∀f,ok f=true->az P f=true){N:Nat}:∀{t:A} {s s':ah} {e:Ex},eA C ok N t s=some (e,s')->∀{Q:Ex->ah->Prop},Q e s'->eV P t s Q:=by
 intro t;induction t with
 |skip=>intro s s' e h Q hQ;cases h;exact hQ
 |ret=>intro s s' e h Q hQ;cases h;exact hQ
 |exit id=>intro s s' e h Q hQ;cases h;exact hQ
 |ops l=>
  intro s s' e h Q hQ;simp only[eA] at h;unfold iS at h;split at h;·rename_i s1 h1;cases h;exact P0 hC hok h1 hQ
  ·cases h
 |draw l=>
  intro s s' e h Q hQ;simp only[eA] at h;unfold iS at h;split at h;·rename_i s1 h1;cases h;exact Ah hC hok h1 hQ
  ·cases h
 |seq a b iP kj=>
  intro s s' e h Q hQ;simp only[eA] at h;rcases TZ h with ⟨s1,h1,h2⟩|⟨hne,h1⟩;·exact iP h1 (kj h2 hQ)
  ·refine iP h1 ?_;cases e with
   |normal=>exact(hne rfl).elim
   |exit i=>exact hQ
   |ret=>exact hQ
 |cond c a b iP kj=>
  intro s s' e h Q hQ;simp only[eA] at h;simp only[eV];split at h
  ·rename_i t ht;rw[ht];split at h;·rename_i h1;exact⟨λ_=>iP h hQ,λh2=>by rw[h1] at h2;cases h2⟩
   ·rename_i h1;exact⟨λh2=>(h1 h2).elim,λ_=>kj h hQ⟩
  ·cases h
 |block id b ih=>
  intro s s' e h Q hQ;simp only[eA] at h;unfold lg at h;split at h
  ·rename_i i s1 h1;split at h;·rename_i hi;cases h;refine ih h1 ?_;subst hi;simpa using hQ
   ·rename_i hi;cases h;refine ih h1 ?_;have:(i==id)=false:=by simpa using hi
    simpa [this] using hQ
  ·rename_i s1 h1;cases h;exact ih h1 hQ
  ·rename_i s1 h1;cases h;exact ih h1 hQ
  ·cases h
 |loop b ih=>
  intro s s' e h Q hQ;simp only[eA] at h;refine⟨λn s1=>iter (eA C ok N b) n s1=some (e,s'),⟨N,h⟩,λn s1 h1=>?_⟩;cases n with
  |zero=>cases h1
  |succ n=>
   simp only[iter] at h1;rcases TZ h1 with ⟨s2,h2,h3⟩|⟨hne,h2⟩;·exact ih h2 ⟨n,Nat.lt_succ_self n,h3⟩
   ·refine ih h2 ?_;cases e with
    |normal=>exact(hne rfl).elim
    |exit i=>exact hQ
    |ret=>exact hQ
 |pk ks b ih=>
  intro s s' e h Q hQ;simp only[eA] at h;unfold lR at h;split at h;·rename_i s1 h1;cases h;exact ih h1 hQ
  ·rename_i s1 h1;cases h;exact ih h1 hQ
  ·rename_i s1 h1;cases h;exact ih h1 hQ
  ·cases h
structure iL.Ok (P:Program) (T:iL):Prop where
 told:∀f F,T f=some F->Told P f F.body F.rs F.n
 ok:∀f F,T f=some F->az P f=true
def P9{L:cB}{T:iL}(hL:L.Sound P)(hT:T.Ok P):∀n,(exec L T n).Sound P
 |0=>λf xs o h=>by cases h
 |n+1=>λf xs o h=>by
  simp only[exec] at h;split at h
  ·rename_i F hF;unfold eF at h;split at h
   ·rename_i hn;refine(hT.told f F hF).ac hn ?_;unfold fin at h;split at h;·cases h
    ·rename_i e s' h1 h2;split at h
     ·rename_i hc;have h2:eA (exec L T n) (au T) n F.body (mX xs)=some (e,s'):=h2;cases h;refine YE (P9 hL hT n) (λf hf=>?_) h2 ?_;·unfold au at hf;obtain⟨F',hF'⟩:=zf.1 hf;exact hT.ok f F' hF'
      ·cases e with
       |exit i=>exact(h1 i rfl).elim
       |normal=>exact⟨hc.1,λx hx=>by have:=NX.1 hc.2 x hx;simpa using this,rfl,rfl⟩
       |ret=>exact⟨hc.1,λx hx=>by have:=NX.1 hc.2 x hx;simpa using this,rfl,rfl⟩
     ·cases h
    ·cases h
   ·cases h
  ·exact hL f xs o h
end
end M
