/- A machine of values for loaded Go functions, sound for the calculus of calls; part 2; no conditions. -/
import Derived.Test.YtaaeoialiegmeaaGreatDoorMa
import Derived.Laws.IdiomCopy
import Derived.Lib.SliceRun
import Derived.Laws.Cover3
set_option linter.defProp false
set_option linter.unusedSectionVars false
set_option linter.unusedVariables false
set_option linter.unusedSimpArgs false
namespace M
open Go Go.RowKit
variable [Bs]
section
variable {P:Program}{c:Ctx}{G:Nat->C}{zl:Nat->Nat->Prop}{s:ah}{a:Act}{w:World}{o:Oper}{K:ah->Prop}
def afd{zb:Nat->Nat->Prop}(h:Inv w zl zb G s){v:Value}{r:Nat}{p:Path}{i k:Nat}(hr:(C.aB v r p i k).rf G){l:List C}(hs:storable s r p i k (l.map C.er))(hl:∀x∈l,cQ x.er=true->x.cQ):
  ∃g k0 d,v=.pointer (some ⟨g,k0,none⟩)/\(G r).sub p=some d/\∀q x,l[q]?=some x->eY d i (k+q) x g (k0+q):=by
 obtain⟨d,hd,hp⟩:=hr;unfold storable look at hs;rw[<-h.er,C.gE,hd] at hs;simp only[cv] at hs;rcases hp with ⟨m,sz,g,o,len,cap,e,rfl,rfl⟩|⟨m,g,o,n,f,rfl,rfl,rfl⟩
 ·refine⟨g,o+i*sz+k,_,rfl,hd,λq x hq=>?_⟩;simp only[C.er] at hs;cases m with
  |own=>
   simp only[C.cZ] at hs;split at hs
   ·rename_i e0 lg;split at lg
    ·rename_i hi;injection lg with lg
     obtain⟨h1,h2⟩:=hs;have hlen:e0.length=sz:=by rw[<-lg];simp
     have oh:=(aN.1 hq).1;simp only[dO] at h1;have:=eY.row (d:=.row .own sz (some (g,o,none)) len cap e) (i:=i) (c:=k+q) (y:=x) rfl hi (by omega) (hl x (lM hq) (GN h2 _ (kj (lM hq))));rwa [show o+i*sz+(k+q)=o+i*sz+k+q by omega] at this
    ·cases lg
   ·exact hs.elim
  |sl=>exact hs.elim
  |af=>exact hs.elim
 ·refine⟨g,o+k,_,rfl,hd,λq x hq=>?_⟩;simp only[C.er] at hs;cases m with
  |own=>have oh:=(aN.1 hq).1;simp only[dO,sY] at hs;have:=eY.ptr (d:=.ptr .own g o n f) (i:=0) (c:=k+q) (y:=x) rfl rfl (by omega);rwa [show o+(k+q)=o+k+q by omega] at this
  |sl=>exact hs.elim
  |af=>exact hs.elim
def SI{x:C}(h:cQ x.er=true):x.cQ:=by cases x<;>first|trivial|(simp[C.er,cQ] at h)
def ad2(h:St c G zl s a w){sz:Nat}{tk:Tk}{ty:TypeId}{x y:AV}{x' y':Operand}(ho:o.op=.store ty y' x')(hsz:∃i,P.info? ty=some i/\i.size=sz)(h0:0<sz)(hd:o.dst=none)(hx:aI x' x=true)(hy:aI y' y=true)
  (hK:aL P (.store sz tk y x) s K):Good P c o a w K:=by
 obtain⟨p,e1,e2,e3⟩:=cx h hx;obtain⟨q,G1,f1,f2,f3,f4⟩:=qC tk h.inv e3;obtain⟨k1,k2⟩:=hK;rw[e1] at f1 f4;have h1:=h.x9 f4;obtain⟨u,u1,u2,u3⟩:=cx h1 hy;rw[<-u1] at k2;cases u with
 |aB v r pp i k=>
  simp only[C.er] at k2;obtain⟨k2,k3⟩:=k2;rw[<-f1,<-tv] at k1 k2 k3;have hsh:=GL f4.rf;have hT:=bO.flat (bO.one f4) (λx hx=>by rw[fA] at hx;subst hx;exact hsh);simp only[jN,MX,oW] at hT;obtain⟨g,k0,d,hv,hsub,hsp⟩:=afd h1.inv u3.rf k2 (λx _ hs=>SI hs);have hlen:q.cells.length=sz:=by simpa using k1
  obtain⟨w',G',j1,j2,j3,j4,j5⟩:=SO (P:=P) r pp i (k0:=k0) q.cells.length q.cells rfl k 0 h1.inv hsub (by simpa using hsp) ⟨λx hx=>⟨(vA hsh f4.ok hx).1,(vA hsh f4.ok hx).2,Iw f4.rf hx,(hT.all x hx).2.1,(hT.all x hx).2.2.1⟩,hT.apart⟩;have hcv:=Dn (by omega) hsh;refine⟨undef,w',.inr ⟨?_,rfl⟩,G',zl,_,k3,?_⟩
  ·have Jk:a.eval y'=.pointer (some ⟨g,k0,none⟩):=by rw[<-u2];exact hv
   obtain⟨ii,hi,kD⟩:=hsz;have hxv:a.eval x'=q.val:=by rw[f2,e2]
   simp[execOp,ho,Jk,hxv,Instr.storeAt,Instr.sureAddr,storeVar,hcv,Go.sizeOf,typeInfo,hi,kD,hlen,j1]
  ·rw[hd];refine h.move j2 (λt=>(j3 t).trans (f4.val t)) j5 (λb k' hs=>?_) (λt b k' hf=>?_)
   ·obtain⟨rfl,hs1,hs2⟩:=hs;simp only[nP] at hs1 hs2;have hlt:k' - k0<q.cells.length:=by omega
    have:=(hsp (k' - k0) _ (bZ hlt)).fp;rw[show k0+(k' - k0)=k' by omega] at this;exact h1.tr.dom r _ _ (C.gF pp hsub (h1.inv.ok r) this)
   ·refine .inl ?_;rcases j4 t b k' hf with ⟨x,hx,hf⟩|hf;·exact(hT.all x hx).2.2.2 b k' hf
    ·exact⟨t,f4.mono t b k' hf⟩
 |_=>exact k2.elim
def cT(len z:Nat)(e:Nat->Nat->C):List (List C):=(List.range len).map λi=>(List.range z).map λj=>e i j
def tW(len z:Nat)(e:Nat->Nat->C):∀x∈cT len z e,x.length=z:=λx hx=>by obtain⟨i,_,rfl⟩:=aU.1 hx;simp
def QU(len z:Nat)(e:Nat->Nat->C):(cT len z e).map (λx=>x.map C.er)=dI z len e:=by simp only[cT,dI,cK];refine cw λi _=>?_;show ((List.range z).map λj=>e i j).map C.er=_;rw[cK];rfl
def nr{len z:Nat}{e:Nat->Nat->C}{x:C}(hx:x∈(cT len z e).flatten):∃i j,i<len/\j<z/\x=e i j:=by obtain⟨l,hl,hx⟩:=Hs.1 hx;obtain⟨i,hi,rfl⟩:=aU.1 hl;obtain⟨j,hj,rfl⟩:=aU.1 hx;exact⟨i,j,by simpa using hi,by simpa using hj,rfl⟩
def QT{len z:Nat}{e:Nat->Nat->C}{q:Nat}{x:C}(h0:0<z)(h:(cT len z e).flatten[q]?=some x):q / z<len/\q%z<z/\x=e (q / z) (q%z):=by
 have hq:=(aN.1 h).1;rw[rB (tW len z e)] at hq;have hl:(cT len z e).length=len:=by simp[cT]
 rw[hl] at hq;have h1:q%z<z:=sR _ h0;have h2:q / z<len:=TG (by rw[qI];exact hq);have zW:q=q / z*z+q%z:=by have:=CL q z;rw[qI] at this;omega
 have:=zw (tW len z e) (q / z) (q%z) (by rw[hl];exact h2) h1;rw[<-zW,h] at this;simp only[cT,C.cZ,az h2,jK,az h1] at this;exact⟨h2,h1,iz this⟩
def Ka{Z:Md->Nat->Nat->Prop}{z len cap:Nat}{A:Option Ad}{e:Nat->Nat->C}(h:(C.row .own z A len cap e).ok w Z):(cT len z e).flatten.Pairwise λa b=>∀x k,a.fp x k->¬b.fp x k:=by
 obtain⟨h1,h2,h3,h4,h5⟩:=h;refine List.pairwise_flatten.2 ⟨λl hl=>?_,?_⟩
 ·obtain⟨i,hi,rfl⟩:=aU.1 hl;have hi:i<len:=by simpa using hi
  refine CI.2 (HF (R:=λa b=>a<b) ?_ Mz);intro j j' hj hj' hlt b k hf;exact(h5 i j hi (by simpa using hj) b k hf).2 i j' hi (by simpa using hj') (by simp;omega)
 ·refine CI.2 (HF (R:=λa b=>a<b) ?_ Mz);intro i i' hi hi' hlt x hx y hy b k hf;obtain⟨j,hj,rfl⟩:=aU.1 hx;obtain⟨j',hj',rfl⟩:=aU.1 hy;exact(h5 i j (by simpa using hi) (by simpa using hj) b k hf).2 i' j' (by simpa using hi') (by simpa using hj') (by simp;omega)
def IY{w1:World}{z len cap:Nat}{A:Option Ad}{e:Nat->Nat->C}(h0:0<z)(hc:∀i j,i<len->j<z->∃g o,A=some (g,o,none)/\w1.cell? ⟨g,o+i*z+j,none⟩=some (e i j).val):
  (Builtin.firstCells z len (.slice (A.map λq=>⟨q.1,q.2.1,q.2.2⟩) len cap)).run P w1=.ok ((cT len z e).flatten.map C.val).toArray w1/\(A=none->len=0):=by
 cases A with
 |none=>
  have hl:len=0:=by
   rcases Nat.eq_zero_or_pos len with h|h;·exact h
   ·obtain⟨g,o,hA,_⟩:=hc 0 0 h h0;cases hA
  subst hl;exact⟨run_firstCells_none w1 z 0 0 cap,λ_=>rfl⟩
 |some q=>
  refine⟨?_,λh=>by cases h⟩;refine run_firstCells_some w1 z len ⟨q.1,q.2.1,q.2.2⟩ len cap _ ?_ λj v hj=>?_;·rw[dO,rB (tW len z e)];simp[cT]
  ·rw[cY] at hj;cases hk:(cT len z e).flatten[j]? with
   |none=>rw[hk] at hj;cases hj
   |some x=>
    rw[hk] at hj;obtain⟨a1,a2,rfl⟩:=QT h0 hk;injection hj with hj
    obtain⟨g,o,hA,hcl⟩:=hc _ _ a1 a2;injection hA with hA
    subst hA;have zW:j=j / z*z+j%z:=by have:=CL j z;rw[qI] at this;omega
    rw[qQ,<-hj,<-hcl];congr 2;show o+j=_;omega
end
end M
namespace M
open Go Go.RowKit
variable [Bs]
section
variable {P:Program}
def bO.sub{w:World}{zl zb:Nat->Nat->Prop}{G G1:Nat->C}{s1:ah}{l ks:List C}(hT:bO w zl zb G l G1 s1)(hok:∀x∈ks,x.ok w (Zf zl zb))(cj:∀x∈ks,∀b k,x.fp b k->∃y∈l,y.fp b k)
  (jh:ks.Pairwise λa b=>∀x k,a.fp x k->¬b.fp x k):bO w zl zb G ks G1 s1 where
 inv:=hT.inv
 all:=λx hx=>⟨hok x hx,λt b k hf=>by obtain⟨y,hy,hf⟩:=cj x hx b k hf;exact(hT.all y hy).2.1 t b k hf,λb k hf=>by obtain⟨y,hy,hf⟩:=cj x hx b k hf;exact(hT.all y hy).2.2.1 b k hf,
  λb k hf=>by obtain⟨y,hy,hf⟩:=cj x hx b k hf;exact(hT.all y hy).2.2.2 b k hf⟩
 apart:=jh
 val:=hT.val
 mono:=hT.mono
def Ext.setCells(b:Nat):∀(vs:List Value) (o:Nat) (w:World),Ext (λg k=>g=b/\o<=k/\k<o+vs.length) w (w.setCells b o vs)
 |[],o,w=>Ext.refl _ _
 |v::vs,o,w=>by rw[World.setCells];refine((Ext.setCell w b o v).mono (S':=λg k=>g=b/\o<=k/\k<o+(v::vs).length) (λg k hs _=>⟨hs.1,by omega,by simp only[cG];omega⟩)).trans (Ext.setCells b vs (o+1) _) λg k hs _=>⟨hs.1,by omega,by simp only[cG];omega⟩
def aeP{w:World}{t u ty e e':TypeId}{i:TypeInfo}(ht:P.underlying t=some (.slice e))(hu:P.underlying u=some (.slice e'))(hi:P.info? e=some i){A B:Option Addr}{len cap m cap2:Nat}{news:List Value}(h:len+m<=cap)
  (hx:(Builtin.firstCells i.size m (.slice B m cap2)).run P w=.ok news.toArray w):
  (Builtin.append_ #[t,u] ty #[.slice A len cap,.slice B m cap2]).run P w=match A with
   |some a=>((storeCells (a.add (len*i.size)) news).run P w).andThen λ_ w'=>.ok (.slice (some a) (len+m) cap) w'
   |none=>.ok (.slice none (len+m) cap) w:=by
 cases A with
 |none=>simp[Builtin.append_,run_underlying ht,run_underlying hu,Go.sizeOf,typeInfo,hi,Builtin.lenOf,h,hx]
 |some a=>simp[Builtin.append_,run_underlying ht,run_underlying hu,Go.sizeOf,typeInfo,hi,Builtin.lenOf,h,hx]
def aeO{w:World}{t u ty e e':TypeId}{i:TypeInfo}{z:Value}(ht:P.underlying t=some (.slice e))(hu:P.underlying u=some (.slice e'))(hi:P.info? e=some i)(hz:i.zero=some z){A B:Option Addr}{len cap m cap2:Nat}{olds news:List Value}(h:¬len+m<=cap)
  (h63:len+m<=9223372036854775807)(hfit:Builtin.nextslicecap (len+m) cap*i.bytes<=281474976710656)
  (hx:(Builtin.firstCells i.size m (.slice B m cap2)).run P w.drew=.ok news.toArray w.drew)(hy:(Builtin.firstCells i.size len (.slice A len cap)).run P w.drew=.ok olds.toArray w.drew):
  (Builtin.append_ #[t,u] ty #[.slice A len cap,.slice B m cap2]).run P w=.ok (.slice (some ⟨w.heap.size,0,none⟩) (len+m) (grownCap w (len+m) cap e))
    (w.drew.alloc (.cells (olds.toArray++news.toArray++Builtin.zeroCells z.cells (grownCap w (len+m) cap e - (len+m))) e)):=by
 have h63':¬(9223372036854775807<((len:Int)+(m:Int))):=by omega
 have aaq:¬(281474976710656<Builtin.nextslicecap (len+m) cap*i.bytes):=by omega
 simp[Builtin.append_,run_underlying ht,run_underlying hu,Go.sizeOf,typeInfo,zeroValue,hi,hz,Builtin.lenOf,h,h63',aaq,Question.forced,hx,hy,newRow,grownCap];congr 2;apply oP;simp[nS]
variable {c:Ctx}{G:Nat->C}{zl:Nat->Nat->Prop}{s:ah}{a:Act}{w:World}{o:Oper}{K:ah->Prop}
def HU(h:St c G zl s a w){G1:Nat->C}{s1:ah}{l:List C}(hT:bO w zl c.zb G l G1 s1){d z bytes:Nat}{ty ty' el Dz:TypeId}{i:TypeInfo}{v:Value}{x' y':Operand}
  (ho:o.op=.call {callee:=.builtin .append,args:= #[x',y'],argTypes:= #[ty,ty']})(hu:P.underlying ty=some (.slice el))(vZ:P.underlying ty'=some (.slice Dz))(hi:P.info? el=some i)(hz:i.zero=some v)(hsz:i.size=z)(hb:i.bytes=bytes)(hb0:0<bytes)(h0:0<z)(hvs:v.cells.size=z)
  (hd:o.dst=some d)(hn:d<c.nt){A:Option Ad}{len cap:Nat}{e:Nat->Nat->C}(hy1:C.row .own z A len cap e∈l)(hv1:a.eval x'=(C.row .own z A len cap e).val)
  {A2:Option Ad}{m cap2:Nat}{e2:Nat->Nat->C}(z7:a.eval y'=.slice (A2.map λq=>⟨q.1,q.2.1,q.2.2⟩) m cap2)(hc2:∀i j,i<m->j<z->∃g o,A2=some (g,o,none)/\w.cell? ⟨g,o+i*z+j,none⟩=some (e2 i j).val)
  (hk2:∀i j,i<m->j<z->(e2 i j).plain/\(e2 i j).ok w (Zf zl c.zb)/\∀b k,(e2 i j).fp b k->¬(C.row .own z A len cap e).fp b k/\∃y∈l,y.fp b k)
  (hp2:(cT m z e2).flatten.Pairwise λa b=>∀x k,a.fp x k->¬b.fp x k)(hbig:(len+m)*bytes<=140737488355328)(hpl:∀i j,i<len->j<z->(e i j).plain)
  (hK:K (put d (.row .own z (dI z len e++dI z m e2)) s1)):Good P c o a w K:=by
 obtain⟨y1,y2,y3,y4⟩:=hT.all _ hy1;have QC:=y1;obtain⟨r1,r2,r3,r4,r5⟩:=y1;have hk1:∀i j,i<len->j<z->∀b k,(e i j).fp b k->(C.row .own z A len cap e).fp b k:=λi j hi hj b k hf=>C.j8 (r3 i j hi hj).1 (r3 i j hi hj).2.2.1 hi hj hf;have hc1:∀i j,i<len->j<z->∃g o,A=some (g,o,none)/\w.cell? ⟨g,o+i*z+j,none⟩=some (e i j).val:=λi j hi hj=>by obtain⟨g,o,q1,q2,_⟩:=r2 i j hi hj;exact⟨g,o,q1,q2⟩
 have hlen:∀x∈cT len z e++cT m z e2,x.length=z:=λx hx=>(dX.1 hx).elim (tW _ _ _ x) (tW _ _ _ x);have P4:(cT len z e).length=len:=by simp[cT]
 have P5:(cT m z e2).length=m:=by simp[cT]
 have D9:(cT len z e++cT m z e2).length=len+m:=by rw[fE,P4,P5]
 have oa:(cT len z e++cT m z e2).map (λx=>x.map C.er)=dI z len e++dI z m e2:=by rw[iA,QU,QU]
 have hall:∀x∈(cT len z e++cT m z e2).flatten,x.plain/\x.ok w (Zf zl c.zb)/\∀b k,x.fp b k->∃y∈l,y.fp b k:=λx hx=>by
  rw[yy,dX] at hx;rcases hx with hx|hx;·obtain⟨i,j,hi,hj,rfl⟩:=nr hx;exact⟨hpl i j hi hj,(r3 i j hi hj).2.2.2,λb k hf=>⟨_,hy1,hk1 i j hi hj b k hf⟩⟩
  ·obtain⟨i,j,hi,hj,rfl⟩:=nr hx;obtain⟨a1,a2,a3⟩:=hk2 i j hi hj;exact⟨a1,a2,λb k hf=>(a3 b k hf).2⟩
 have jh:(cT len z e++cT m z e2).flatten.Pairwise λa b=>∀x k,a.fp x k->¬b.fp x k:=by rw[yy];refine uX.2 ⟨Ka QC,hp2,λx hx y hy b k hf hf'=>?_⟩;obtain⟨i,j,hi,hj,rfl⟩:=nr hx;obtain⟨i',j',hi',hj',rfl⟩:=nr hy;exact((hk2 i' j' hi' hj').2.2 b k hf').1 (hk1 i j hi hj b k hf)
 have jB:bO w zl c.zb G (cT len z e++cT m z e2).flatten G1 s1:=hT.sub (λx hx=>(hall x hx).2.1) (λx hx=>(hall x hx).2.2) jh;have hfl:(cT len z e).flatten.length=len*z:=by rw[rB (tW _ _ _),P4]
 have rJ:(cT m z e2).flatten.length=m*z:=by rw[rB (tW _ _ _),P5]
 have lX:∀r w',(Builtin.append_ #[ty,ty'] o.type #[(C.row .own z A len cap e).val,.slice (A2.map λq=>⟨q.1,q.2.1,q.2.2⟩) m cap2]).run P w=.ok r w'->(execOp a.eval o).run P w=.ok (.value r) w':=λr w' hr=>by simp[execOp,ho,resolve,invoke,builtin,hv1,z7,hr]
 have hmul:len+m<=(len+m)*bytes:=Nat.le_mul_of_pos_right _ hb0;subst hsz;by_cases hroom:len+m<=cap
 ·have hx:=IY (P:=P) (cap:=cap2) h0 hc2;have hr:=aeP (P:=P) (ty:=o.type) (A:=A.map λq=>⟨q.1,q.2.1,q.2.2⟩) hu vZ hi hroom hx.1;rcases r4 rfl with ⟨hA,hcap⟩|⟨g,o',arr,t,fz,hA,hh,akE,hfr⟩
  ·
   have hm:m=0:=by omega
   have hl:len=0:=by omega
   subst hm;subst hl;subst hA;subst hcap;obtain⟨G',h'⟩:=h.fresh hT (Ext.refl _ w) hn QC trivial (λb k hf=>.inr ⟨_,hy1,hf⟩);refine⟨_,w,.inl (lX _ _ hr),G',zl,_,hK,?_⟩;rw[hd];exact h'
  ·subst hA;have Jm:(len+m)*i.size<=cap*i.size:=nR _ hroom;rw[fB] at Jm
   have hst:=run_storeCells_cells (P:=P) g (o'+len*i.size) ((cT m i.size e2).flatten.map C.val) 0 w (λj hj=>by
     rw[dO,rJ] at hj;rw[cell_of_row _ _ _ _ _ fz hh];rw[CQ (by omega)];rfl) (λj hj=>by
     rw[dO,rJ] at hj;exact hfr _ (by omega) (by omega)) (λu hu=>by
     obtain⟨x,hx,rfl⟩:=aU.1 hu;obtain⟨i',j',hi',hj',rfl⟩:=nr hx;exact Inv.qZ (C.lF (hk2 i' j' hi' hj').1))
   simp only[cv,qQ,hst,nP,Result.andThen_ok] at hr;have hE:=Ext.setCells g ((cT m i.size e2).flatten.map C.val) (o'+len*i.size) w;rw[dO,rJ] at hE;have hin:=World.cell?_setCells_in g ((cT m i.size e2).flatten.map C.val) (o'+len*i.size) w;generalize hw':w.setCells g (o'+len*i.size) ((cT m i.size e2).flatten.map C.val)=w' at hr hE hin;have hg:g<w.heap.size:=(gG.1 hh).1;have vS:∀k,(C.row .own i.size (some (g,o',none)) len cap e).fp g k:=λk=>⟨rfl,.inl ⟨_,rfl⟩⟩
   obtain⟨fT,pQ,hs'⟩:∃fT,w'.heap[g]?=some (.cells fT t fz)/\fT.size=arr.size:=by
    rcases hE.block g hg with e'|⟨a1,a2,t',lW,q1,q2,q3,q4⟩;·exact⟨arr,e'.trans hh,rfl⟩
    ·rw[hh] at q1;injection q1 with q1
     injection q1 with b1 b2 b3
     subst b1;subst b2;subst b3;exact⟨a2,q2,q3⟩
   have hok:(uh g o' i.size cap (cT len i.size e++cT m i.size e2)).ok w' (Zf zl c.zb):=by
    refine Sf hlen (by rw[D9];exact hroom) pQ (by omega) (λk h1 h2=>(hE.frozen hg).trans (hfr k h1 h2)) (λq x hq=>?_) (λx hx=>?_) jh (λx hx b k hf=>?_)
    ·rw[yy] at hq;by_cases hql:q<len*i.size
     ·rw[mL (by omega)] at hq;obtain⟨a1,a2,rfl⟩:=QT h0 hq;obtain⟨g',o2,hA,hcl⟩:=hc1 _ _ a1 a2;injection hA with hA
      injection hA with b1 b2
      injection b2 with b2
      subst b1;subst b2;have zW:q=q / i.size*i.size+q%i.size:=by have:=CL q i.size;rw[qI] at this;omega
      refine hE.cell (λhs=>by omega) ?_;rw[<-hcl];congr 2;omega
     ·rw[iU (by omega)] at hq;rw[hfl] at hq;have El:=(aN.1 hq).1;rw[rJ] at El;have:=hin (λj hj=>by rw[dO,rJ] at hj;rw[cell_of_row _ _ _ _ _ fz hh,CQ (by omega)];rfl) (q - len*i.size) (by rw[dO,rJ];exact El)
      rw[show o'+len*i.size+(q - len*i.size)=o'+q by omega] at this;rw[this,<-bZ,cY,hq];rfl
    ·obtain⟨a1,a2,a3⟩:=hall x hx;refine⟨C.lF a1,C.Be a1,hT.fits' hE (λb k hz hs=>?_) a2 (λb k hf hs=>?_)⟩;·obtain⟨rfl,_⟩:=hs;exact hz.elim (y3 b k (vS k)).1 (y3 b k (vS k)).2
     ·obtain⟨rfl,_⟩:=hs;rw[yy,dX] at hx;rcases hx with hx|hx;·obtain⟨i',j',hi',hj',rfl⟩:=nr hx;exact(r5 i' j' hi' hj' b k hf).1 rfl o' rfl
      ·obtain⟨i',j',hi',hj',rfl⟩:=nr hx;exact((hk2 i' j' hi' hj').2.2 b k hf).1 (vS k)
    ·intro hbg;subst hbg;rw[yy,dX] at hx;rcases hx with hx|hx;·obtain⟨i',j',hi',hj',rfl⟩:=nr hx;exact(r5 i' j' hi' hj' b k hf).1 rfl o' rfl
     ·obtain⟨i',j',hi',hj',rfl⟩:=nr hx;exact((hk2 i' j' hi' hj').2.2 b k hf).1 (vS k)
   obtain⟨G',h'⟩:=h.fresh' hT hE (λb k hs=>.inr ⟨_,hy1,by rw[hs.1];exact vS k⟩) hn hok trivial (λb k hf=>by
    rcases Sd hlen hf with rfl|⟨x,hx,hf⟩;·exact .inr ⟨_,hy1,vS k⟩
    ·exact .inr ((hall x hx).2.2 b k hf))
   refine⟨_,w',.inl (lX _ _ hr),G',zl,_,hK,?_⟩;rw[hd];rw[Sc hlen,oa,aey,D9] at h';exact h'
 ·have hx:=IY (P:=P) (w1:=w.drew) (cap:=cap2) h0 hc2;have hy:=IY (P:=P) (w1:=w.drew) (cap:=cap) h0 hc1;have hr:=aeO (P:=P) (ty:=o.type) hu vZ hi hz hroom (by omega) (growslice_fits (by omega) (by rw[hb];exact hbig)) hx.1 hy.1;have hge:=grownCap_ge w (len+m) cap el;generalize grownCap w (len+m) cap el=cap' at hr hge;refine jQ.good (good_row h (L:=cT len i.size e++cT m i.size e2) (cap:=cap') (fz:=(0,0)) hlen (by rw[D9];exact hge) jB (λx hx=>(hall x hx).1) hd hn (OK w _) (zN w.drew _) ?_ (λk _ hh=>by simp at hh) (λq x hq=>?_) (by rw[D9];exact lX _ _ hr) (by rw[oa];exact hK));·simp only[MB,qG,dO,hfl,rJ,size_zeroCells,hvs];rw[<-fB,<-fB];exact nR _ (by omega)
  ·rw[yy] at hq;have El:=(aN.1 hq).1;have hmap:(((cT len i.size e).flatten++(cT m i.size e2).flatten).map C.val)[q]?=some x.val:=by rw[cY,hq];rfl
   rw[TK (by rw[MB,qG,qG,dO,dO,<-fE];exact El)];rw[<-hmap,iA];simp
end
end M
namespace M
open Go Go.RowKit
variable [Bs]
namespace C
def belows(r:Nat)(p:Path):Nat->Path->Bool:=λs q=>s==r && pe p q
def AH(r:Nat)(p:Path){α:Type}(f:α->X):∀l:List α,X.pZ r p (l.map f)=l.map λa=>(f a).eO r p
 |[]=>rfl
 |a::l=>by simp only[aY,X.pZ,AH r p f l]
def wo(r:Nat)(p:Path):∀c:C,(c.ax (belows r p)).er=c.er.eO r p
 |.ref v s q=>by simp only[ax,er,X.eO,belows];cases s==r && pe p q<;>rfl
 |.aB v s q i c=>by simp only[ax,er,X.eO,belows];cases s==r && pe p q<;>rfl
 |.cut v s q i c=>by simp only[ax,er,X.eO,belows];cases s==r && pe p q<;>rfl
 |.ptr m g o n c=>by simp only[ax,er,X.eO,AH];congr 1;exact cw λj _=>wo r p (c j)
 |.agg n c=>by simp only[ax,er,X.eO,AH];congr 1;exact cw λj _=>wo r p (c j)
 |.ak n c=>by simp only[ax,er,X.eO,AH];congr 1;exact cw λj _=>wo r p (c j)
 |.fn f n c=>by simp only[ax,er,X.eO,AH];congr 1;exact cw λj _=>wo r p (c j)
 |.dead _=>by simp only[ax,er,X.eO]
 |.int _ _=>by simp only[ax,er,X.eO]
 |.bool _=>by simp only[ax,er,X.eO]
 |.str _=>by simp only[ax,er,X.eO]
 |.row _ _ _ _ _ _=>by simp only[ax,er,X.eO]
def qV(G:Nat->C):∀c:C,c.bare->c.rf G
 |.ref _ _ _,h=>h.elim
 |.aB _ _ _ _ _,h=>h.elim
 |.cut _ _ _ _ _,h=>h.elim
 |.ptr m g o n c,h=>λj hj=>qV G (c j) (h j hj)
 |.agg n c,h=>λj hj=>qV G (c j) (h j hj)
 |.ak n c,h=>λj hj=>qV G (c j) (h j hj)
 |.fn f n c,h=>λj hj=>qV G (c j) (h j hj)
 |.dead _,_=>trivial
 |.int _ _,_=>trivial
 |.bool _,_=>trivial
 |.str _,_=>trivial
 |.row _ _ _ _ _ _,_=>trivial
def vp{l:List X}:X.bare.iY l=true↔∀x∈l,x.bare=true:=by
 induction l with
 |nil=>simp[X.bare.iY]
 |cons a l ih=>simp[X.bare.iY,ih]
def lR:∀c:C,c.er.bare=true↔c.bare
 |.ref _ _ _=>by simp[er,X.bare,bare]
 |.aB _ _ _ _ _=>by simp[er,X.bare,bare]
 |.cut _ _ _ _ _=>by simp[er,X.bare,bare]
 |.ptr m g o n c=>by simp only[er,X.bare,bare,vp,aU,nN];exact⟨λh j hj=>(lR (c j)).1 (h _ ⟨j,hj,rfl⟩),λh x ⟨j,hj,e⟩=>e▸(lR (c j)).2 (h j hj)⟩
 |.agg n c=>by simp only[er,X.bare,bare,vp,aU,nN];exact⟨λh j hj=>(lR (c j)).1 (h _ ⟨j,hj,rfl⟩),λh x ⟨j,hj,e⟩=>e▸(lR (c j)).2 (h j hj)⟩
 |.ak n c=>by simp only[er,X.bare,bare,vp,aU,nN];exact⟨λh j hj=>(lR (c j)).1 (h _ ⟨j,hj,rfl⟩),λh x ⟨j,hj,e⟩=>e▸(lR (c j)).2 (h j hj)⟩
 |.fn f n c=>by simp only[er,X.bare,bare,vp,aU,nN];exact⟨λh j hj=>(lR (c j)).1 (h _ ⟨j,hj,rfl⟩),λh x ⟨j,hj,e⟩=>e▸(lR (c j)).2 (h j hj)⟩
 |.dead _=>by simp[er,X.bare,bare]
 |.int _ _=>by simp[er,X.bare,bare]
 |.bool _=>by simp[er,X.bare,bare]
 |.str _=>by simp[er,X.bare,bare]
 |.row _ _ _ _ _ _=>by simp[er,X.bare,bare]
def RN:∀{p q:Path},X.pfx p q=true->¬p.length<q.length->q=p
 |[],[],_,_=>rfl
 |[],_::_,_,h=>by simp at h
 |_::_,[],h,_=>by simp[X.pfx] at h
 |x::p,y::q,h,hl=>by simp only[X.pfx,aq,ew] at h;obtain⟨⟨h1,h2⟩,h3⟩:=h;rw[RN h3 (by simpa using hl)];congr 1;cases x;cases y;simp only at h1 h2;rw[h1,h2]
end C
def PK(r:Nat)(p:Path)(t:Nat):∀s:ah,get (rS r p s) t=(get s t).eO r p
 |[]=>by simp[rS,get,X.eO]
 |(k,v)::s=>by
  simp only[rS,get];cases k==t;·exact PK r p t s
  ·rfl
namespace Inv
variable {w w':World}{zl aD zb:Nat->Nat->Prop}{G:Nat->C}{s:ah}{S:Nat->Nat->Prop}
def eO(h:Inv w zl zb G s)(r:Nat)(p:Path):Inv w zl zb (λt=>(G t).ax (C.belows r p)) (rS r p s):=
 h.off _ λt=>by rw[C.wo,PK,h.er]
def HX(h:Inv w zl zb G s)(r:Nat)(p:Path)(hfree:∀t,(G t).free (C.belows r p)){d d':C}(hsub:(G r).sub p=some d)(hF:C.gj d d')(hl:C.gY d d')(Qb:d'.rf G/\d'.free (C.belows r p))(hE:Ext S w w')
  (hS:∀b k,S b k->d.fp b k\/((∀t,¬(G t).fp b k)/\¬zl b k/\¬zb b k))(hok:d'.ok w' (Zf aD zb))(hz1:∀b k,zl b k->aD b k)(hz2:∀b k,aD b k->¬d'.fp b k/\b<w'.heap.size/\∀t,(G t).fp b k->d.fp b k)
  (cj:∀b k,d'.fp b k->d.fp b k\/((∀t,¬(G t).fp b k)/\¬zb b k)):
  Inv w' aD zb (fK G r (C.putAt p (G r) d')) ((r,X.putAt p (get s r) d'.er)::s)/\(∀t,(fK G r (C.putAt p (G r) d') t).val=(G t).val)/\
   ∀t b k,(fK G r (C.putAt p (G r) d') t).fp b k->d'.fp b k\/((G t).fp b k/\¬d.fp b k):=by
 have bw:∀{b k},d.fp b k->(G r).fp b k:=λhf=>C.gF p hsub (h.ok r) hf
 have hZ:∀m b k,Zf zl zb m b k->¬S b k:=λm b k hz hs=>by
  rcases hS b k hs with hs|hs;·exact h.yB r m b k hz (bw hs)
  ·cases m with
   |own=>exact hz.elim
   |sl=>exact hs.2.1 hz
   |af=>exact hz.elim hs.2.1 hs.2.2
 have hM:∀m b k,Zf zl zb m b k->Zf aD zb m b k:=λm b k hz=>by
  cases m with
  |own=>exact hz
  |sl=>exact hz1 b k hz
  |af=>exact hz.imp (hz1 b k) id
 obtain⟨i1,i2,i3⟩:=C.A9 hM hE hZ p (G r) d d' (h.ok r) hsub hok hl (λb k hs=>(hS b k hs).imp id λhn=>hn.1 r) (λb k hf=>(cj b k hf).imp id λhn=>hn.1 r)
 have hr':∀t,t≠r->∀b k,(C.putAt p (G r) d').fp b k->¬(G t).fp b k:=λt e b k hf=>by
  rcases i2 b k hf with hf|hf
  ·rcases cj b k hf with hf|hf;·exact h.sep r t (λe'=>e e'.symm) b k (bw hf)
   ·exact hf.1 t
  ·exact h.sep r t (λe'=>e e'.symm) b k hf.1
 have key:∀c':C,c'.free (C.belows r p)->c'.rf G->c'.rf (fK G r (C.putAt p (G r) d')):=λc' hf hr=>C.lJ (C.belows r p) (λs' q' y' hk hs=>by
  by_cases e:s'=r
  ·subst e;rw[dD];cases hp:X.pfx p q' with
   |false=>exact C.GX p q' (G s') d' y' hp hs
   |true=>
    have hlen:¬p.length<q'.length:=by simpa [C.belows,pe,hp] using hk
    have he:=C.RN hp hlen;subst he;rw[hsub] at hs;injection hs with hs
    subst hs;exact .inl ⟨d',hF,C.GY _ hsub⟩
  ·rw[dh _ _ e];exact C.self y' _ q' hs) c' hf hr
 refine⟨⟨λt=>?_,λt=>?_,λt u hne b k hf=>?_,λt b k hf=>?_,λt=>?_,λb k hz=>?_⟩,λt=>?_,λt b k hf=>?_⟩
 ·rw[vQ];by_cases e:t=r;·subst e;rw[dD,az rfl,C.KL,h.er]
  ·rw[dh _ _ e,aC e];exact h.er t
 ·by_cases e:t=r;·subst e;rw[dD];exact i1
  ·rw[dh _ _ e];refine C.gC hM _ (C.fk hE hZ _ (λb k hf hs=>?_) (h.ok t));rcases hS b k hs with hs|hs;·exact h.sep t r e b k hf (bw hs)
   ·exact hs.1 t hf
 ·by_cases e:t=r;·subst e;rw[dD] at hf;rw[dh _ _ (λe=>hne e.symm)];exact hr' u (λe=>hne e.symm) b k hf
  ·rw[dh _ _ e] at hf;by_cases e':u=r;·subst e';rw[dD];exact λhc=>hr' t e b k hc hf
   ·rw[dh _ _ e'];exact h.sep t u hne b k hf
 ·by_cases e:t=r
  ·subst e;rw[dD] at hf;rcases i2 b k hf with hf|⟨hf,hn⟩
   ·refine⟨λhz=>(hz2 b k hz).1 hf,λhz=>?_⟩;rcases cj b k hf with hf|hf;·exact(h.fz t b k (bw hf)).2 hz
    ·exact hf.2 hz
   ·exact⟨λhz=>hn ((hz2 b k hz).2.2 t hf),(h.fz t b k hf).2⟩
  ·rw[dh _ _ e] at hf;exact⟨λhz=>h.sep t r e b k hf (bw ((hz2 b k hz).2.2 t hf)),(h.fz t b k hf).2⟩
 ·by_cases e:t=r
  ·subst e;rw[dD]
   have inner:∀(p':Path) (c':C),c'.free (C.belows t p)->c'.rf G->(C.putAt p' c' d').rf (fK G t (C.putAt p (G t) d')):=by
    intro p';induction p' with
    |nil=>intro c' _ _;exact key d' Qb.2 Qb.1
    |cons x p' ih=>
     intro c' jd j6;simp only[C.putAt];cases hst:c'.step x with
     |none=>exact key c' jd j6
     |some z=>
      cases c' with
      |row m sz A len cap e=>trivial
      |ptr m g o n c=>
       simp only[C.step] at hst;split at hst
       ·rename_i hq;injection hst with hst
        intro j hj;simp only[C.ck];split;·exact ih z (by rw[<-hst];exact jd _ hq.2) (by rw[<-hst];exact j6 _ hq.2)
        ·exact key _ (jd j hj) (j6 j hj)
       ·cases hst
      |agg n c=>
       simp only[C.step] at hst;split at hst
       ·rename_i hq;injection hst with hst
        intro j hj;simp only[C.ck];split;·exact ih z (by rw[<-hst];exact jd _ hq.2) (by rw[<-hst];exact j6 _ hq.2)
        ·exact key _ (jd j hj) (j6 j hj)
       ·cases hst
      |ak n c=>
       simp only[C.step] at hst;split at hst
       ·rename_i hq;injection hst with hst
        intro j hj;simp only[C.ck];split;·exact ih z (by rw[<-hst];exact jd _ hq.2) (by rw[<-hst];exact j6 _ hq.2)
        ·exact key _ (jd j hj) (j6 j hj)
       ·cases hst
      |_=>simp[C.step] at hst
   exact inner p (G t) (hfree t) (h.rf t)
  ·rw[dh _ _ e];exact key _ (hfree t) (h.rf t)
 ·exact hz.elim (λhz=>(hz2 b k hz).2.1) λhz=>jJ (h.cC b k (.inr hz)) hE.size
 ·by_cases e:t=r;·subst e;rw[dD];exact i3.val
  ·rw[dh _ _ e]
 ·by_cases e:t=r;·subst e;rw[dD] at hf;exact i2 b k hf
  ·rw[dh _ _ e] at hf;exact .inr ⟨hf,λhd=>h.sep t r e b k hf (bw hd)⟩
def Nx(h:Inv w zl zb G s)(hE:Ext S w w')(hS:∀b k,S b k->(∀t,¬(G t).fp b k)/\¬zl b k/\¬zb b k)(hz1:∀b k,zl b k->aD b k)(hz2:∀b k,aD b k->b<w'.heap.size/\∀t,¬(G t).fp b k):Inv w' aD zb G s:=by
 have h1:=h.ext hE (λt b k hf hs=>(hS b k hs).1 t hf) (λb k hz hs=>hz.elim (hS b k hs).2.1 (hS b k hs).2.2);refine⟨h1.er,λt=>C.gC (λm b k hz=>?_) _ (h1.ok t),h1.sep,λt b k hf=>⟨λhz=>(hz2 b k hz).2 t hf,(h1.fz t b k hf).2⟩,h1.rf,λb k hz=>hz.elim (λhz=>(hz2 b k hz).1) λhz=>h1.cC b k (.inr hz)⟩;cases m with
 |own=>exact hz
 |sl=>exact hz1 b k hz
 |af=>exact hz.imp (hz1 b k) id
end Inv
end M
namespace M
open Go Go.RowKit
variable [Bs]
section
variable {P:Program}{c:Ctx}{G:Nat->C}{zl:Nat->Nat->Prop}{s:ah}{a:Act}{w:World}{o:Oper}{K:ah->Prop}
def adI(h:St c G zl s a w){sz:Nat}{z:List X}{ty el:TypeId}{ii:TypeInfo}{v:Value}{x:AV}{x':Operand}(ho:o.op=.call {callee:=.builtin .clear,args:= #[x'],argTypes:= #[ty]})(hu:P.underlying ty=some (.slice el))(hi:P.info? el=some ii)(hz:ii.zero=some v)
  (Jm:mR v.cells.toList z=true)(hzs:z.length=sz)(h0:0<sz)(hd:o.dst=none)(hx:aI x' x=true)(hK:aL P (.vC sz z x) s K):Good P c o a w K:=by
 obtain⟨q,q1,q2,q3⟩:=cx h hx;simp only[aL] at hK;rw[<-q1] at hK;cases q with
 |cut vv r p lo hi'=>
  simp only[C.er] at hK;obtain⟨m,bT,A,len,cap,e,A',cap',hs,hv,hlo,hhi,hcap,jb,-,-⟩:=q3.rf;unfold look at hK;rw[<-h.inv.er,C.gE,hs] at hK;cases m with
  |own=>
   simp only[cv,C.er] at hK;obtain⟨rfl,hK⟩:=hK;obtain⟨zs,Z⟩:=CT w zl c.zb Jm;have hzl:zs.length=z.length:=by rw[<-Z.er];simp
   have hvs:v.cells.size=z.length:=by rw[<-hzl,<-CH,<-Z.val];simp
   have hok:=C.gV p hs (h.inv.ok r);have hin:∀b k,(C.row .own bT A len cap e).fp b k->(G r).fp b k:=λb k hf=>C.gF p hs (h.inv.ok r) hf;obtain⟨h1,h2,h3,h4,h5⟩:=hok;let e':Nat->Nat->C:=λi j=>if lo<=i/\i<hi' then zs.getD j (.dead undef) else e i j
   have he:∀i j,(lo<=i/\i<hi')->e' i j=zs.getD j (.dead undef):=λi j hh=>az hh;have hne:∀i j,¬(lo<=i/\i<hi')->e' i j=e i j:=λi j hh=>aC hh;have Ai:∀j,j<bT->zs.getD j (.dead undef)∈zs:=λj hj=>cS (by omega) _;have kE:∀i j,i<len->j<bT->∀b k,(e i j).fp b k->(C.row .own bT A len cap e).fp b k:=λi j hi hj b k hf=>⟨rfl,.inr ⟨i,j,hi,hj,hf⟩⟩
   have tI:∀b k,(C.row .own bT A len cap e').fp b k->(C.row .own bT A len cap e).fp b k:=λb k hf=>by
    obtain⟨_,hA|⟨i,j,hi2,hj,hf⟩⟩:=hf;·exact⟨rfl,.inl hA⟩
    ·by_cases hh:lo<=i/\i<hi';·rw[he i j hh] at hf;exact((Z.all _ (Ai j hj)).2.2 b k hf).elim
     ·rw[hne i j hh] at hf;exact kE i j hi2 hj b k hf
   have run:∃w',(execOp a.eval o).run P w=.ok (.value (.tuple #[])) w'/\Ext (λb k=>∃o',A=some (b,o',none)) w w'/\∀i j,i<len->j<bT->∃g o',A=some (g,o',none)/\w'.cell? ⟨g,o'+i*bT+j,none⟩=some (e' i j).val:=by
    have lX:∀n' A2 c2 r w',a.eval x'=.slice A2 n' c2->(Builtin.clear_ #[ty] o.type #[.slice A2 n' c2]).run P w=.ok r w'->(execOp a.eval o).run P w=.ok (.value r) w':=by intro n' A2 c2 r w' hh hr;simp[execOp,ho,hh,resolve,invoke,builtin,hr]
    by_cases hn0:hi' - lo=0
    ·refine⟨w,?_,Ext.refl _ _,λi j lY hj=>?_⟩
     ·have z7:a.eval x'=.slice (Option.map (λq:Ad=>⟨q.1,q.2.1,q.2.2⟩) A') 0 cap':=by rw[<-q2,C.val,hv,hn0]
      refine lX _ _ _ _ _ z7 ?_;cases A'<;>simp[Builtin.clear_,run_underlying hu]
     ·obtain⟨g,o',b1,b2,_⟩:=h2 i j lY hj;exact⟨g,o',b1,by rw[b2,hne i j (by omega)]⟩
    ·obtain⟨g,o',b1,_,_⟩:=h2 lo 0 (by omega) h0;have hAs:A'=some (g,o'+lo*bT,none):=by rw[jb (by omega),b1,cv,o8]
     have hall:∀i j,i<len->j<bT->w.cell? ⟨g,o'+i*bT+j,none⟩=some (e i j).val:=λi j lY hj=>by
      obtain⟨g2,o2,c1,c2,_⟩:=h2 i j lY hj;rw[b1] at c1;injection c1 with c1
      injection c1 with c3 c4
      injection c4 with c4
      subst c3;subst c4;exact c2
     have aaX:∀k,o'<=k->k<o'+cap*bT->w.frozen? ⟨g,k,none⟩=false:=by
      rcases h4 rfl with ⟨d1,_⟩|⟨g2,o2,arr,t,fz,d1,d2,d3,d4⟩;·rw[b1] at d1;cases d1
      ·rw[b1] at d1;injection d1 with d1
       injection d1 with d5 d6
       injection d6 with d6
       subst d5;subst d6;exact d4
     let vs:List Value:=(Builtin.zeroCells v.cells (hi' - lo)).toList;have hvl:vs.length=(hi' - lo)*bT:=by simp[vs,Builtin.zeroCells,hvs,hzs]
     have Qz:∀k (hk:k<vs.length),vs[k]=(zs.getD (k%bT) (.dead undef)).val:=by
      intro k hk;have hm:k%bT<zs.length:=by rw[hzl,hzs];exact sR _ h0
      have hm2:k%bT<v.cells.size:=by omega
      have e1:vs[k]=v.cells[k%v.cells.size]!:=by simp[vs,Builtin.zeroCells]
      rw[e1,hvs,hzs,getElem!_pos v.cells (k%bT) hm2];have:=dm (λt:List Value=>t[k%bT]?) Z.val;simp only[cY] at this;rw[bZ hm] at this;rw[jO,bZ hm];simp only[cv,Array.getElem?_toList,CQ hm2,dF] at this;exact this.symm
     have hidx:∀k,k<(hi' - lo)*bT->k / bT<hi' - lo/\k=k / bT*bT+k%bT:=λk hk=>by refine⟨(Nat.div_lt_iff_lt_mul h0).2 hk,?_⟩;have:=CL k bT;rw[qI] at this;omega
     have Qr:∀k,k<(hi' - lo)*bT->o'+lo*bT+k=o'+(lo+k / bT)*bT+k%bT:=λk hk=>by have:=(hidx k hk).2;rw[fB];omega
     have hsome:∀j,j<vs.length->(w.cell? ⟨g,o'+lo*bT+j,none⟩).isSome=true:=λj hj=>by rw[hvl] at hj;rw[Qr j hj,hall _ _ (by have:=(hidx j hj).1;omega) (sR _ h0)];rfl
     have hst:=run_storeCells_cells (P:=P) g (o'+lo*bT) vs 0 w (by simpa using hsome) (λj hj=>by
      rw[hvl] at hj;refine aaX _ (by omega) ?_;rw[nP,Qr j hj];have h7:=(hidx j hj).1;have h8:(lo+j / bT+1)*bT<=cap*bT:=nR _ (by omega);have h9:=sR j h0;rw[fB,Hy] at h8;omega) (λu hu=>by
      obtain⟨k,hk,rfl⟩:=nT hu;rw[Qz k hk];exact Inv.qZ (C.lF (Z.all _ (Ai _ (sR _ h0))).1))
     have hE:=Ext.setCells g vs (o'+lo*bT) w;have aaA:=World.cell?_setCells_in g vs (o'+lo*bT) w hsome;simp only[nP] at hst;refine⟨w.setCells g (o'+lo*bT) vs,?_,hE.mono λb k hh _=>⟨o',by rw[b1,hh.1]⟩,λi j lY hj=>⟨g,o',b1,?_⟩⟩
     ·have z7:a.eval x'=.slice (some ⟨g,o'+lo*bT,none⟩) (hi' - lo) cap':=by rw[<-q2,C.val,hv,hAs];rfl
      refine lX _ _ _ _ _ z7 ?_;obtain⟨m,hm⟩:∃m,hi' - lo=m+1:=⟨hi' - lo - 1,by omega⟩;have hzr:∀w,(zeroValue el).run P w=.ok v w:=by intro w;simp[zeroValue,typeInfo,hi,hz]
      simp only[vs,hm] at hst⊢;simp[Builtin.clear_,run_underlying hu,hzr,hst]
     ·by_cases hh:lo<=i/\i<hi'
      ·have hk:(i - lo)*bT+j<vs.length:=by rw[hvl];have:(i - lo+1)*bT<=(hi' - lo)*bT:=nR _ (by omega);rw[fB,Hy] at this;omega
       have:=aaA _ hk;rw[Qz _ hk,Nat.mul_add_mod_self_right,Nat.mod_eq_of_lt hj] at this;have hq:lo*bT+(i - lo)*bT=i*bT:=by rw[<-fB];congr 1;omega
       rw[show o'+lo*bT+((i - lo)*bT+j)=o'+i*bT+j by omega] at this;rw[he i j hh];exact this
      ·rw[hne i j hh,World.cell?_setCells_out,hall i j lY hj];intro _ _;simp only;rw[hvl];by_cases hl:i<lo;·left;have:(i+1)*bT<=lo*bT:=nR _ (by omega);rw[fB,Hy] at this;omega
       ·right;have t1:hi'*bT<=i*bT:=nR _ (by omega);have t2:lo*bT+(hi' - lo)*bT=hi'*bT:=by rw[<-fB];congr 1;omega
        omega
   obtain⟨w',hrun,hE,hcell⟩:=run;have rF:∀b k,(∃o',A=some (b,o',none))->(C.row .own bT A len cap e).fp b k:=λb k hh=>⟨rfl,.inl hh⟩;have P7:∀m b k,Zf zl c.zb m b k->¬(∃o',A=some (b,o',none)):=λm b k hz hh=>h.inv.yB r m b k hz (hin b k (rF b k hh))
   have Jn:(C.row .own bT A len cap e').ok w' (Zf zl c.zb):=by
    refine⟨h1,λi j lY hj=>?_,λi j lY hj=>?_,λhm=>?_,λi j lY hj b k hf=>?_⟩;·obtain⟨g,o',c1,c2⟩:=hcell i j lY hj;exact⟨g,o',c1,c2,λhm=>(hm rfl).elim⟩
    ·obtain⟨a1,a2,a3,a4⟩:=h3 i j lY hj;by_cases hh:lo<=i/\i<hi';·rw[he i j hh];obtain⟨b1,b2,b3⟩:=Z.all _ (Ai j hj);exact⟨C.lF b1,C.Be b1,by cases hq:zs.getD j (.dead undef)<;>first|trivial|exact .inl rfl,C.fk hE P7 _ (λb k hf=>(b3 b k hf).elim) b2⟩
     ·rw[hne i j hh];exact⟨a1,a2,a3,C.fk hE P7 _ (λb k hf hS=>by obtain⟨o',hA⟩:=hS;exact(h5 i j lY hj b k hf).1 rfl o' hA) a4⟩
    ·rcases h4 hm with hh|⟨g,o',arr,t,fz,d1,d2,d3,d4⟩;·exact .inl hh
     ·have hg:g<w.heap.size:=(gG.1 d2).1
      obtain⟨fT,pQ,hs'⟩:∃fT,w'.heap[g]?=some (.cells fT t fz)/\fT.size=arr.size:=by
       rcases hE.block g hg with e'|⟨a1,a2,t',lW,q1,q2,q3,q4⟩;·exact⟨arr,e'.trans d2,rfl⟩
       ·rw[d2] at q1;injection q1 with q1
        injection q1 with b1 b2 b3
        subst b1;subst b2;subst b3;exact⟨a2,q2,q3⟩
      exact .inr ⟨g,o',fT,t,fz,d1,pQ,by omega,λk k1 k2=>(hE.frozen hg).trans (d4 k k1 k2)⟩
    ·by_cases hh:lo<=i/\i<hi';·rw[he i j hh] at hf;exact((Z.all _ (Ai j hj)).2.2 b k hf).elim
     ·rw[hne i j hh] at hf;obtain⟨a1,a2⟩:=h5 i j lY hj b k hf;refine⟨a1,λi' j' hi2 hj2 JC hf'=>?_⟩;by_cases pQ:lo<=i'/\i'<hi';·rw[he i' j' pQ] at hf';exact(Z.all _ (Ai j' hj2)).2.2 b k hf'
      ·rw[hne i' j' pQ] at hf';exact a2 i' j' hi2 hj2 JC hf'
   have hk0:=h.inv.eO r p;have hs0:((G r).ax (C.belows r p)).sub p=some (C.row .own bT A len cap e):=C.jj _ p _ _ (h.inv.ok r) hs
   obtain⟨i1,i2,i3⟩:=hk0.HX r p (λt=>C.gB _ _) hs0 (C.gj.row .own .own bT A len cap e e') ⟨rfl,λh=>h,λh=>h,λh=>h,λm h=>h⟩ ⟨trivial,trivial⟩ hE (λb k hs=>.inl (rF b k hs)) Jn (λb k hz=>hz)
    (λb k hz=>⟨λhf=>(h.inv.fz r b k (hin b k (tI b k hf))).1 hz,jJ (h.inv.cC b k (.inl hz)) hE.size,λt hf=>by rw[C.cN] at hf;exact((h.inv.fz t b k hf).1 hz).elim⟩) (λb k hf=>.inl (tI b k hf))
   have oa:(C.row .own bT A len cap e').er=.row .own bT (DL lo hi' z ((List.range len).map λi=>(List.range bT).map λj=>(e i j).er)):=by
    simp only[C.er,DL];congr 1;apply gX;intro i;rw[CR,C.cZ,C.cZ];split
    ·simp only[cv,dF];by_cases hh:lo<=i/\i<hi';·rw[az hh,<-Z.er,<-mj zs (.dead undef) C.er,hzl,hzs];exact cw λj _=>by rw[he i j hh]
     ·rw[aC hh];exact cw λj _=>by rw[hne i j hh]
    ·rfl
   rw[oa] at i1
   have hst:St c _ zl _ a w':=h.move i1 (λt=>(i2 t).trans (C.jk _ _)) hE (λb k hs=>h.tr.dom r b k (hin b k (rF b k hs))) (λt b k hf=>by
    rcases i3 t b k hf with hd|⟨hh,_⟩;·exact .inl ⟨r,hin b k (tI b k hd)⟩
    ·rw[C.cN] at hh;exact .inl ⟨t,hh⟩)
   exact⟨.tuple #[],w',.inl hrun,_,zl,_,hK,by rw[hd];exact hst⟩
  |sl=>exact hK.elim
  |af=>exact hK.elim
 |_=>exact hK.elim
end
end M
namespace M
open Go Go.RowKit
variable [Bs]
section
variable {P:Program}{c:Ctx}{G:Nat->C}{zl:Nat->Nat->Prop}{s:ah}{a:Act}{w:World}{o:Oper}{K:ah->Prop}
def KI{x:C}(hc:x.cell)(hs:x.cQ):x.plain:=by cases x<;>first|exact hc|exact hs.elim|trivial
def zn{x:C}{m:Md}{z:Nat}{xs:List (List X)}(h:x.er=.row m z xs):∃A len cap e,x=.row m z A len cap e/\xs=dI z len e:=by
 cases x with
 |row m' z' A len cap e=>
  simp only[C.er] at h;injection h with h1 h2 h3
  subst h1;subst h2;exact⟨A,len,cap,e,rfl,h3.symm⟩
 |_=>simp[C.er] at h
def Su{z len:Nat}{e:Nat->Nat->C}(h:scalars (dI z len e)){i j:Nat}(hi:i<len)(hj:j<z):scalar (e i j).er=true:=
 h _ (aU.2 ⟨i,by simpa using hi,rfl⟩) _ (aU.2 ⟨j,by simpa using hj,rfl⟩)
def Sv{x:C}(h:scalar x.er=true):x.plain/\∀b k,¬x.fp b k:=by cases x<;>first|exact⟨trivial,λ_ _ h=>h⟩|(simp[C.er,scalar] at h)
def afn{w:World}{zl zb:Nat->Nat->Prop}{G:Nat->C}{s:ah}(h:Inv w zl zb G s){v:Value}{r:Nat}{p:Path}{lo hi:Nat}(hr:(C.cut v r p lo hi).rf G){z:Nat}{xs:List (List X)}(hl:look s r p=some (.row .own z xs)):
  ∃A' cap' e2 G',v=.slice (Option.map (λq:Ad=>⟨q.1,q.2.1,q.2.2⟩) A') (hi - lo) cap'/\((xs.take hi).drop lo)=dI z (hi - lo) e2/\(∀i j,i<hi - lo->j<z->∃g o,A'=some (g,o,none)/\w.cell? ⟨g,o+i*z+j,none⟩=some (e2 i j).val)/\
   (∀i j,i<hi - lo->j<z->(e2 i j).plain)/\bO w zl zb G (cT (hi - lo) z e2).flatten G' (iy r p (.row .own z (Dt lo hi xs)) s):=by
 obtain⟨m,sz,A,len,cap,e,A',cap',hs,hv,hlo,hhi,hcap,jb,-,-⟩:=hr;unfold look at hl;rw[<-h.er,C.gE,hs] at hl;simp only[cv,C.er,dF,X.row.injEq] at hl;obtain⟨rfl,rfl,rfl⟩:=hl;have hok:=C.gV p hs (h.ok r);have hin:∀b k,(C.row .own sz A len cap e).fp b k->(G r).fp b k:=λb k hf=>C.gF p hs (h.ok r) hf;obtain⟨h1,h2,h3,h4,h5⟩:=hok;let e':Nat->Nat->C:=λi j=>if lo<=i/\i<hi then .dead (e i j).val else e i j
 have he:∀i j,(lo<=i/\i<hi)->e' i j=.dead (e i j).val:=λi j hh=>az hh;have hne:∀i j,¬(lo<=i/\i<hi)->e' i j=e i j:=λi j hh=>aC hh;have kE:∀i j,i<len->j<sz->∀b k,(e i j).fp b k->(C.row .own sz A len cap e).fp b k:=λi j hi hj b k hf=>⟨rfl,.inr ⟨i,j,hi,hj,hf⟩⟩
 have tI:∀b k,(C.row .own sz A len cap e').fp b k->(C.row .own sz A len cap e).fp b k:=λb k hf=>by
  obtain⟨_,hA|⟨i,j,hi',hj,hf⟩⟩:=hf;·exact⟨rfl,.inl hA⟩
  ·by_cases hh:lo<=i/\i<hi;·rw[he i j hh] at hf;exact hf.elim
   ·rw[hne i j hh] at hf;exact kE i j hi' hj b k hf
 have Jn:(C.row .own sz A len cap e').ok w (Zf zl zb):=by
  refine⟨h1,λi j hi' hj=>?_,λi j hi' hj=>?_,h4,λi j hi' hj b k hf=>?_⟩
  ·obtain⟨g,o,a1,a2,a3⟩:=h2 i j hi' hj;refine⟨g,o,a1,?_,a3⟩;rw[a2];by_cases hh:lo<=i/\i<hi;·rw[he i j hh];rfl
   ·rw[hne i j hh]
  ·obtain⟨a1,a2,a3,a4⟩:=h3 i j hi' hj;by_cases hh:lo<=i/\i<hi;·rw[he i j hh];exact⟨Inv.qZ a1,trivial,trivial,trivial⟩
   ·rw[hne i j hh];exact⟨a1,a2,a3,a4⟩
  ·by_cases hh:lo<=i/\i<hi;·rw[he i j hh] at hf;exact hf.elim
   ·rw[hne i j hh] at hf;obtain⟨a1,a2⟩:=h5 i j hi' hj b k hf;refine⟨a1,λi' j' hi2 hj2 JC hf'=>?_⟩;by_cases pQ:lo<=i'/\i'<hi;·rw[he i' j' pQ] at hf';exact hf'
    ·rw[hne i' j' pQ] at hf';exact a2 i' j' hi2 hj2 JC hf'
 have h0:=h.eO r p;have hs0:((G r).ax (C.belows r p)).sub p=some (C.row .own sz A len cap e):=C.jj _ p _ _ (h.ok r) hs
 obtain⟨i1,i2,i3⟩:=h0.HX r p (λt=>C.gB _ _) hs0 (C.gj.row .own .own sz A len cap e e') ⟨rfl,λh=>h,λh=>h,λh=>h,λm h=>h⟩ ⟨trivial,trivial⟩ (Ext.refl (λ_ _=>False) w) (λb k hs=>hs.elim) Jn (λb k hz=>hz)
  (λb k hz=>⟨λhf=>(h.fz r b k (hin b k (tI b k hf))).1 hz,h.cC b k (.inl hz),λt hf=>by rw[C.cN] at hf;exact((h.fz t b k hf).1 hz).elim⟩) (λb k hf=>.inl (tI b k hf))
 have oa:(C.row .own sz A len cap e').er=.row .own sz (Dt lo hi ((List.range len).map λi=>(List.range sz).map λj=>(e i j).er)):=by
  simp only[C.er,Dt];congr 1;apply gX;intro i;rw[CR,C.cZ,C.cZ];split
  ·simp only[cv,dF];by_cases hh:lo<=i/\i<hi;·rw[az hh,cK];exact cw λj _=>by rw[he i j hh];rfl
   ·rw[aC hh];exact cw λj _=>by rw[hne i j hh]
  ·rfl
 rw[oa] at i1;have hmem:∀x∈(cT (hi - lo) sz λi j=>e (i+lo) j).flatten,∃i j,i<hi - lo/\j<sz/\x=e (i+lo) j:=λx hx=>by obtain⟨i,j,hi',hj,rfl⟩:=nr hx;exact⟨i,j,hi',hj,rfl⟩
 have hlt:hi - lo≠0->A'=A.map λq=>jt (lo*sz) q:=λhne=>jb (by omega)
 have hrow:(((List.range len).map λi=>(List.range sz).map λj=>(e i j).er).take hi).drop lo=dI sz (hi - lo) λi j=>e (i+lo) j:=by
  unfold dI;rw[<-oQ,<-mG,uZ,nQ hhi];apply gX;intro i;rw[C.cZ,cY,oY];by_cases hh:i<hi - lo;·rw[az hh,qN (by omega),oS];rfl
  ·rw[aC hh,kV (by simp;omega)];rfl
 have h3':∀i j,i<hi - lo->j<sz->(e (i+lo) j).plain:=λi j hi' hj=>KI (h3 (i+lo) j (by omega) hj).1 (h3 (i+lo) j (by omega) hj).2.1;refine⟨A',cap',λi j=>e (i+lo) j,_,hv,hrow,λi j hi' hj=>?_,h3',⟨i1,λx hx=>?_,?_,λt=>(i2 t).trans (C.jk _ _),λt b k hf=>?_⟩⟩;·obtain⟨g,o,a1,a2,a3⟩:=h2 (i+lo) j (by omega) hj;refine⟨g,o+lo*sz,by rw[hlt (by omega),a1,cv,o8],?_⟩;rw[show o+lo*sz+i*sz+j=o+(i+lo)*sz+j by rw[fB];omega];exact a2
 ·obtain⟨i,j,hi',hj,rfl⟩:=hmem x hx;have hj2:i+lo<len:=by omega
  refine⟨(h3 (i+lo) j hj2 hj).2.2.2,λt b k hf hf'=>?_,λb k hf=>h.fz r b k (hin b k (kE _ _ hj2 hj b k hf)),λb k hf=>⟨r,hin b k (kE _ _ hj2 hj b k hf)⟩⟩;rcases i3 t b k hf' with hd|⟨_,hn⟩
  ·obtain⟨_,⟨o,hA⟩|⟨i',j',hi2,aa6,ij⟩⟩:=hd;·exact(h5 _ j hj2 hj b k hf).1 rfl o hA
   ·by_cases hh:lo<=i'/\i'<hi;·rw[he i' j' hh] at ij;exact ij
    ·rw[hne i' j' hh] at ij;refine(h5 _ j hj2 hj b k hf).2 i' j' hi2 aa6 (λe=>hh ?_) ij;injection e with e1 e2
     omega
  ·exact hn (kE _ _ hj2 hj b k hf)
 ·have hsub:(C.row .own sz (A.map λq=>jt (lo*sz) q) (hi - lo) (cap - lo) λi j=>e (i+lo) j).ok w (Zf zl zb):=(OD ⟨h1,h2,h3,h4,h5⟩ hlo hhi (by omega) (by omega) (.inr rfl)).1;exact Ka hsub
 ·by_cases ht:t=r
  ·subst ht;rcases i3 t b k hf with hd|⟨hh,_⟩;·exact hin b k (tI b k hd)
   ·rwa [C.cN] at hh
  ·rw[dh _ _ ht,C.cN] at hf;exact hf
def adx(h:St c G zl s a w){d sz bytes:Nat}{tk:Tk}{ty ty' el Dz:TypeId}{i:TypeInfo}{v:Value}{x y:AV}{x' y':Operand}
  (ho:o.op=.call {callee:=.builtin .append,args:= #[x',y'],argTypes:= #[ty,ty']})(hu:P.underlying ty=some (.slice el))(vZ:P.underlying ty'=some (.slice Dz))(hi:P.info? el=some i)(hz:i.zero=some v)(hsz:i.size=sz)(hb:i.bytes=bytes)(hb0:0<bytes)(h0:0<sz)(hvs:v.cells.size=sz)
  (hd:o.dst=some d)(hn:d<c.nt)(hx:aI x' x=true)(hy:aI y' y=true)(hK:aL P (.app d tk sz bytes x y) s K):Good P c o a w K:=by
 obtain⟨p,e1,e2,e3⟩:=cx h hx;obtain⟨y1,G1,f1,f2,f3,f4⟩:=qC .mv h.inv e3;simp only[aL] at hK;rw[e1] at f1 f4;rw[<-f1] at hK;have h1:=h.x9 f4;have JK:=(f2.trans e2).symm;cases hE:y1.er with
 |row m z xs=>
  rw[hE] at hK;cases m with
  |own=>
   obtain⟨A,len,cap,e,rfl,rfl⟩:=zn hE;obtain⟨rfl,hK⟩:=hK;obtain⟨q,q1,q2,q3⟩:=cx h1 hy;have hk1:∀i j,i<len->j<z->(e i j).plain:=λi j hi hj=>KI (f4.ok.2.2.1 i j hi hj).1 (f4.ok.2.2.1 i j hi hj).2.1;have hxl:(dI z len e).length=len:=by simp[dI]
   have other:(∃ys,rowAt (take .mv (au s x) s).2 (au (take .mv (au s x) s).2 y)=some (z,ys)/\((dI z len e).length+ys.length)*bytes<=140737488355328/\scalars ys/\K (put d (.row .own z (dI z len e++ys)) (take .mv (au s x) s).2))->Good P c o a w K:=by
    rintro ⟨ys,k1,k2,k3,k4⟩;rw[<-q1] at k1;obtain⟨A2,m,cap2,e2,rfl,hv⟩:=KW h1.inv q3 k1;have oo:(dI z m e2).length=m:=by simp[dI]
    refine HU h (bO.one f4) ho hu vZ hi hz hsz hb hb0 h0 hvs hd hn (fA.2 rfl) JK (by rw[<-q2];exact hv.val) (λi j hi hj=>hv.cell i j hi hj) (λi j hi hj=>?_) (qS λx hx=>?_) (by rw[hxl,oo] at k2;exact k2) hk1 k4;·obtain⟨s1,s2⟩:=Sv (Su k3 hi hj);exact⟨s1,(hv.kid i j hi hj).2.2,λb k hf=>(s2 b k hf).elim⟩
    ·obtain⟨i,j,hi,hj,rfl⟩:=nr hx;exact(Sv (Su k3 hi hj)).2
   cases tk with
   |al=>exact other hK
   |aX=>exact other hK
   |mv=>
    simp only at hK;by_cases hcut:∃v r p lo hi,q=.cut v r p lo hi
    ·obtain⟨vv,r,pp,lo,hi',rfl⟩:=hcut;rw[<-q1] at hK;simp only[C.er,cE] at hK;split at hK
     ·rename_i hh;split at hh
      ·rename_i z2 xs hl;simp only[X.row.injEq,sV] at hh;obtain⟨rfl,rfl⟩:=hh;obtain⟨rfl,k2,k4⟩:=hK;obtain⟨A2,cap2,e3,G3,c1,c2,c3,c4,c5⟩:=afn h1.inv q3.rf hl;rw[c2] at k2 k4;have oo:(dI z2 (hi' - lo) e3).length=hi' - lo:=by simp[dI]
       simp only[hl] at k4;refine HU h (bO.cons f4 c5) ho hu vZ hi hz hsz hb hb0 h0 hvs hd hn (bE ..) JK (A2:=A2) (m:=hi' - lo) (cap2:=cap2) (e2:=e3) (by rw[<-q2];exact c1) c3 (λi j hi hj=>?_) c5.apart (by rw[hxl,oo] at k2;exact k2) hk1 k4;have hm:e3 i j∈(cT (hi' - lo) z2 e3).flatten:=Hs.2 ⟨_,aU.2 ⟨i,by simpa using hi,rfl⟩,aU.2 ⟨j,by simpa using hj,rfl⟩⟩;refine⟨c4 i j hi hj,(c5.all _ hm).1,λb k hf=>⟨λhf'=>?_,_,cz _ hm,hf⟩⟩;obtain⟨t,ht⟩:=(c5.all _ hm).2.2.2 b k hf;exact f4.sep t b k hf' ht
      ·cases hh
     ·exact hK.elim
    have hte:cE q.er (take .mv (au s x) s).2=take .mv q.er (take .mv (au s x) s).2:=by
     cases q with
     |cut v r p lo hi=>exact(hcut ⟨v,r,p,lo,hi,rfl⟩).elim
     |_=>rfl
    rw[<-q1,hte,q1] at hK;obtain⟨y2,G2,g1,g2,g3,g4⟩:=qC .mv h1.inv q3;rw[q1] at g1 g4;rw[<-g1] at hK;cases Je:y2.er with
    |row m2 z2 xs2=>
     rw[Je] at hK;cases m2 with
     |own=>
      obtain⟨A2,m,cap2,e2,rfl,rfl⟩:=zn Je;obtain⟨rfl,k2,k4⟩:=hK;have oo:(dI z2 m e2).length=m:=by simp[dI]
      obtain⟨r1,r2,r3,r4,r5⟩:=g4.ok;refine HU h (bO.cons f4 (bO.one g4)) ho hu vZ hi hz hsz hb hb0 h0 hvs hd hn (bE ..) JK (A2:=A2) (m:=m) (cap2:=cap2) (e2:=e2) (by rw[<-q2,<-g2];rfl) (λi j hi hj=>?_) (λi j hi hj=>?_) (Ka g4.ok) (by rw[hxl,oo] at k2;exact k2) hk1 k4;·obtain⟨g,o2,a1,a2,_⟩:=r2 i j hi hj;exact⟨g,o2,a1,a2⟩
      ·obtain⟨a1,a2,a3,a4⟩:=r3 i j hi hj;refine⟨KI a1 a2,a4,λb k hf=>?_⟩;have hin:(C.row .own z2 A2 m cap2 e2).fp b k:=C.j8 a1 a3 hi hj hf;refine⟨λhf'=>?_,_,cz _ (fA.2 rfl),hin⟩;obtain⟨t,ht⟩:=g4.dom b k hin;exact f4.sep t b k hf' ht
     |_=>exact hK.elim
    |_=>rw[Je] at hK;exact hK.elim
  |_=>exact hK.elim
 |_=>rw[hE] at hK;exact hK.elim
end
end M
namespace M
open Go Go.RowKit
variable [Bs]
namespace X
def ny(m:Md){α:Type}(f:α->X):∀l:List α,ef m (l.map f)=l.map λa=>(f a).md m
 |[]=>rfl
 |a::l=>by simp only[aY,ef,ny m f l]
def E9(m:Md){α β:Type}(g:α->List β)(f:α->β->X):∀l:List α,bQ m (l.map λa=>(g a).map (f a))=l.map λa=>(g a).map λb=>(f a b).md m
 |[]=>rfl
 |a::l=>by simp only[aY,bQ,ny,E9 m g f l]
end X
namespace C
def dN:C->C
 |.row _ sz A len cap e=>.row .af sz A len cap λi j=>(e i j).dN
 |.ptr _ g o n c=>.ptr .af g o n λj=>(c j).dN
 |.agg n c=>.agg n λj=>(c j).dN
 |.ak n c=>.ak n λj=>(c j).dN
 |.fn f n c=>.fn f n λj=>(c j).dN
 |.ref v _ _=>.dead v
 |.aB v _ _ _ _=>.dead v
 |.cut v _ _ _ _=>.dead v
 |.dead v=>.dead v
 |.int k n=>.int k n
 |.bool b=>.bool b
 |.str s=>.str s
def rW:∀c:C,c.dN.er=c.er.md .af
 |.row m sz A len cap e=>by simp only[dN,er,X.md];rw[X.E9 .af (λ_=>List.range sz) (λi j=>(e i j).er)];congr 1;exact cw λi _=>cw λj _=>rW (e i j)
 |.ptr m g o n c=>by simp only[dN,er,X.md,X.ny];congr 1;exact cw λj _=>rW (c j)
 |.agg n c=>by simp only[dN,er,X.md,X.ny];congr 1;exact cw λj _=>rW (c j)
 |.ak n c=>by simp only[dN,er,X.md,X.ny];congr 1;exact cw λj _=>rW (c j)
 |.fn f n c=>by simp only[dN,er,X.md,X.ny];congr 1;exact cw λj _=>rW (c j)
 |.ref _ _ _=>by simp only[dN,er,X.md]
 |.aB _ _ _ _ _=>by simp only[dN,er,X.md]
 |.cut _ _ _ _ _=>by simp only[dN,er,X.md]
 |.dead _=>by simp only[dN,er,X.md]
 |.int _ _=>by simp only[dN,er,X.md]
 |.bool _=>by simp only[dN,er,X.md]
 |.str _=>by simp only[dN,er,X.md]
def tZ:∀c:C,c.dN.val=c.val
 |.row m sz A len cap e=>rfl
 |.ptr m g o n c=>rfl
 |.agg n c=>by simp only[dN,val];congr 2;exact cw λj _=>tZ (c j)
 |.ak n c=>by simp only[dN,val];congr 2;exact cw λj _=>tZ (c j)
 |.fn f n c=>by simp only[dN,val];congr 2;exact cw λj _=>tZ (c j)
 |.ref _ _ _=>rfl
 |.aB _ _ _ _ _=>rfl
 |.cut _ _ _ _ _=>rfl
 |.dead _=>rfl
 |.int _ _=>rfl
 |.bool _=>rfl
 |.str _=>rfl
def AY:∀c:C,c.dN.bare
 |.row m sz A len cap e=>trivial
 |.ptr m g o n c=>λj _=>AY (c j)
 |.agg n c=>λj _=>AY (c j)
 |.ak n c=>λj _=>AY (c j)
 |.fn f n c=>λj _=>AY (c j)
 |.ref _ _ _=>trivial
 |.aB _ _ _ _ _=>trivial
 |.cut _ _ _ _ _=>trivial
 |.dead _=>trivial
 |.int _ _=>trivial
 |.bool _=>trivial
 |.str _=>trivial
def qd:∀(c:C) (b k:Nat),¬c.dN.fp b k
 |.row m sz A len cap e,b,k=>λh=>by cases h.1
 |.ptr m g o n c,b,k=>λh=>by cases h.1
 |.agg n c,b,k=>λ⟨j,_,hf⟩=>qd (c j) b k hf
 |.ak n c,b,k=>λ⟨j,_,hf⟩=>qd (c j) b k hf
 |.fn f n c,b,k=>λh=>h
 |.ref _ _ _,b,k=>λh=>h
 |.aB _ _ _ _ _,b,k=>λh=>h
 |.cut _ _ _ _ _,b,k=>λh=>h
 |.dead _,b,k=>λh=>h
 |.int _ _,b,k=>λh=>h
 |.bool _,b,k=>λh=>h
 |.str _,b,k=>λh=>h
def Fa{c:C}(h:c.cell):c.dN.cell:=by cases c<;>first|exact h|exact h.elim|trivial
def Rk{c:C}(h:c.fY):c.dN.fY:=by cases c<;>first|exact h|exact h.elim|trivial
def acD{c:C}(h:c.cQ):c.dN.cQ:=by cases c<;>first|exact h|exact h.elim|trivial
def Ko(c:C):c.dN.fits .af:=by cases c<;>first|trivial|exact .inr (.inl rfl)
variable {w:World}{zl zb bG:Nat->Nat->Prop}
def wE(hb:∀b k,zb b k->bG b k):∀c:C,(∀b k,c.fp b k->bG b k)->c.ok w (Zf zl zb)->c.dN.ok w (Zf zl bG)
 |.row m sz A len cap e,hf,h=>by
  obtain⟨h1,h2,h3,h4,h5⟩:=h;refine⟨h1,λi j hi hj=>?_,λi j hi hj=>?_,λhm=>by (cases hm),λi j hi hj b k hh=>(qd _ b k hh).elim⟩
  ·obtain⟨g,o,hA,hc,hz⟩:=h2 i j hi hj;refine⟨g,o,hA,by rw[tZ];exact hc,λ_=>?_⟩;cases m with
   |own=>exact .inr (hf _ _ ⟨rfl,.inl ⟨o,hA⟩⟩)
   |sl=>exact .inl (hz (by simp))
   |af=>exact(hz (by simp)).imp id (hb _ _)
  ·obtain⟨a1,a2,a3,a4⟩:=h3 i j hi hj;exact⟨Fa a1,acD a2,Ko _,wE hb (e i j) (λb k hk=>hf b k (j8 a1 a3 hi hj hk)) a4⟩
 |.ptr m g o n c,hf,h=>by
  obtain⟨h1,h2,h3,h4⟩:=h;refine⟨λj hj=>?_,h2,λj hj=>?_,λj hj b k hh=>(qd _ b k hh).elim⟩
  ·obtain⟨a1,a2,a3⟩:=h1 j hj;refine⟨by rw[tZ];exact a1,λ_=>?_,λhm=>by (cases hm)⟩;cases m with
   |own=>exact .inr (hf _ _ ⟨rfl,.inl ⟨rfl,by omega,by omega⟩⟩)
   |sl=>exact .inl (a2 (by simp))
   |af=>exact(a2 (by simp)).imp id (hb _ _)
  ·obtain⟨a1,a2,a3⟩:=h3 j hj;exact⟨Fa a1,Ko _,wE hb (c j) (λb k hk=>hf b k (kI a1 a2 hj hk)) a3⟩
 |.agg n c,hf,h=>⟨λj hj=>⟨Fa (h.1 j hj).1,wE hb (c j) (λb k hk=>hf b k ⟨j,hj,hk⟩) (h.1 j hj).2⟩,λj hj b k hh=>(qd _ b k hh).elim⟩
 |.ak n c,hf,h=>⟨λj hj=>⟨Rk (h.1 j hj).1,wE hb (c j) (λb k hk=>hf b k ⟨j,hj,hk⟩) (h.1 j hj).2⟩,λj hj b k hh=>(qd _ b k hh).elim⟩
 |.fn f n c,hf,h=>λj hj=>⟨wE hb (c j) (λb k hk=>((h j hj).2 b k hk).elim) (h j hj).1,λb k hh=>qd _ b k hh⟩
 |.ref _ _ _,_,_=>trivial
 |.aB _ _ _ _ _,_,_=>trivial
 |.cut _ _ _ _ _,_,_=>trivial
 |.dead _,_,_=>trivial
 |.int _ _,_,_=>trivial
 |.bool _,_,_=>trivial
 |.str _,_,h=>h
end C
structure fS (w:World) (zl zb:Nat->Nat->Prop) (x:C):Prop where
 ok:x.ok w (Zf zl zb)
 bare:x.bare
 cW:∀b k,¬x.fp b k
section
variable {w:World}{zl zb bG:Nat->Nat->Prop}{G:Nat->C}{s:ah}
def Kg(hb:∀b k,zb b k->bG b k){y:C}(hy:y.ok w (Zf zl zb))(hf:∀b k,y.fp b k->bG b k):fS w zl bG y.dN:=⟨C.wE hb y hf hy,C.AY y,C.qd y⟩
def AK(v:Value):fS w zl bG (.dead v):=⟨trivial,trivial,λ_ _ h=>h⟩
def Fs(h:Inv w zl zb G s)(hb:∀b k,zb b k->bG b k)(hG:∀t b k,(G t).fp b k->bG b k){y:C}(hy:ez w zl zb G y):∃x:C,x.er=lH s y.er/\x.val=y.val/\fS w zl bG x/\(y.cell->x.cell)/\(y.fY->x.fY)/\x.fits .af:=by
 have jm:lH s y.er=y.er.md .af->∃x:C,x.er=lH s y.er/\x.val=y.val/\fS w zl bG x/\(y.cell->x.cell)/\(y.fY->x.fY)/\x.fits .af:=λe=>
  ⟨y.dN,by rw[C.rW,e],C.tZ y,Kg hb hy.ok λb k hf=>(hy.cW b k hf).elim,C.Fa,C.Rk,C.Ko _⟩
 cases y with
 |ref v r p=>
  obtain⟨y',z',hs,hF,hv,m,z1,A,len,cap,e,rfl⟩:=hy.rf;cases hF with
  |row m m' sz' A len cap e e'=>refine⟨(C.row m' z1 A len cap e').dN,?_,by rw[C.tZ];exact hv,Kg hb (C.gV p hs (h.ok r)) λb k hf=>hG r b k (C.gF p hs (h.ok r) hf),λ_=>trivial,λ_=>trivial,.inr (.inl rfl)⟩;rw[C.rW];simp only[C.er,lH,look];rw[<-h.er,C.gE,hs];rfl
 |cut v r p lo hi=>
  obtain⟨m,sz,A,len,cap,e,A',cap',hs,hv,hlo,hhi,hcap,jb,-,-⟩:=hy.rf;have hok:=C.gV p hs (h.ok r);obtain⟨h1,h2,h3,h4,h5⟩:=(Kg hb hok λb k hf=>hG r b k (C.gF p hs (h.ok r) hf)).ok;refine⟨.row .af sz A' (hi - lo) cap' λi j=>(e (i+lo) j).dN,?_,hv.symm,⟨⟨hcap,λi j hi' hj=>?_,λi j hi' hj=>h3 (i+lo) j (by omega) hj,λhm=>by (cases hm),λi j hi' hj b k hh=>(C.qd _ b k hh).elim⟩,trivial,λb k hh=>by cases hh.1⟩,λ_=>trivial,λ_=>trivial,.inr (.inl rfl)⟩;·simp only[C.er,lH,look];rw[<-h.er,C.gE,hs];simp only[cv,C.er,X.md];rw[<-oQ,<-mG,uZ,nQ hhi,oC,cK];show _=X.row .af sz (X.bQ .af ((List.range (hi - lo)).map λi=>(List.range sz).map λj=>(e (i+lo) j).er));rw[X.E9 .af (λ_=>List.range sz) (λi j=>(e (i+lo) j).er) (List.range (hi - lo))];congr 1;exact cw λi _=>cw λj _=>C.rW _
  ·obtain⟨g,o,q1,q2,q3⟩:=h2 (i+lo) j (by omega) hj;refine⟨g,o+lo*sz,by rw[jb (by omega),q1,cv,o8],?_,λhm=>?_⟩;·rw[show o+lo*sz+i*sz+j=o+(i+lo)*sz+j by rw[fB];omega];exact q2
   ·rw[show o+lo*sz+i*sz+j=o+(i+lo)*sz+j by rw[fB];omega];exact q3 hm
 |_=>exact jm rfl
def ab8(h:Inv w zl zb G s){y:C}(hy:ez w zl zb G y){cs:List X}(hc:gp s y.er=some cs):∃g k,y.val=.pointer (some ⟨g,k,none⟩)/\∀j,j<cs.length->zl g (k+j)\/zb g (k+j)\/∃t,(G t).fp g (k+j):=by
 have zs:∀{m:Md} {b k:Nat},m≠.own->Zf zl zb m b k->zl b k\/zb b k\/∃t,(G t).fp b k:=λ{m b k} hm hz=>by
  cases m with
  |own=>exact(hm rfl).elim
  |sl=>exact .inl hz
  |af=>exact hz.imp id .inl
 cases y with
 |ptr m g o n f=>
  simp only[C.er,gp] at hc;injection hc with hc
  refine⟨g,o,rfl,λj hj=>?_⟩;have hj:j<n:=by rw[<-hc] at hj;simpa using hj
  obtain⟨h1,h2,h3,h4⟩:=hy.ok;by_cases hm:m=.own;·exact(hy.cW g (o+j) ⟨hm,.inl ⟨rfl,by omega,by omega⟩⟩).elim
  ·exact zs hm ((h1 j hj).2.1 hm)
 |aB v r p i k0=>
  obtain⟨z,hz,hp⟩:=hy.rf;have rQ:=C.gV p hz (h.ok r);simp only[C.er,gp,look] at hc;rw[<-h.er,C.gE,hz] at hc;simp only[cv] at hc;rcases hp with ⟨m,sz,g,o,len,cap,e,rfl,rfl⟩|⟨m,g,o,n,f,rfl,rfl,rfl⟩
  ·simp only[C.er,C.cZ] at hc;by_cases hi:i<len
   ·rw[az hi] at hc;simp only[cv,dF] at hc;refine⟨g,o+i*sz+k0,rfl,λj hj=>?_⟩;have hj:k0+j<sz:=by rw[<-hc] at hj;rw[<-mG,oC,C.vm r p i ((List.range (sz - k0)).map (· +k0)) k0 (λj=>e i j) (by simp)] at hj;simp at hj;omega
    by_cases hm:m=.own;·subst hm;exact .inr (.inr ⟨r,C.gF p hz (h.ok r) ⟨rfl,.inl ⟨o,rfl⟩⟩⟩)
    ·obtain⟨g',o',hA,hcell,tP⟩:=rQ.2.1 i (k0+j) hi hj;injection hA with hA
     injection hA with e1 e2
     injection e2 with e2
     subst e1;subst e2;rw[sQ];exact zs hm (tP hm)
   ·rw[aC hi] at hc;cases hc
  ·simp only[C.er,dF] at hc;refine⟨g,o+k0,rfl,λj hj=>?_⟩;have hj:k0+j<n:=by rw[<-hc] at hj;rw[<-mG,oC,C.vm r p 0 ((List.range (n - k0)).map (· +k0)) k0 f (by simp)] at hj;simp at hj;omega
   by_cases hm:m=.own;·subst hm;exact .inr (.inr ⟨r,C.gF p hz (h.ok r) ⟨rfl,.inl ⟨rfl,by omega,by omega⟩⟩⟩)
   ·have:=(rQ.1 (k0+j) hj).2.1 hm;rw[sQ];exact zs hm this
 |_=>simp[C.er,gp] at hc
def KQ(h:Inv w zl zb G s)(hb:∀b k,zb b k->bG b k)(hG:∀t b k,(G t).fp b k->bG b k):∀l:List C,(∀x∈l,ez w zl zb G x/\x.cell)->∃l':List C,l'.map C.er=oD s (l.map C.er)/\l'.map C.val=l.map C.val/\∀x∈l',fS w zl bG x/\x.cell/\x.fits .af
 |[],hl=>⟨[],rfl,rfl,λ_ hx=>(by cases hx)⟩
 |y::l,hl=>by
  obtain⟨x,x1,x2,x3,x4,_,x6⟩:=Fs h hb hG (hl y (bE ..)).1;obtain⟨l',l1,l2,l3⟩:=KQ h hb hG l λx hx=>hl x (cz _ hx);refine⟨x::l',by simp[oD,x1,l1],by simp[x2,l2],λz hz=>?_⟩;rcases cu.1 hz with rfl|hz;·exact⟨x3,x4 (hl y (bE ..)).2,x6⟩
  ·exact l3 z hz
def R8(F:List X->List X)(hF:∀l:List C,(∀x∈l,ez w zl zb G x/\x.cell)->∃l':List C,l'.map C.er=F (l.map C.er)/\l'.map C.val=l.map C.val/\∀x∈l',fS w zl bG x/\x.cell/\x.fits .af)(h:Inv w zl zb G s)(hb:∀b k,zb b k->bG b k)(hG:∀t b k,(G t).fp b k->bG b k){y:C}(hy:ez w zl zb G y){cs:List X}(hc:gp s y.er=some cs)(hne:cs≠[])(n:Nat)(hn:0<n):
  ∃x:C,x.er=.ptr .af (F (cs.take n))/\x.val=y.val/\fS w zl bG x:=by
 obtain⟨l,l1,⟨g,k,hv,hcell⟩,l3⟩:=Q0 h hy hc;obtain⟨g',k',gS,hmem⟩:=ab8 h hy hc;rw[hv] at gS;injection gS with gS;injection gS with gS;injection gS with e1 e2 e3
 subst e1;subst e2;have tJ:l.length=cs.length:=by rw[<-l1];simp
 obtain⟨l',m1,m2,m3⟩:=hF (l.take n) λx hx=>l3 x (Mw hx);have hl':l'.length=min n l.length:=by have:=dm List.length m2;simpa using this
 have hpos:0<l.length:=by rw[tJ];exact List.length_pos_iff.2 hne
 refine⟨.ptr .af g k l'.length λj=>l'.getD j (.dead undef),?_,hv.symm,⟨⟨λj hj=>⟨?_,λ_=>?_,λhm=>by (cases hm)⟩,?_,λj hj=>⟨(m3 _ (cS hj _)).2.1,(m3 _ (cS hj _)).2.2,(m3 _ (cS hj _)).1.ok⟩,λj hj b k hh=>((m3 _ (cS hj _)).1.cW b k hh).elim⟩,λj hj=>(m3 _ (cS hj _)).1.bare,λb k hh=>by cases hh.1⟩⟩;·simp only[C.er,mj];rw[m1,oQ,l1]
 ·have hj':j<l.length:=by omega
  have tK:(l'.getD j (.dead undef)).val=(l[j]).val:=by have:=dm (λt:List Value=>t[j]?) m2;simp only[cY,bZ hj,cv] at this;rw[M0 (by omega),bZ hj'] at this;rw[pJ (bZ hj)];simpa using this
  rw[tK];exact hcell j hj'
 ·rcases hmem j (by omega) with hz|hz|⟨t,ht⟩;·exact .inl hz
  ·exact .inr (hb _ _ hz)
  ·exact .inr (hG t _ _ ht)
 ·have:=hcell 0 hpos;rcases gW g w.heap.size with hg|hg;·exact hg
  ·simp[World.cell?,lP hg] at this
def R9(h:Inv w zl zb G s)(hb:∀b k,zb b k->bG b k)(hG:∀t b k,(G t).fp b k->bG b k){y:C}(hy:ez w zl zb G y){cs:List X}(hc:gp s y.er=some cs)(hne:cs≠[])(n:Nat)(hn:0<n):
  ∃x:C,x.er=.ptr .af (oD s (cs.take n))/\x.val=y.val/\fS w zl bG x:=R8 (oD s) (KQ h hb hG) h hb hG hy hc hne n hn
def aes(h:Inv w zl zb G s)(hb:∀b k,zb b k->bG b k)(hG:∀t b k,(G t).fp b k->bG b k){y:C}(hy:ez w zl zb G y)(l5:y.cell):∃x:C,x.er=iN s y.er/\x.val=y.val/\fS w zl bG x/\x.cell/\x.fits .af:=by
 have jm:iN s y.er=lH s y.er->∃x:C,x.er=iN s y.er/\x.val=y.val/\fS w zl bG x/\x.cell/\x.fits .af:=λe=>by obtain⟨x,x1,x2,x3,x4,_,x6⟩:=Fs h hb hG hy;exact⟨x,by rw[e,x1],x2,x3,x4 l5,x6⟩
 cases y with
 |aB v r p i k=>
  have dead:iN s (C.aB v r p i k).er=.dead->∃x:C,x.er=iN s (C.aB v r p i k).er/\x.val=(C.aB v r p i k).val/\fS w zl bG x/\x.cell/\x.fits .af:=λe=>⟨.dead v,e.symm,rfl,AK v,l5,trivial⟩;cases hc:gp s (.aB r p i k) with
  |none=>exact dead (by simp only[C.er,iN,hc])
  |some cs=>
   cases cs with
   |nil=>exact dead (by simp only[C.er,iN,hc])
   |cons a cs=>
    obtain⟨x,x1,x2,x3⟩:=R9 h hb hG hy hc (by simp) (a::cs).length (by simp);rw[uY] at x1;have he:iN s (C.aB v r p i k).er=.ptr .af (oD s (a::cs)):=by simp only[C.er,iN,hc]
    rw[he];refine⟨x,x1,x2,x3,?_,?_⟩;·cases x<;>first|trivial|(simp[C.er] at x1)
    ·cases x with
     |ptr m g o n f=>simp only[C.er,X.ptr.injEq] at x1;exact .inr (.inl x1.1)
     |_=>simp[C.er] at x1
 |_=>exact jm rfl
def R7(h:Inv w zl zb G s)(hb:∀b k,zb b k->bG b k)(hG:∀t b k,(G t).fp b k->bG b k):∀l:List C,(∀x∈l,ez w zl zb G x/\x.cell)->∃l':List C,l'.map C.er=lI s (l.map C.er)/\l'.map C.val=l.map C.val/\∀x∈l',fS w zl bG x/\x.cell/\x.fits .af
 |[],hl=>⟨[],rfl,rfl,λ_ hx=>(by cases hx)⟩
 |y::l,hl=>by
  obtain⟨x,x1,x2,x3⟩:=aes h hb hG (hl y (bE ..)).1 (hl y (bE ..)).2;obtain⟨l',l1,l2,l3⟩:=R7 h hb hG l λx hx=>hl x (cz _ hx);refine⟨x::l',by simp[lI,x1,l1],by simp[x2,l2],λz hz=>?_⟩;rcases cu.1 hz with rfl|hz;·exact x3
  ·exact l3 z hz
end
end M
namespace M
open Go Go.RowKit
variable [Bs]
section
variable {w:World}{zl zb bG:Nat->Nat->Prop}{G:Nat->C}{s:ah}
def KP(h:Inv w zl zb G s)(hb:∀b k,zb b k->bG b k)(hG:∀t b k,(G t).fp b k->bG b k):∀l:List C,(∀x∈l,ez w zl zb G x)->∃l':List C,l'.map C.er=gD s (l.map C.er)/\l'.map C.val=l.map C.val/\∀x∈l',fS w zl bG x
 |[],hl=>⟨[],rfl,rfl,λ_ hx=>(by cases hx)⟩
 |y::l,hl=>by
  obtain⟨l',l1,l2,l3⟩:=KP h hb hG l λx hx=>hl x (cz _ hx);have hy:=hl y (bE ..)
  have done:∀x:C,x.val=y.val->fS w zl bG x->(gD s ((y::l).map C.er))=x.er::gD s (l.map C.er)->∃l':List C,l'.map C.er=gD s ((y::l).map C.er)/\l'.map C.val=(y::l).map C.val/\∀x∈l',fS w zl bG x:=λx x1 x2 x3=>
   ⟨x::l',by rw[x3,aY,l1],by simp[x1,l2],λz hz=>(cu.1 hz).elim (λe=>e▸x2) (l3 z)⟩
  have jm:(gD s ((y::l).map C.er))=lH s y.er::gD s (l.map C.er)->∃l':List C,l'.map C.er=gD s ((y::l).map C.er)/\l'.map C.val=(y::l).map C.val/\∀x∈l',fS w zl bG x:=λe=>by obtain⟨x,x1,x2,x3,_⟩:=Fs h hb hG hy;exact done x x2 x3 (by rw[e,x1])
  cases y with
  |aB v r p i k=>
   cases hc:gp s (.aB r p i k) with
   |none=>exact done (.dead v) rfl (AK v) (by simp only[aY,C.er,gD,hc])
   |some cs=>
    cases cs with
    |nil=>exact done (.dead v) rfl (AK v) (by simp only[aY,C.er,gD,hc])
    |cons a cs=>obtain⟨x,x1,x2,x3⟩:=R8 (lI s) (R7 h hb hG) h hb hG hy hc (by simp) (a::cs).length (by simp);refine done x x2 x3 ?_;rw[x1,uY];simp only[aY,C.er,gD,hc]
  |_=>exact jm rfl
def aeu(h:Inv w zl zb G s)(hb:∀b k,zb b k->bG b k)(hG:∀t b k,(G t).fp b k->bG b k){y:C}(hy:ez w zl zb G y):∃x:C,x.er=res s y.er/\x.val=y.val/\fS w zl bG x:=by
 have jm:res s y.er=lH s y.er->∃x:C,x.er=res s y.er/\x.val=y.val/\fS w zl bG x:=λe=>by obtain⟨x,x1,x2,x3,_⟩:=Fs h hb hG hy;exact⟨x,by rw[x1,e],x2,x3⟩
 cases y with
 |agg n f=>
  obtain⟨l',l1,l2,l3⟩:=KQ h hb hG ((List.range n).map f) λx hx=>by
   obtain⟨j,hj,rfl⟩:=aU.1 hx;have hj':j<n:=by simpa using hj
   exact⟨Ni hy hj',(hy.ok.1 j hj').1⟩
  refine⟨gI l',?_,?_,⟨⟨λj hj=>⟨(l3 _ (cS hj _)).2.1,(l3 _ (cS hj _)).1.ok⟩,λj hj b k hf=>((l3 _ (cS hj _)).1.cW b k hf).elim⟩,λj hj=>(l3 _ (cS hj _)).1.bare,λb k hf=>?_⟩⟩;·rw[vl,l1,cK];rfl
  ·rw[yI,l2,cK];rfl
  ·obtain⟨x,hx,hf⟩:=(qR _ _ _).1 hf;exact(l3 x hx).1.cW b k hf
 |fn g n f=>
  obtain⟨l',l1,l2,l3⟩:=KP h hb hG ((List.range n).map f) λx hx=>by
   obtain⟨j,hj,rfl⟩:=aU.1 hx;have hj':j<n:=by simpa using hj
   exact⟨(hy.ok j hj').1,hy.rf j hj',(hy.ok j hj').2⟩
  refine⟨.fn g l'.length λj=>l'.getD j (.dead undef),?_,?_,⟨λj hj=>⟨(l3 _ (cS hj _)).ok,(l3 _ (cS hj _)).cW⟩,λj hj=>(l3 _ (cS hj _)).bare,λb k hf=>hf⟩⟩;·show X.fn _ _=_;rw[mj l' _ C.er,l1,cK];rfl
  ·show Value.func _ _ _=_;rw[mj l' _ C.val,l2,cK];rfl
 |_=>exact jm rfl
def aet(h:Inv w zl zb G s)(hb:∀b k,zb b k->bG b k)(hG:∀t b k,(G t).fp b k->bG b k){y:C}(hy:ez w zl zb G y)(n:Nat)(hn:0<n):∃x:C,x.er=wV n s y.er/\x.val=y.val/\fS w zl bG x:=by
 cases hc:gp s y.er with
 |none=>exact⟨.dead y.val,by simp only[wV,hc,C.er],rfl,AK _⟩
 |some cs=>
  cases cs with
  |nil=>exact⟨.dead y.val,by simp only[wV,hc,C.er],rfl,AK _⟩
  |cons a cs=>obtain⟨x,x1,x2,x3⟩:=R9 h hb hG hy hc (by simp) n hn;exact⟨x,by rw[x1];simp only[wV,hc],x2,x3⟩
end
section
variable {P:Program}{c:Ctx}{G:Nat->C}{zl:Nat->Nat->Prop}{s:ah}{a:Act}{w:World}{o:Oper}{K:ah->Prop}
def gM:List Operand->List (AV×PM)->Bool
 |[],[]=>true
 |x'::l',(x,m)::l=>aI x' x && (match m with|.jS n=>decide (0<n)|.mut _=>(dS l).isNone|_=>true) && gM l' l
 |_,_=>false
def MV(a:Act):List Operand->List (AV×PM)->List C->Prop
 |[],[],[]=>True
 |x'::l',(_,.mv)::l,m::ms=>m.val=a.eval x'/\MV a l' l ms
 |_::l',(_,.af)::l,_::ms=>MV a l' l ms
 |_::l',(_,.jS _)::l,_::ms=>MV a l' l ms
 |_::l',(_,.mut _)::l,_::ms=>MV a l' l ms
 |_,_,_=>False
def Fc:∀{l':List Operand} {l:List (AV×PM)},gM l' l=true->∀{G:Nat->C} {s:ah},St c G zl s a w->
  ∃ms G',ms.map C.er=(bW l s).1/\MV a l' l ms/\bO w zl c.zb G ms G' (bW l s).2
 |[],[],_,G,s,h=>⟨[],G,rfl,trivial,bO.nil h.inv⟩
 |x'::l',(x,pm)::l,hc,G,s,h=>by
  simp only[gM,aq] at hc;have other:(bW ((x,pm)::l) s=(.dead::(bW l s).1,(bW l s).2))->(∀m ms,MV a l' l ms->MV a (x'::l') ((x,pm)::l) (m::ms))->∃ms G',ms.map C.er=(bW ((x,pm)::l) s).1/\MV a (x'::l') ((x,pm)::l) ms/\bO w zl c.zb G ms G' (bW ((x,pm)::l) s).2:=λe hm=>by obtain⟨ms,G',g1,g2,g3⟩:=Fc hc.2 h;rw[e];exact⟨.dead undef::ms,G',by simp[C.er,g1],hm _ _ g2,bO.cons (fF.self h.inv trivial trivial λ_ _ h=>h) g3⟩
  cases pm with
  |mv=>obtain⟨p,p1,p2,p3⟩:=cx h hc.1.1;obtain⟨y,G1,f1,f2,f3,f4⟩:=qC .mv h.inv p3;obtain⟨ms,G',g1,g2,g3⟩:=Fc hc.2 (h.x9 f4);rw[p1] at f1 g1 g3 f4;exact⟨y::ms,G',by simp[bW,f1,g1],⟨by rw[f2,p2],g2⟩,bO.cons f4 g3⟩
  |af=>exact other rfl λ_ _ h=>h
  |jS n=>exact other rfl λ_ _ h=>h
  | «mut» n=>exact other rfl λ_ _ h=>h
 |[],_::_,hc,_,_,_=>by cases hc
 |_::_,[],hc,_,_,_=>by cases hc
def C6{G2:Nat->C}{s2:ah}{bG:Nat->Nat->Prop}(h:St c G2 zl s2 a w)(hb:∀b k,c.zb b k->bG b k)(hG:∀t b k,(G2 t).fp b k->bG b k){y:C}(hy:y.ok w (Zf zl bG))(Et:y.bare):∀{l':List Operand} {l:List (AV×PM)},gM l' l=true->∀{ms:List C},MV a l' l ms->
  (∀x∈ms,x.ok w (Zf zl bG)/\x.bare/\∀b k,x.fp b k->¬y.fp b k)->(ms.Pairwise λa b=>∀x k,a.fp x k->¬b.fp x k)->(∀(i:Nat) (x:AV) (n:Nat) (x':Operand),l[i]?=some (x,PM.mut n)->l'[i]?=some x'->y.val=a.eval x')->
  ∃cs:List C,cs.map C.er=gm s2 y.er l (ms.map C.er)/\cs.map C.val=l'.map a.eval/\(∀x∈cs,x.ok w (Zf zl bG)/\x.bare/\∀b k,x.fp b k->(∃m∈ms,m.fp b k)\/((dS l).isSome=true/\y.fp b k))/\cs.Pairwise λa b=>∀x k,a.fp x k->¬b.fp x k
 |[],[],_,[],_,_,_,_=>⟨[],rfl,rfl,λ_ hx=>(by cases hx),List.Pairwise.nil⟩
 |x'::l',(x,pm)::l,hc,[],hm,_,_,_=>by cases pm<;>exact hm.elim
 |x'::l',(x,pm)::l,hc,m::ms,hm,JB,jh,og=>by
  simp only[gM,aq] at hc;have vX:=eM.1 jh;have ih:=λ(hm:MV a l' l ms)=>C6 h hb hG hy Et hc.2 hm (λx hx=>JB x (cz _ hx)) vX.2 (λi x n x' h1 h2=>og (i+1) x n x' (by simpa using h1) (by simpa using h2))
  have QZ:∀z:C,z.val=a.eval x'->fS w zl bG z->MV a l' l ms->gm s2 y.er ((x,pm)::l) ((m::ms).map C.er)=z.er::gm s2 y.er l (ms.map C.er)->((dS l).isSome=true->(dS ((x,pm)::l)).isSome=true)->∃cs:List C,cs.map C.er=gm s2 y.er ((x,pm)::l) ((m::ms).map C.er)/\cs.map C.val=(x'::l').map a.eval/\
    (∀z∈cs,z.ok w (Zf zl bG)/\z.bare/\∀b k,z.fp b k->(∃m'∈m::ms,m'.fp b k)\/((dS ((x,pm)::l)).isSome=true/\y.fp b k))/\cs.Pairwise λa b=>∀x k,a.fp x k->¬b.fp x k:=λz z1 z2 hm' he hmo=>by
   obtain⟨cs,c1,c2,c3,c4⟩:=ih hm';refine⟨z::cs,by rw[he,aY,c1],by simp[z1,c2],λu hu=>?_,eM.2 ⟨λu _ b k hf=>(z2.cW b k hf).elim,c4⟩⟩;rcases cu.1 hu with rfl|hu;·exact⟨z2.ok,z2.bare,λb k hf=>(z2.cW b k hf).elim⟩
   ·obtain⟨u1,u2,u3⟩:=c3 u hu;exact⟨u1,u2,λb k hf=>(u3 b k hf).imp (λ⟨m',hm',hf⟩=>⟨m',cz _ hm',hf⟩) λhh=>⟨hmo hh.1,hh.2⟩⟩
  obtain⟨p,p1,p2,p3⟩:=cx h hc.1.1;cases pm with
  |af=>obtain⟨z,z1,z2,z3⟩:=aeu h.inv hb hG p3;rw[p1] at z1;exact QZ z (by rw[z2,p2]) z3 hm (by simp only[aY,gm,z1]) λhh=>hh
  |jS n=>obtain⟨z,z1,z2,z3⟩:=aet h.inv hb hG p3 n (by simpa using hc.1.2);rw[p1] at z1;exact QZ z (by rw[z2,p2]) z3 hm (by simp only[aY,gm,z1]) λhh=>hh
  |mv=>
   obtain⟨hv,hm⟩:=hm;obtain⟨cs,c1,c2,c3,c4⟩:=ih hm;obtain⟨m1,m2,m3⟩:=JB m (bE ..);refine⟨m::cs,by simp only[aY,gm,c1],by simp[hv,c2],λu hu=>?_,eM.2 ⟨λu hu b k hf hf'=>?_,c4⟩⟩
   ·rcases cu.1 hu with rfl|hu;·exact⟨m1,m2,λb k hf=>.inl ⟨u,bE ..,hf⟩⟩
    ·obtain⟨u1,u2,u3⟩:=c3 u hu;exact⟨u1,u2,λb k hf=>(u3 b k hf).imp (λ⟨m',hm',hf⟩=>⟨m',cz _ hm',hf⟩) id⟩
   ·rcases(c3 u hu).2.2 b k hf' with ⟨m',hm',ij⟩|⟨_,ij⟩;·exact vX.1 m' hm' b k hf ij
    ·exact m3 b k hf ij
  | «mut» n=>
   obtain⟨cs,c1,c2,c3,c4⟩:=ih hm;have hno:dS l=none:=by simpa using hc.1.2
   have hv:=og 0 x n x' rfl rfl;refine⟨y::cs,by simp only[aY,gm,c1],by simp[hv,c2],λu hu=>?_,eM.2 ⟨λu hu b k hf hf'=>?_,c4⟩⟩
   ·rcases cu.1 hu with rfl|hu;·exact⟨hy,Et,λb k hf=>.inr ⟨rfl,hf⟩⟩
    ·obtain⟨u1,u2,u3⟩:=c3 u hu;refine⟨u1,u2,λb k hf=>(u3 b k hf).imp (λ⟨m',hm',hf⟩=>⟨m',cz _ hm',hf⟩) λhh=>⟨rfl,hh.2⟩⟩
   ·rcases(c3 u hu).2.2 b k hf' with ⟨m',hm',ij⟩|⟨hh,_⟩;·exact(JB m' (cz _ hm')).2.2 b k ij hf
    ·rw[hno] at hh;cases hh
 |[],_::_,hc,_,_,_,_,_=>by cases hc
 |_::_,[],hc,_,_,_,_,_=>by cases hc
 |[],[],_,_::_,hm,_,_,_=>hm.elim
def WX{G2:Nat->C}{s2:ah}{bG:Nat->Nat->Prop}(h:St c G2 zl s2 a w)(hb:∀b k,c.zb b k->bG b k)(hG:∀t b k,(G2 t).fp b k->bG b k){x:AV}{x':Operand}(hx:aI x' x=true){f:FuncId}{cs:List X}(he:au s2 x=.fn f cs):
  ∃l:List C,l.map C.er=nW s2 (some x)/\a.eval x'=.func (.func f) #[] (l.map C.val).toArray/\∀x∈l,fS w zl bG x:=by
 obtain⟨p,p1,p2,p3⟩:=cx h hx;rw[he] at p1;cases p with
 |fn g n fc=>
  simp only[C.er,X.fn.injEq] at p1;obtain⟨rfl,p1⟩:=p1
  obtain⟨l',l1,l2,l3⟩:=KP h.inv hb hG ((List.range n).map fc) λx hx=>by
   obtain⟨j,hj,rfl⟩:=aU.1 hx;have hj':j<n:=by simpa using hj
   exact⟨(p3.ok j hj').1,p3.rf j hj',(p3.ok j hj').2⟩
  refine⟨l',?_,?_,l3⟩;·rw[l1,nW,he,<-p1,cK];rfl
  ·rw[<-p2,l2,cK];rfl
 |_=>simp[C.er] at p1
end
end M
namespace M
open Go Go.RowKit
variable [Bs]
def jU{l:List X}:X.clean.cD l=true↔∀x∈l,x.clean=true:=by
 induction l with
 |nil=>simp[X.clean.cD]
 |cons a l ih=>simp[X.clean.cD,ih]
def Om{l:List (List X)}:X.clean.bh l=true↔∀x∈l,∀y∈x,y.clean=true:=by
 induction l with
 |nil=>simp[X.clean.bh]
 |cons a l ih=>simp[X.clean.bh,ih,jU]
namespace C
def en:C->C
 |.row _ sz A len cap e=>.row .sl sz A len cap λi j=>(e i j).en
 |.ptr _ g o n c=>.ptr .sl g o n λj=>(c j).en
 |.agg n c=>.agg n λj=>(c j).en
 |.ak n c=>.ak n λj=>(c j).en
 |.fn f n c=>.fn f n λj=>(c j).en
 |.ref v _ _=>.dead v
 |.aB v _ _ _ _=>.dead v
 |.cut v _ _ _ _=>.dead v
 |.dead v=>.dead v
 |.int k n=>.int k n
 |.bool b=>.bool b
 |.str s=>.str s
def wF:∀c:C,c.en.er=c.er.md .sl
 |.row m sz A len cap e=>by simp only[en,er,X.md];rw[X.E9 .sl (λ_=>List.range sz) (λi j=>(e i j).er)];congr 1;exact cw λi _=>cw λj _=>wF (e i j)
 |.ptr m g o n c=>by simp only[en,er,X.md,X.ny];congr 1;exact cw λj _=>wF (c j)
 |.agg n c=>by simp only[en,er,X.md,X.ny];congr 1;exact cw λj _=>wF (c j)
 |.ak n c=>by simp only[en,er,X.md,X.ny];congr 1;exact cw λj _=>wF (c j)
 |.fn f n c=>by simp only[en,er,X.md,X.ny];congr 1;exact cw λj _=>wF (c j)
 |.ref _ _ _=>by simp only[en,er,X.md]
 |.aB _ _ _ _ _=>by simp only[en,er,X.md]
 |.cut _ _ _ _ _=>by simp only[en,er,X.md]
 |.dead _=>by simp only[en,er,X.md]
 |.int _ _=>by simp only[en,er,X.md]
 |.bool _=>by simp only[en,er,X.md]
 |.str _=>by simp only[en,er,X.md]
def wH:∀c:C,c.en.val=c.val
 |.row m sz A len cap e=>rfl
 |.ptr m g o n c=>rfl
 |.agg n c=>by simp only[en,val];congr 2;exact cw λj _=>wH (c j)
 |.ak n c=>by simp only[en,val];congr 2;exact cw λj _=>wH (c j)
 |.fn f n c=>by simp only[en,val];congr 2;exact cw λj _=>wH (c j)
 |.ref _ _ _=>rfl
 |.aB _ _ _ _ _=>rfl
 |.cut _ _ _ _ _=>rfl
 |.dead _=>rfl
 |.int _ _=>rfl
 |.bool _=>rfl
 |.str _=>rfl
def rX:∀(c:C) (b k:Nat),¬c.en.fp b k
 |.row m sz A len cap e,b,k=>λh=>by cases h.1
 |.ptr m g o n c,b,k=>λh=>by cases h.1
 |.agg n c,b,k=>λ⟨j,_,hf⟩=>rX (c j) b k hf
 |.ak n c,b,k=>λ⟨j,_,hf⟩=>rX (c j) b k hf
 |.fn f n c,b,k=>λh=>h
 |.ref _ _ _,b,k=>λh=>h
 |.aB _ _ _ _ _,b,k=>λh=>h
 |.cut _ _ _ _ _,b,k=>λh=>h
 |.dead _,b,k=>λh=>h
 |.int _ _,b,k=>λh=>h
 |.bool _,b,k=>λh=>h
 |.str _,b,k=>λh=>h
def Kq{c:C}(h:c.cell):c.en.cell:=by cases c<;>first|exact h|exact h.elim|trivial
def acE{c:C}(h:c.fY):c.en.fY:=by cases c<;>first|exact h|exact h.elim|trivial
def acG{c:C}(h:c.cQ):c.en.cQ:=by cases c<;>first|exact h|exact h.elim|trivial
def Rl(c:C):c.en.fits .sl:=by cases c<;>first|trivial|exact .inr (.inl rfl)
def acF{c:C}(h:c.plain):c.en.plain:=by cases c<;>first|exact h|exact h.elim|trivial
variable {w:World}{zl aD zb:Nat->Nat->Prop}
def wG(hz:∀b k,zl b k->aD b k):∀c:C,c.er.clean=true->(∀b k,c.fp b k->aD b k)->c.ok w (Zf zl zb)->c.en.ok w (Zf aD zb)
 |.row m sz A len cap e,hcl,hf,h=>by
  obtain⟨h1,h2,h3,h4,h5⟩:=h;simp only[er,X.clean,aq] at hcl;refine⟨h1,λi j hi hj=>?_,λi j hi hj=>?_,λhm=>by (cases hm),λi j hi hj b k hh=>(rX _ b k hh).elim⟩
  ·obtain⟨g,o,hA,hc,tP⟩:=h2 i j hi hj;refine⟨g,o,hA,by rw[wH];exact hc,λ_=>?_⟩;cases m with
   |own=>exact hf _ _ ⟨rfl,.inl ⟨o,hA⟩⟩
   |sl=>exact hz _ _ (tP (by simp))
   |af=>simp at hcl
  ·obtain⟨a1,a2,a3,a4⟩:=h3 i j hi hj;exact⟨Kq a1,acG a2,Rl _,wG hz (e i j) (Om.1 hcl.2 _ (aU.2 ⟨i,by simpa using hi,rfl⟩) _ (aU.2 ⟨j,by simpa using hj,rfl⟩)) (λb k hk=>hf b k (j8 a1 a3 hi hj hk)) a4⟩
 |.ptr m g o n c,hcl,hf,h=>by
  obtain⟨h1,h2,h3,h4⟩:=h;simp only[er,X.clean,aq] at hcl;refine⟨λj hj=>?_,h2,λj hj=>?_,λj hj b k hh=>(rX _ b k hh).elim⟩
  ·obtain⟨a1,a2,a3⟩:=h1 j hj;refine⟨by rw[wH];exact a1,λ_=>?_,λhm=>by (cases hm)⟩;cases m with
   |own=>exact hf _ _ ⟨rfl,.inl ⟨rfl,by omega,by omega⟩⟩
   |sl=>exact hz _ _ (a2 (by simp))
   |af=>simp at hcl
  ·obtain⟨a1,a2,a3⟩:=h3 j hj;exact⟨Kq a1,Rl _,wG hz (c j) (jU.1 hcl.2 _ (aU.2 ⟨j,by simpa using hj,rfl⟩)) (λb k hk=>hf b k (kI a1 a2 hj hk)) a3⟩
 |.agg n c,hcl,hf,h=>by simp only[er,X.clean] at hcl;exact⟨λj hj=>⟨Kq (h.1 j hj).1,wG hz (c j) (jU.1 hcl _ (aU.2 ⟨j,by simpa using hj,rfl⟩)) (λb k hk=>hf b k ⟨j,hj,hk⟩) (h.1 j hj).2⟩,λj hj b k hh=>(rX _ b k hh).elim⟩
 |.ak n c,hcl,hf,h=>by simp only[er,X.clean] at hcl;exact⟨λj hj=>⟨acE (h.1 j hj).1,wG hz (c j) (jU.1 hcl _ (aU.2 ⟨j,by simpa using hj,rfl⟩)) (λb k hk=>hf b k ⟨j,hj,hk⟩) (h.1 j hj).2⟩,λj hj b k hh=>(rX _ b k hh).elim⟩
 |.fn f n c,hcl,hf,h=>by simp only[er,X.clean] at hcl;exact λj hj=>⟨wG hz (c j) (jU.1 hcl _ (aU.2 ⟨j,by simpa using hj,rfl⟩)) (λb k hk=>((h j hj).2 b k hk).elim) (h j hj).1,λb k hh=>rX _ b k hh⟩
 |.ref _ _ _,_,_,_=>trivial
 |.aB _ _ _ _ _,_,_,_=>trivial
 |.cut _ _ _ _ _,_,_,_=>trivial
 |.dead _,_,_,_=>trivial
 |.int _ _,_,_,_=>trivial
 |.bool _,_,_,_=>trivial
 |.str _,_,_,h=>h
end C
variable {w:World}{zl zb:Nat->Nat->Prop}{G:Nat->C}{s:ah}
def Inv.more{aD:Nat->Nat->Prop}(h:Inv w zl zb G s)(h1:∀b k,zl b k->aD b k)(h2:∀b k,aD b k->(zl b k\/∀t,¬(G t).fp b k)/\b<w.heap.size):Inv w aD zb G s where
 er:=h.er
 ok:=λt=>C.gC (λm b k hz=>by
  cases m with
  |own=>exact hz
  |sl=>exact h1 b k hz
  |af=>exact hz.imp (h1 b k) id) _ (h.ok t)
 sep:=h.sep
 fz:=λt b k hf=>⟨λhz=>by
  rcases(h2 b k hz).1 with hh|hh;·exact(h.fz t b k hf).1 hh
  ·exact hh t hf,(h.fz t b k hf).2⟩
 rf:=h.rf
 cC:=λb k hz=>hz.elim (λhz=>(h2 b k hz).2) λhz=>h.cC b k (.inr hz)
section
variable {P:Program}{c:Ctx}{a:Act}{o:Oper}{K:ah->Prop}
def St.more{aD:Nat->Nat->Prop}(h:St c G zl s a w)(h1:∀b k,zl b k->aD b k)(h2:∀b k,aD b k->(zl b k\/∀t,¬(G t).fp b k)/\b<w.heap.size)(h3:∀b k,aD b k->zl b k\/c.F0 b k\/c.w0.heap.size<=b):St c G aD s a w where
 inv:=h.inv.more h1 h2
 val:=h.val
 size:=h.size
 small:=h.small
 defers:=h.defers
 tr:=⟨h.tr.ext,h.tr.dom,λb k hz=>h1 b k (h.tr.oZ b k hz),λb k hz=>(h3 b k hz).elim (h.tr.zl b k) .inr,h.tr.gl,h.tr.zz⟩
 args:=h.args
def RX{d:Nat}{v:Value}(hd:a.tmps.getD d undef=v)(hn:d<a.tmps.size):a.put (some d) v=a:=by
 unfold Act.put;simp only;congr 1;apply HD;intro i;by_cases e:d=i;·subst e;rw[Tw hn,<-hd,va,CQ hn];rfl
 ·rw[M8 e]
def PD{d:Nat}{s':ah}(h:St c G zl s a w)(hn:d<c.nt)(cs:List C)(hcs:∀x∈cs,yH w zl c.zb G x)(k:List C->C)(kx:List X->X)(hk:∀l:List C,l.length=cs.length->(k l).er=kx (l.map C.er))
  (hkv:∀l:List C,l.map C.val=cs.map C.val->(k l).val=a.tmps.getD d undef)(Eh:∀{aD:Nat->Nat->Prop},∀l:List C,l.length=cs.length->(∀x∈l,x.plain/\x.ok w (Zf aD c.zb)/\∀b k,¬x.fp b k)->(k l).ok w (Zf aD c.zb)/\(∀b q,¬(k l).fp b q)/\∀G,(k l).rf G)
  (hg:pI d (cs.map C.er) kx s=some s'):∃G' aD,St c G' aD s' a w:=by
 obtain⟨l,G1,e1,e2,e3,e4,e5⟩:=Cp cs G s h.inv hcs;unfold pI at hg;rw[<-e1] at hg;cases hcl:X.clean.cD (l.map C.er) with
 |false=>rw[hcl] at hg;cases hg
 |true=>
  rw[hcl,lN] at hg;have hlen:l.length=cs.length:=by have:=dm List.length e2;simpa using this
  let aD:Nat->Nat->Prop:=λb k=>zl b k\/∃y∈l,y.fp b k;have h1:St c G1 zl (bY (cs.map C.er) s).2 a w:=h.move e4.inv e4.val (Ext.refl (λ_ _=>False) w) (λ_ _ hs=>hs.elim) (λt b k hf=>.inl ⟨t,e4.mono t b k hf⟩)
  have h2:St c G1 aD (bY (cs.map C.er) s).2 a w:=h1.more (λb k hz=>.inl hz) (λb k hz=>by
   rcases hz with hz|⟨y,hy,hf⟩;·exact⟨.inl hz,h1.inv.cC b k (.inl hz)⟩
   ·exact⟨.inr λt=>(e4.all y hy).2.1 t b k hf,C.fG _ (e4.all y hy).1 b k hf⟩) (λb k hz=>by
   rcases hz with hz|⟨y,hy,hf⟩;·exact .inl hz
   ·obtain⟨t,ht⟩:=(e4.all y hy).2.2.2 b k hf;exact .inr (h.tr.dom t b k ht))
  let m:=l.map C.en;have hml:m.length=cs.length:=by simp[m,hlen]
  have abb:m.map C.er=X.ef .sl (l.map C.er):=by rw[X.ny];simp only[m,cK];exact cw λx _=>C.wF x
  have Qp:m.map C.val=cs.map C.val:=by rw[<-e2];simp only[m,cK];exact cw λx _=>C.wH x
  have hmem:∀x∈m,x.plain/\x.ok w (Zf aD c.zb)/\∀b k,¬x.fp b k:=λx hx=>by obtain⟨y,hy,rfl⟩:=aU.1 hx;exact⟨C.acF (e3 y hy),C.wG (λb k hz=>.inl hz) y (jU.1 hcl _ (kj hy)) (λb k hf=>.inr ⟨y,hy,hf⟩) (e4.all y hy).1,C.rX y⟩
  rw[<-abb] at hg;cases hb:ju (cs.map C.er) (m.map C.er) (bY (cs.map C.er) s).2 with
  |none=>rw[hb] at hg;cases hg
  |some s3=>
   rw[hb] at hg;simp only[cv,dF] at hg;subst hg;obtain⟨G2,g1,g2,g3⟩:=C9 cs m h2.inv hml (λv r p hm=>e5 v r p ((hcs _ hm).weak v r p rfl)) (λi x y hx hy=>by have hy':=hmem y (lM hy);refine⟨hy'.1,?_,hy'.2.1⟩;have:=dm (λt:List Value=>t[i]?) Qp;simpa [cY,hx,hy] using this) (λy hy=>⟨λt b k hf=>((hmem y hy).2.2 b k hf).elim,λb k hf=>((hmem y hy).2.2 b k hf).elim⟩) (qS λx hx=>(hmem x hx).2.2) hb
   have h3:St c G2 aD s3 a w:=h2.move g1 g2 (Ext.refl (λ_ _=>False) w) (λ_ _ hs=>hs.elim) (λt b k hf=>by
    rcases g3 t b k hf with hh|⟨y,hy,hh⟩;·exact .inl ⟨t,hh⟩
    ·exact((hmem y hy).2.2 b k hh).elim)
   obtain⟨o1,o2,o3⟩:=Eh m hml hmem;obtain⟨G3,h4⟩:=h3.put hn o1 (λt _ b k hf=>(o2 b k hf).elim) (λb k hf=>(o2 b k hf).elim) (o3 G2) (λb k hf=>(o2 b k hf).elim);rw[hk m hml,RX (hkv m Qp).symm (by rw[h.size];exact hn)] at h4;exact⟨G3,aD,h4⟩
def aaj{fz:Bool}{d:Nat}{s':ah}(h:St c G zl s a w)(hn:d<c.nt)(hg:ghost fz d s=some s'):∃G' aD,St c G' aD s' a w:=by
 obtain⟨e1,e2,e3⟩:=RF h d;have hd:d<base:=jJ hn h.small;have hval:a.tmps.getD d undef=(G d).val:=(h.val d hd).symm;unfold ghost at hg;cases fz with
 |false=>
  obtain⟨y,G1,f1,f2,f3,f4⟩:=qC .mv h.inv e3;rw[e1] at f1 f4;have oq:y.val=a.tmps.getD d undef:=by rw[f2,e2,hval]
  simp only[qK,dF] at hg;subst hg;obtain⟨G2,h2⟩:=h.Mc f4 hn;rw[f1,RX oq.symm (by rw[h.size];exact hn)] at h2;exact⟨G2,zl,h2⟩
 |true=>
  simp only[lN] at hg;rw[<-e1] at hg;cases hx:(G d).alias d [] with
  |agg n f=>
   rw[hx] at hg e2 e3;have er:(C.agg n f).er=.agg (((List.range n).map f).map C.er):=by simp only[C.er,cK];rfl
   rw[er] at hg;have hlen:((List.range n).map f).length=n:=by simp
   refine PD h hn ((List.range n).map f) (λx hx=>?_) gI .agg (λl _=>vl l) (λl hl=>?_) (λl hl hm=>⟨⟨λj hj=>⟨C.lF (hm _ (cS hj _)).1,(hm _ (cS hj _)).2.1⟩,λj hj b q hf=>((hm _ (cS hj _)).2.2 b q hf).elim⟩,λb q hf=>?_,λG j hj=>C.oB (hm _ (cS hj _)).1 G⟩) hg
   ·obtain⟨j,hj,rfl⟩:=aU.1 hx;have hj':j<n:=by simpa using hj
    exact⟨(e3.ok.1 j hj').1,(e3.ok.1 j hj').2,λb k hf=>e3.cW b k ⟨j,hj',hf⟩,λv r p e=>Cu (by rw[<-e];exact e3.rf j hj')⟩
   ·rw[yI,hl,hval,<-e2];simp only[C.val,cK];rfl
   ·obtain⟨x,hx,hf⟩:=(qR _ _ _).1 hf;exact(hm x hx).2.2 b q hf
  |ref v r p=>
   rw[hx] at hg e2 e3;refine PD h hn [.ref v r p] (λx hx=>?_) (λl=>l.headD (.dead undef)) (λl=>l.headD .dead) (λl hl=>?_) (λl hl=>?_) (λl hl hm=>?_) hg;·obtain rfl:=fA.1 hx;exact⟨KU e3.rf,trivial,λb k hf=>hf,λv' r' p' e=>by cases e;exact Cu e3.rf⟩
   ·cases l with
    |nil=>simp at hl
    |cons x l=>rfl
   ·cases l with
    |nil=>simp at hl
    |cons x l=>
     have:x.val=v:=by have:=dm List.head? hl;simpa [C.val] using this
     show x.val=_;rw[this,hval,<-e2];rfl
   ·cases l with
    |nil=>simp at hl
    |cons x l=>obtain⟨a1,a2,a3⟩:=hm x (bE ..);exact⟨a2,a3,λG=>C.oB a1 G⟩
  |_=>rw[hx] at hg;simp only[C.er,dF] at hg;subst hg;exact⟨G,zl,h⟩
def adQ(h:St c G zl s a w){d sz:Nat}{fz agg:Bool}{ty:TypeId}{x:AV}{x':Operand}(ho:o.op=.load ty x')(hsz:∃i,P.info? ty=some i/\i.size=sz)(mY:∃dd,P.underlying ty=some dd/\(match dd with|.struct _=>true|.array _ _=>true|_=>false)=agg)
  (h1:agg=true\/sz=1)(hd:o.dst=some d)(hn:d<c.nt)(hx:aI x' x=true)
  (hK:aL P (.p8 d fz sz agg x) s K):dK P c o a w K:=by obtain⟨cs,k1,k2,s',k3,k4⟩:=hK;obtain⟨v,hr,G1,sZ,s1,q1,q2⟩:=RD (K:=λt=>t=put d (bif agg then .agg (cs.take sz) else cs.headD .dead) s) h ho hsz mY h1 hd hn hx ⟨cs,k1,k2,rfl⟩;subst q1;obtain⟨G2,s4,h2⟩:=aaj q2 hn k3;exact⟨v,hr,G2,s4,s',k4,h2⟩
end
end M
namespace M
open Go Go.RowKit
variable [Bs]
section
variable {P:Program}{c:Ctx}{G:Nat->C}{zl:Nat->Nat->Prop}{s:ah}{a:Act}{w:World}{o:Oper}{K:ah->Prop}
def qP(P:Program)(c:Ctx)(o:Oper)(a:Act)(w:World)(K:ah->Prop)(q:Bool):Prop:=
 ∃f args,(execOp a.eval o).run P w=.ok (.enter f args) w/\Calls P f args w λe w'=>∃v,e=.returned v/\Rel q w w'/\∃G' aD s',K s'/\St c G' aD s' (a.put o.dst v) w'
def K0{f:FuncId}{fn:Func}(hf:P.funcs[f]?=some fn)(hname:(fn.name== "runtime.NumGoroutine")=false) (hb:fn.body.isNone=false) (args:Array Value) (w:World):(callFunc f args).run P w=.ok (.enter f args) w:=by simp only[callFunc,Sem.run_bind,run_program,Result.andThen_ok,hf,hname,hb,fC,ey,Sem.run_pure]
def St.result{aD:Nat->Nat->Prop}(h:St c G aD s a w){x:C}(d:Option Nat)(hn:∀n,d=some n->n<c.nt)(hok:x.ok w (Zf aD λ_ _=>False))(hb:x.bare)(hsep:∀t b k,x.fp b k->¬(G t).fp b k)(hfz:∀b k,x.fp b k->¬aD b k/\¬c.zb b k)
  (hdom:∀b k,x.fp b k->c.F0 b k\/c.w0.heap.size<=b):∃G',St c G' aD (fP d x.er s) (a.put d x.val) w:=by
 cases d with
 |none=>exact⟨G,h⟩
 |some n=>
  refine h.put (hn n rfl) (C.gC (λm b k hz=>?_) _ hok) (λt _=>hsep t) hfz (C.qV G _ hb) hdom;cases m with
  |own=>exact hz
  |sl=>exact hz
  |af=>exact hz.imp id λh=>h.elim
def St.after{aD:Nat->Nat->Prop}{w':World}{G1:Nat->C}{s1:ah}{S:Nat->Nat->Prop}(h:St c G zl s a w)(hi:Inv w' aD c.zb G1 s1)(hv:∀t,(G1 t).val=(G t).val)(hE:Ext S w w')(hS:∀b k,S b k->∃t,(G t).fp b k)
  (hd:∀t b k,(G1 t).fp b k->(∃u,(G u).fp b k)\/w.heap.size<=b)(hz1:∀b k,zl b k->aD b k)(hz2:∀b k,aD b k->zl b k\/(∃t,(G t).fp b k)\/w.heap.size<=b):St c G1 aD s1 a w' where
 inv:=hi
 val:=λt ht=>(hv t).trans (h.val t ht)
 size:=h.size
 small:=h.small
 defers:=h.defers
 tr:=⟨h.tr.ext.trans hE (λb k hs hb=>by
   obtain⟨t,ht⟩:=hS b k hs;rcases h.tr.dom t b k ht with hh|hh;·exact hh
   ·omega),λt b k hf=>by
   rcases hd t b k hf with ⟨u,hu⟩|hb;·exact h.tr.dom u b k hu
   ·exact .inr (iT h.tr.ext.size hb),λb k hz=>hz1 b k (h.tr.oZ b k hz),λb k hz=>by
   rcases hz2 b k hz with hz|⟨t,ht⟩|hb;·exact h.tr.zl b k hz
   ·exact .inr (h.tr.dom t b k ht)
   ·exact .inr (.inr (iT h.tr.ext.size hb)),h.tr.gl,h.tr.zz⟩
 args:=λi v hi=>(hv _).trans (h.args i v hi)
def St.I6(h:St c G zl s a w)(bG:Nat->Nat->Prop)(hz:∀b k,c.zb b k->bG b k):o7 w zl bG:=λb hb=>by
 obtain⟨h1,h2⟩:=h.tr.gl b hb;refine⟨?_,λk=>(h2 k).imp (h.tr.oZ b k) (hz b k)⟩;rw[<-h1]
 have hlt:b<c.w0.heap.size:=by
  rcases gW b c.w0.heap.size with h|h;·exact h
  ·rw[lP h] at h1;have:=Array.getElem?_eq_none_iff.1 h1.symm;omega
 rcases h.tr.ext.block b hlt with e|⟨arr,fT,t,fz,e1,e2,e3,e4⟩;·exact e
 ·have:fT=arr:=by apply HD;intro i;exact e4 i (h.tr.zz b i hb)
  rw[e1,e2,this]
def G7{G1:Nat->C}{s1:ah}{l:List C}(h:St c G zl s a w)(hT:bO w zl c.zb G l G1 s1):St c G1 zl s1 a w:=
 h.move hT.inv hT.val (Ext.refl (λ_ _=>False) w) (λ_ _ hs=>hs.elim) (λt b k hf=>.inl ⟨t,hT.mono t b k hf⟩)
structure s5 (P:Program) (c:Ctx) (zl:Nat->Nat->Prop) (o:Oper) (a:Act) (w:World) (l':List Operand) (f:FuncId) (fv:Option AV):Prop where
 run:∃pg:List Value,(execOp a.eval o).run P w=.ok (.enter f ((l'.map a.eval)++pg).toArray) w/\
  ∀{G2:Nat->C} {s2:ah} {bG:Nat->Nat->Prop},St c G2 zl s2 a w->(∀b k,c.zb b k->bG b k)->(∀t b k,(G2 t).fp b k->bG b k)->qY s2 fv f->∃l:List C,l.map C.er=nW s2 fv/\l.map C.val=pg/\∀x∈l,fS w zl bG x
def jo:List (AV×PM)->Bool
 |[]=>true
 |(_,.af)::l=>jo l
 |(_,.jS _)::l=>jo l
 |_::_=>false
def Ks:∀{l:List (AV×PM)} (s:ah),jo l=true->∀x∈(bW l s).1,x=.dead
 |[],s,_,x,hx=>by cases hx
 |(_,.af)::l,s,h,x,hx=>(cu.1 hx).elim id (Ks (l:=l) s h x)
 |(_,.jS _)::l,s,h,x,hx=>(cu.1 hx).elim id (Ks (l:=l) s h x)
 |(_,.mv)::l,s,h,x,hx=>by cases h
 |(_,.mut _)::l,s,h,x,hx=>by cases h
def wM:∀{l:List (AV×PM)},jo l=true->dS l=none
 |[],_=>rfl
 |(_,.af)::l,h=>wM (l:=l) h
 |(_,.jS _)::l,h=>wM (l:=l) h
 |(_,.mv)::l,h=>by cases h
 |(_,.mut _)::l,h=>by cases h
def Oc(q:Bool)(h:St c G zl s a w){l':List Operand}{as:List (AV×PM)}(hc:gM l' as=true)(hno:dS as=none){f:FuncId}{fv:Option AV}(hop:s5 P c zl o a w l' f fv)(hq:q=true->jo as=true)(hn:∀n,o.dst=some n->n<c.nt)(hK:tu P f o.dst as fv s K):qP P c o a w K q:=by
 obtain⟨k1,k2⟩:=hK;rw[hno] at k2;obtain⟨k2,k3⟩:=k2;obtain⟨ms,G1,g1,g2,hT⟩:=Fc hc h;obtain⟨pg,hrun,zK⟩:=hop.run;have h1:=G7 h hT;rw[<-g1] at k1 k3;have jC:∀b k,c.zb b k->(c.zb b k\/∃t,(G1 t).fp b k):=λb k hz=>.inl hz;have rP:∀t b k,(G1 t).fp b k->(c.zb b k\/∃t,(G1 t).fp b k):=λt b k hf=>.inr ⟨t,hf⟩;obtain⟨l,l1,l2,l3⟩:=zK (bG:=λb k=>c.zb b k\/∃t,(G1 t).fp b k) h1 jC rP k2
 have abd:∀x∈ms,x.ok w (Zf zl λb k=>c.zb b k\/∃t,(G1 t).fp b k)/\x.bare/\∀b k,x.fp b k->¬(C.dead undef).fp b k:=λx hx=>by
  refine⟨C.gC (λm b k hz=>?_) _ (hT.all x hx).1,(C.lR x).1 (C.vp.1 k1 _ (kj hx)),λ_ _ _ h=>h⟩;cases m with
  |own=>exact hz
  |sl=>exact hz
  |af=>exact hz.imp id .inl
 obtain⟨cs,c1,c2,c3,c4⟩:=C6 (bG:=λb k=>c.zb b k\/∃t,(G1 t).fp b k) h1 jC rP (y:=.dead undef) trivial trivial hc g2 abd hT.apart (λi x n x' hi _=>by
  exfalso
  have:∀{l:List (AV×PM)} {i:Nat},l[i]?=some (x,PM.mut n)->dS l≠none:=by
   intro l;induction l with
   |nil=>intro i hi;simp at hi
   |cons p l ih=>
    intro i hi;obtain⟨y,pm⟩:=p;cases i with
    |zero=>simp only[yz,dF,jL] at hi;obtain⟨_,rfl⟩:=hi;simp[dS]
    |succ i=>have:=ih (by simpa using hi);cases pm<;>simp[dS]<;>first|exact this|skip
  exact this hi hno)
 have cj:∀x∈cs++l,∀b k,x.fp b k->∃m∈ms,m.fp b k:=λx hx b k hf=>by
  rcases dX.1 hx with hx|hx
  ·rcases(c3 x hx).2.2 b k hf with hh|hh;·exact hh
   ·exact hh.2.elim
  ·exact((l3 x hx).cW b k hf).elim
 have hA:mN w zl (λb k=>c.zb b k\/∃t,(G1 t).fp b k) (cs++l):={
  ok:=λx hx=>(dX.1 hx).elim (λhx=>(c3 x hx).1) λhx=>(l3 x hx).ok
  bare:=λx hx=>(dX.1 hx).elim (λhx=>(c3 x hx).2.1) λhx=>(l3 x hx).bare
  fz:=λx hx b k hf=>by obtain⟨m,hm,hf⟩:=cj x hx b k hf;exact⟨((hT.all m hm).2.2.1 b k hf).1,λhz=>hz.elim ((hT.all m hm).2.2.1 b k hf).2 λ⟨t,ht⟩=>(hT.all m hm).2.1 t b k hf ht⟩
  cC:=λb k hz=>by
   rcases hz with hz|hz|⟨t,ht⟩;·exact hT.inv.cC b k (.inl hz)
   ·exact hT.inv.cC b k (.inr hz)
   ·exact C.fG _ (hT.inv.ok t) b k ht
  apart:=uX.2 ⟨c4,qS λx hx=>(l3 x hx).cW,λx _ y hy b k _ hf=>(l3 y hy).cW b k hf⟩}
 have rI:=k3 w zl _ (cs++l) (by rw[iA,c1,l1];rfl) hA (h.I6 _ λb k hz=>.inl hz);have tO:(cs++l).map C.val=l'.map a.eval++pg:=by rw[iA,c2,l2]
 rw[tO] at rI;refine⟨f,_,hrun,rI.mono ?_⟩;rintro e w' ⟨r,ps,aD,hD,hk⟩;have hin:∀b k,aD b k->b<w'.heap.size:=λb k hz=>hD.all.cC b k (.inl hz);have kG:∀b k,(∃m∈ms,m.fp b k)->(∀t,¬(G1 t).fp b k)/\¬zl b k/\¬c.zb b k:=λb k ⟨m,hm,hf⟩=>⟨λt=>(hT.all m hm).2.1 t b k hf,(hT.all m hm).2.2.1 b k hf⟩;have k9:∀b k,(∃x∈cs++l,x.fp b k)->∃m∈ms,m.fp b k:=λb k ⟨x,hx,hf⟩=>cj x hx b k hf;have Ah:∀b k,aD b k->zl b k\/(∃m∈ms,m.fp b k)\/w.heap.size<=b:=λb k hz=>(hD.s4 b k hz).imp id λhh=>hh.imp (k9 b k) id
 have hi:=hT.inv.Nx hD.ext (λb k hs=>kG b k (k9 b k hs)) hD.sZ (λb k hz=>⟨hin b k hz,λt hf=>by
  rcases Ah b k hz with hz|hm|hb;·exact(hT.inv.fz t b k hf).1 hz
  ·exact(kG b k hm).1 t hf
  ·have:=C.fG _ (hT.inv.ok t) b k hf;omega⟩)
 have kH:∀b k,(∃m∈ms,m.fp b k)->∃t,(G t).fp b k:=λb k ⟨m,hm,hf⟩=>(hT.all m hm).2.2.2 b k hf;have h2:St c G1 aD (bW as s).2 a w':=h.after hi hT.val hD.ext (λb k hs=>kH b k (k9 b k hs)) (λt b k hf=>.inl ⟨t,hT.mono t b k hf⟩) hD.sZ (λb k hz=>(Ah b k hz).imp id λhh=>hh.imp (kH b k) id);have hrd:∀b k,r.fp b k->(∃m∈ms,m.fp b k)\/w.heap.size<=b:=λb k hf=>(hD.dom r (bE ..) b k hf).imp (k9 b k) id
 obtain⟨G3,h3⟩:=h2.result (x:=r) o.dst hn (hD.all.ok r (bE ..)) (hD.all.bare r (bE ..)) (λt b k hf hf'=>by
   rcases hrd b k hf with hm|hb;·exact(kG b k hm).1 t hf'
   ·have:=C.fG _ (hT.inv.ok t) b k hf';omega) (λb k hf=>⟨(hD.all.fz r (bE ..) b k hf).1,λhz=>by
   rcases hrd b k hf with hm|hb;·exact(kG b k hm).2.2 hz
   ·have:=hT.inv.cC b k (.inr hz);omega⟩) (λb k hf=>by
   rcases hrd b k hf with hm|hb;·obtain⟨t,ht⟩:=kH b k hm;exact h.tr.dom t b k ht
   ·exact .inr (iT h.tr.ext.size hb))
 refine⟨r.val,hD.ends,λJH=>hD.ext.mono λb k hs _=>?_,G3,aD,_,hk,h3⟩;obtain⟨m,hm,hf⟩:=k9 b k hs;have hd:=Ks s (hq JH) m.er (by rw[<-g1];exact kj hm);cases m<;>first|exact hf|(simp[C.er] at hd)
end
end M
namespace M
open Go Go.RowKit
variable [Bs]
structure eN (w w':World) (zl aD zb:Nat->Nat->Prop) (G:Nat->C) (r:Nat) (p:Path) (D y q:C) (S M:Nat->Nat->Prop):Prop where
 sub:(G r).sub p=some D
 yD:∀b k,y.fp b k->D.fp b k
 ext:Ext S w w'
 rR:∀b k,S b k->M b k\/y.fp b k
 wQ:∀b k,M b k->(∀t,¬(G t).fp b k)/\¬zl b k/\¬zb b k
 Fp:q.ok w' (Zf aD zb)
 bare:q.bare
 val:q.val=y.val
 fp:∀b k,q.fp b k->S b k\/w.heap.size<=b
 qz:∀b k,q.fp b k->¬aD b k
 z1:∀b k,zl b k->aD b k
 z2:∀b k,aD b k->zl b k\/S b k\/w.heap.size<=b
 cC:∀b k,aD b k->b<w'.heap.size
section
variable {w w':World}{zl aD zb:Nat->Nat->Prop}{G:Nat->C}{s:ah}{r:Nat}{p:Path}{D y q:C}{S M:Nat->Nat->Prop}
def eN.DG(h:eN w w' zl aD zb G r p D y q S M)(hi:Inv w zl zb G s){b k:Nat}(hf:D.fp b k):(G r).fp b k:=C.gF p h.sub (hi.ok r) hf
def eN.notM(h:eN w w' zl aD zb G r p D y q S M)(hi:Inv w zl zb G s){b k:Nat}(hf:D.fp b k):¬M b k:=λhm=>(h.wQ b k hm).1 r (h.DG hi hf)
def eN.Ru(h:eN w w' zl aD zb G r p D y q S M)(hi:Inv w zl zb G s){b k:Nat}(hf:D.fp b k):¬w.heap.size<=b:=λhb=>by have:=C.fG _ (hi.ok r) b k (h.DG hi hf);omega
def eN.qD(h:eN w w' zl aD zb G r p D y q S M)(hi:Inv w zl zb G s){b k:Nat}(hq:q.fp b k)(hf:D.fp b k):y.fp b k:=by
 rcases h.fp b k hq with hs|hb;·exact(h.rR b k hs).resolve_left (h.notM hi hf)
 ·exact(h.Ru hi hf hb).elim
def eN.zD(h:eN w w' zl aD zb G r p D y q S M)(hi:Inv w zl zb G s){b k:Nat}(hz:aD b k)(hf:D.fp b k):y.fp b k:=by
 rcases h.z2 b k hz with hz|hs|hb;·exact((hi.fz r b k (h.DG hi hf)).1 hz).elim
 ·exact(h.rR b k hs).resolve_left (h.notM hi hf)
 ·exact(h.Ru hi hf hb).elim
def eN.SD(h:eN w w' zl aD zb G r p D y q S M)(hi:Inv w zl zb G s){b k:Nat}(hs:S b k)(hf:D.fp b k):y.fp b k:=(h.rR b k hs).resolve_left (h.notM hi hf)
def eN.Z(h:eN w w' zl aD zb G r p D y q S M)(hi:Inv w zl zb G s):∀m b k,Zf zl zb m b k->¬S b k:=λm b k hz hs=>by
 rcases h.rR b k hs with hm|hy
 ·obtain⟨_,a1,a2⟩:=h.wQ b k hm;cases m with
  |own=>exact hz
  |sl=>exact a1 hz
  |af=>exact hz.elim a1 a2
 ·exact hi.yB r m b k hz (h.DG hi (h.yD b k hy))
def eN.mono(h:eN w w' zl aD zb G r p D y q S M):∀m b k,Zf zl zb m b k->Zf aD zb m b k:=λm b k hz=>by
 cases m with
 |own=>exact hz
 |sl=>exact h.z1 b k hz
 |af=>exact hz.imp (h.z1 b k) id
def eN.back(h:eN w w' zl aD zb G r p D y q S M)(hi:Inv w zl zb G s){d0:C}(hok:d0.ok w' (Zf aD zb))(hF:C.gj D d0)(hl:C.gY D d0)(hrf:(d0.ax (C.belows r p)).rf λt=>(G t).ax (C.belows r p))(cj:∀b k,d0.fp b k->q.fp b k\/(D.fp b k/\¬y.fp b k))(hz:∀b k,d0.fp b k->¬aD b k):
  ∃G',Inv w' aD zb G' (iy r p d0.er s)/\(∀t,(G' t).val=(G t).val)/\∀t b k,(G' t).fp b k->q.fp b k\/((∃u,(G u).fp b k)/\¬y.fp b k):=by
 have h1:=hi.eO r p;have hs1:((G r).ax (C.belows r p)).sub p=some (D.ax (C.belows r p)):=C.jj _ p _ _ (hi.ok r) h.sub;have zQ:∀t b k,((G t).ax (C.belows r p)).fp b k↔(G t).fp b k:=λt b k=>C.cN _ _ b k
 have hFB:C.gj (D.ax (C.belows r p)) (d0.ax (C.belows r p)):=by
  cases hF with
  |row=>exact .row ..
  |ptr=>exact .ptr ..
 have rL:C.gY (D.ax (C.belows r p)) (d0.ax (C.belows r p)):=by
  cases hF with
  |row m m' sz A len cap e e'=>exact⟨rfl,λh=>h,λh=>h,λh=>h,hl.fits⟩
  |ptr m m' g o n c c'=>exact⟨rfl,λh=>h,λh=>h,λh=>h,hl.fits⟩
 obtain⟨i1,i2,i3⟩:=h1.HX r p (λt=>C.gB _ _) hs1 hFB rL ⟨hrf,C.gB _ _⟩ h.ext (λb k hs=>by
   rcases h.rR b k hs with hm|hy;·obtain⟨a1,a2,a3⟩:=h.wQ b k hm;exact .inr ⟨λt hf=>a1 t ((zQ t b k).1 hf),a2,a3⟩
   ·exact .inl ((C.cN _ D b k).2 (h.yD b k hy))) (C.me _ _ hok) h.z1 (λb k tP=>⟨λhf=>hz b k ((C.cN _ d0 b k).1 hf) tP,h.cC b k tP,λt hf=>by
   refine(C.cN _ D b k).2 ?_;have hf:=(zQ t b k).1 hf;rcases h.z2 b k tP with fI|hs|hb;·exact((hi.fz t b k hf).1 fI).elim
   ·rcases h.rR b k hs with hm|hy;·exact((h.wQ b k hm).1 t hf).elim
    ·exact h.yD b k hy
   ·have:=C.fG _ (hi.ok t) b k hf;omega⟩) (λb k hf=>by
   rcases(cj b k ((C.cN _ d0 b k).1 hf)).symm with hf|hf;·exact .inl ((C.cN _ D b k).2 hf.1)
   ·rcases h.fp b k hf with hs|hb
    ·rcases h.rR b k hs with hm|hy;·obtain⟨a1,a2,a3⟩:=h.wQ b k hm;exact .inr ⟨λt hf=>a1 t ((zQ t b k).1 hf),a3⟩
     ·exact .inl ((C.cN _ D b k).2 (h.yD b k hy))
    ·exact .inr ⟨λt hf=>by have:=C.fG _ (hi.ok t) b k ((zQ t b k).1 hf);omega,λhz=>by have:=hi.cC b k (.inr hz);omega⟩)
 rw[C.wo] at i1;refine⟨_,i1,λt=>(i2 t).trans (C.jk _ _),λt b k hf=>?_⟩;rcases i3 t b k hf with hf|hf
 ·rcases cj b k ((C.cN _ d0 b k).1 hf) with hf|hf;·exact .inl hf
  ·exact .inr ⟨⟨r,h.DG hi hf.1⟩,hf.2⟩
 ·exact .inr ⟨⟨t,(zQ t b k).1 hf.1⟩,λhy=>hf.2 ((C.cN _ D b k).2 (h.yD b k hy))⟩
end
end M
namespace M
open Go Go.RowKit
variable [Bs]
def SK{α:Type}(f g:Nat->α){nn c n:Nat}(h:c+n<=nn):((List.range nn).map λj=>if c<=j/\j<c+n then g (j - c) else f j)=((List.range nn).map f).take c++(List.range n).map g++((List.range nn).map f).drop (c+n):=by
 apply gX;intro i;rw[C.cZ];have Jv:(((List.range nn).map f).take c).length=c:=by simp;omega
 have oc:(((List.range nn).map f).take c++(List.range n).map g).length=c+n:=by rw[fE,Jv];simp
 by_cases h0:i<nn
 ·rw[az h0];by_cases h1:i<c;·rw[aC (by omega),mL (by omega),mL (by omega),M0 h1,C.cZ,az h0]
  ·by_cases h2:i<c+n;·rw[az ⟨by omega,h2⟩,mL (by omega),iU (by omega),Jv,C.cZ,az (by omega)]
   ·rw[aC (by omega),iU (by omega),oc,oY,C.cZ,show c+n+(i - (c+n))=i by omega,az h0]
 ·rw[aC h0,iU (by omega),oc,oY,C.cZ,aC (by omega)]
section
variable {w w':World}{zl aD zb:Nat->Nat->Prop}{G:Nat->C}{s:ah}{r:Nat}{p:Path}{S M:Nat->Nat->Prop}
def eN.ptr{g o nn n c:Nat}{f qf:Nat->C}(h:eN w w' zl aD zb G r p (.ptr .own g o nn f) (.ptr .own g (o+c) n λj=>f (j+c)) (.ptr .own g (o+c) n qf) S M)(hi:Inv w zl zb G s)(hn:c+n<=nn):
  ∃G',Inv w' aD zb G' (iy r p (.ptr .own (((List.range nn).map λj=>(f j).er).take c++((List.range n).map λj=>(qf j).er)++((List.range nn).map λj=>(f j).er).drop (c+n))) s)/\(∀t,(G' t).val=(G t).val)/\∀t b k,(G' t).fp b k->(C.ptr .own g (o+c) n qf).fp b k\/((∃u,(G u).fp b k)/\¬(C.ptr .own g (o+c) n λj=>f (j+c)).fp b k):=by
 obtain⟨D1,D2,D3,D4⟩:=C.gV p h.sub (hi.ok r);obtain⟨q1,q2,q3,q4⟩:=h.Fp;have nh:∀j,j<n->∀b k,(qf j).fp b k->(C.ptr .own g (o+c) n qf).fp b k:=λj hj b k hf=>C.kI (q3 j hj).1 (q3 j hj).2.1 hj hf;have mW:∀j,j<nn->∀b k,(f j).fp b k->(C.ptr .own g o nn f).fp b k:=λj hj b k hf=>C.kI (D3 j hj).1 (D3 j hj).2.1 hj hf;have pM:∀k,o<=k->k<o+nn->(C.ptr .own g o nn f).fp g k:=λk h1 h2=>⟨rfl,.inl ⟨rfl,h1,h2⟩⟩
 have l5:∀k,o<=k->k<o+nn->(C.ptr .own g (o+c) n λj=>f (j+c)).fp g k->o+c<=k/\k<o+c+n:=λk h1 h2 ⟨_,hf⟩=>by
  rcases hf with hf|⟨j,hj,hf⟩;·exact hf.2
  ·exact((D4 (j+c) (by omega) g k hf).1 rfl ⟨rfl,h1,h2⟩).elim
 have nj:∀j,j<nn->¬(c<=j/\j<c+n)->∀b k,(f j).fp b k->¬(C.ptr .own g (o+c) n λj=>f (j+c)).fp b k:=λj hj hne b k hf ⟨_,hf'⟩=>by
  rcases hf' with hf'|⟨j',hj',hf'⟩;·exact(D4 j hj b k hf).1 rfl ⟨hf'.1,by omega,by omega⟩
  ·exact(D4 j hj b k hf).2 (j'+c) (by omega) (by omega) hf'
 let d:Nat->C:=λj=>if c<=j/\j<c+n then qf (j - c) else f j
 have iD:∀j,c<=j/\j<c+n->d j=qf (j - c):=λj hj=>az hj;have iE:∀j,¬(c<=j/\j<c+n)->d j=f j:=λj hj=>aC hj
 have hok:(C.ptr .own g o nn d).ok w' (Zf aD zb):=by
  refine⟨λj hj=>⟨?_,λhm=>(hm rfl).elim,λ_=>(h.ext.frozen D2).trans ((D1 j hj).2.2 rfl)⟩,jJ D2 h.ext.size,λj hj=>?_,λj hj b k hf=>⟨λ_ hb=>?_,λj' hj' hne=>?_⟩⟩
  ·by_cases hr:c<=j/\j<c+n;·rw[iD j hr];have:=(q1 (j - c) (by omega)).1;rwa [show o+c+(j - c)=o+j by omega] at this
   ·rw[iE j hr];exact h.ext.cell (λhs=>hr (by have:=l5 (o+j) (by omega) (by omega) (h.SD hi hs (pM _ (by omega) (by omega)));omega)) (D1 j hj).1
  ·by_cases hr:c<=j/\j<c+n;·rw[iD j hr];obtain⟨a1,a2,a3⟩:=q3 (j - c) (by omega);exact⟨a1,a2,a3⟩
   ·rw[iE j hr];obtain⟨a1,a2,a3⟩:=D3 j hj;exact⟨a1,a2,C.gC h.mono _ (C.fk h.ext (h.Z hi) _ (λb k hf hs=>nj j hj hr b k hf (h.SD hi hs (mW j hj b k hf))) a3)⟩
  ·obtain⟨rfl,iG,gv⟩:=hb;by_cases hr:c<=j/\j<c+n;·rw[iD j hr] at hf;have:=l5 k iG gv (h.qD hi (nh _ (by omega) _ _ hf) (pM k iG gv));exact(q4 (j - c) (by omega) _ k hf).1 rfl ⟨rfl,this.1,this.2⟩
   ·rw[iE j hr] at hf;exact(D4 j hj _ k hf).1 rfl ⟨rfl,iG,gv⟩
  ·by_cases hr:c<=j/\j<c+n
   ·rw[iD j hr] at hf;by_cases hr':c<=j'/\j'<c+n;·rw[iD j' hr'];exact(q4 (j - c) (by omega) b k hf).2 (j' - c) (by omega) (by omega)
    ·rw[iE j' hr'];exact λhf'=>nj j' hj' hr' b k hf' (h.qD hi (nh _ (by omega) _ _ hf) (mW j' hj' b k hf'))
   ·rw[iE j hr] at hf;by_cases hr':c<=j'/\j'<c+n;·rw[iD j' hr'];exact λhf'=>nj j hj hr b k hf (h.qD hi (nh _ (by omega) _ _ hf') (mW j hj b k hf))
    ·rw[iE j' hr'];exact(D4 j hj b k hf).2 j' hj' hne
 have aav:=Inv.uU.Cn p ((hi.eO r p).ok r) (C.jj (C.belows r p) p _ _ (hi.ok r) h.sub) ((hi.eO r p).rf r)
 obtain⟨G',i1,i2,i3⟩:=h.back hi (d0:=.ptr .own g o nn d) hok (.ptr ..) ⟨rfl,λh=>h,λh=>h,λh=>h,λ_ h=>h⟩ (λj hj=>by
   by_cases hr:c<=j/\j<c+n;·show ((d j).ax _).rf _;rw[iD j hr];exact C.nC _ _ (C.qV _ _ (h.bare (j - c) (by omega)))
   ·show ((d j).ax _).rf _;rw[iE j hr];exact aav j hj) (λb k hf=>by
   obtain⟨_,hf|⟨j,hj,hf⟩⟩:=hf
   ·obtain⟨rfl,h1,h2⟩:=hf;by_cases hr:o+c<=k/\k<o+c+n;·exact .inl ⟨rfl,.inl ⟨rfl,hr.1,hr.2⟩⟩
    ·exact .inr ⟨pM k h1 h2,λhy=>hr (l5 k h1 h2 hy)⟩
   ·by_cases hr:c<=j/\j<c+n;·rw[iD j hr] at hf;exact .inl (nh _ (by omega) _ _ hf)
    ·rw[iE j hr] at hf;exact .inr ⟨mW j hj b k hf,nj j hj hr b k hf⟩) (λb k hf hz=>by
   obtain⟨_,hf|⟨j,hj,hf⟩⟩:=hf;·obtain⟨rfl,h1,h2⟩:=hf;have:=l5 k h1 h2 (h.zD hi hz (pM k h1 h2));exact h.qz _ k ⟨rfl,.inl ⟨rfl,this.1,this.2⟩⟩ hz
   ·by_cases hr:c<=j/\j<c+n;·rw[iD j hr] at hf;exact h.qz b k (nh _ (by omega) _ _ hf) hz
    ·rw[iE j hr] at hf;exact nj j hj hr b k hf (h.zD hi hz (mW j hj b k hf)))
 have oa:(C.ptr .own g o nn d).er=.ptr .own (((List.range nn).map λj=>(f j).er).take c++((List.range n).map λj=>(qf j).er)++((List.range nn).map λj=>(f j).er).drop (c+n)):=by rw[<-SK (λj=>(f j).er) (λj=>(qf j).er) hn];simp only[C.er];congr 1;refine cw λj _=>?_;show (if _ then _ else _:C).er=_;split<;>rfl
 rw[oa] at i1;exact⟨G',i1,i2,i3⟩
def eN.row{z len cap:Nat}{A:Option Ad}{e qe:Nat->Nat->C}(h:eN w w' zl aD zb G r p (.row .own z A len cap e) (.row .own z A len cap e) (.row .own z A len cap qe) S M)(hi:Inv w zl zb G s):
  ∃G',Inv w' aD zb G' (iy r p (.row .own z (dI z len qe)) s)/\(∀t,(G' t).val=(G t).val)/\∀t b k,(G' t).fp b k->(C.row .own z A len cap qe).fp b k\/((∃u,(G u).fp b k)/\¬(C.row .own z A len cap e).fp b k):=
 h.back hi (d0:=.row .own z A len cap qe) h.Fp (.row ..) ⟨rfl,λh=>h,λh=>h,λh=>h,λ_ h=>h⟩ trivial (λb k hf=>.inl hf) (λb k hf=>h.qz b k hf)
def eN.elem{z g o len cap n c i:Nat}{e:Nat->Nat->C}{qf:Nat->C}(h:eN w w' zl aD zb G r p (.row .own z (some (g,o,none)) len cap e) (.ptr .own g (o+i*z+c) n λj=>e i (j+c)) (.ptr .own g (o+i*z+c) n qf) S M)(hi:Inv w zl zb G s)(zS:i<len)(hn:c+n<=z)(hqs:∀j,j<n->(qf j).cQ):
  ∃G',Inv w' aD zb G' (iy r p (.row .own z ((dI z len e).set i (((List.range z).map λj=>(e i j).er).take c++((List.range n).map λj=>(qf j).er)++((List.range z).map λj=>(e i j).er).drop (c+n)))) s)/\(∀t,(G' t).val=(G t).val)/\∀t b k,(G' t).fp b k->(C.ptr .own g (o+i*z+c) n qf).fp b k\/((∃u,(G u).fp b k)/\¬(C.ptr .own g (o+i*z+c) n λj=>e i (j+c)).fp b k):=by
 obtain⟨D1,D2,D3,D4,D5⟩:=C.gV p h.sub (hi.ok r);obtain⟨q1,q2,q3,q4⟩:=h.Fp;have nh:∀j,j<n->∀b k,(qf j).fp b k->(C.ptr .own g (o+i*z+c) n qf).fp b k:=λj hj b k hf=>C.kI (q3 j hj).1 (q3 j hj).2.1 hj hf;have mW:∀i' j,i'<len->j<z->∀b k,(e i' j).fp b k->(C.row .own z (some (g,o,none)) len cap e).fp b k:=λi' j hi' hj b k hf=>C.j8 (D3 i' j hi' hj).1 (D3 i' j hi' hj).2.2.1 hi' hj hf;have pM:∀k,(C.row .own z (some (g,o,none)) len cap e).fp g k:=λk=>⟨rfl,.inl ⟨o,rfl⟩⟩
 have l5:∀k,(C.ptr .own g (o+i*z+c) n λj=>e i (j+c)).fp g k->o+i*z+c<=k/\k<o+i*z+c+n:=λk ⟨_,hf⟩=>by
  rcases hf with hf|⟨j,hj,hf⟩;·exact hf.2
  ·exact((D5 i (j+c) zS (by omega) g k hf).1 rfl o rfl).elim
 have nj:∀i' j,i'<len->j<z->¬(i'=i/\c<=j/\j<c+n)->∀b k,(e i' j).fp b k->¬(C.ptr .own g (o+i*z+c) n λj=>e i (j+c)).fp b k:=λi' j hi' hj hne b k hf ⟨_,hf'⟩=>by
  rcases hf' with hf'|⟨j',hj',hf'⟩;·exact(D5 i' j hi' hj b k hf).1 rfl o (by rw[hf'.1])
  ·exact(D5 i' j hi' hj b k hf).2 i (j'+c) zS (by omega) (λe=>by simp only[jL] at e;exact hne ⟨e.1,by omega,by omega⟩) hf'
 let d:Nat->Nat->C:=λi' j=>if i'=i/\c<=j/\j<c+n then qf (j - c) else e i' j
 have iD:∀i' j,i'=i/\c<=j/\j<c+n->d i' j=qf (j - c):=λi' j hj=>az hj;have iE:∀i' j,¬(i'=i/\c<=j/\j<c+n)->d i' j=e i' j:=λi' j hj=>aC hj
 have hok:(C.row .own z (some (g,o,none)) len cap d).ok w' (Zf aD zb):=by
  refine⟨D1,λi' j hi' hj=>⟨g,o,rfl,?_,λhm=>(hm rfl).elim⟩,λi' j hi' hj=>?_,λ_=>?_,λi' j hi' hj b k hf=>⟨λ_ o' hA=>?_,λi2 j2 hi2 hj2 hne=>?_⟩⟩
  ·by_cases hr:i'=i/\c<=j/\j<c+n;·rw[iD i' j hr];obtain⟨rfl,h1,h2⟩:=hr;have:=(q1 (j - c) (by omega)).1;rwa [show o+i'*z+c+(j - c)=o+i'*z+j by omega] at this
   ·rw[iE i' j hr];obtain⟨g',o',hA,hcl,_⟩:=D2 i' j hi' hj;injection hA with hA
    injection hA with e1 e2
    injection e2 with e2
    subst e1;subst e2;refine h.ext.cell (λhs=>hr ?_) hcl;have:=l5 _ (h.SD hi hs (pM _));have hj0:o+i'*z+j - (o+i*z)<z:=by omega
    have:=KH hj hj0 (show i'*z+j=i*z+(o+i'*z+j - (o+i*z)) by omega);exact⟨this.1,by omega,by omega⟩
  ·by_cases hr:i'=i/\c<=j/\j<c+n;·rw[iD i' j hr];obtain⟨a1,a2,a3⟩:=q3 (j - c) (by omega);exact⟨a1,hqs _ (by omega),a2,a3⟩
   ·rw[iE i' j hr];obtain⟨a1,a2,a3,a4⟩:=D3 i' j hi' hj;exact⟨a1,a2,a3,C.gC h.mono _ (C.fk h.ext (h.Z hi) _ (λb k hf hs=>nj i' j hi' hj hr b k hf (h.SD hi hs (mW i' j hi' hj b k hf))) a4)⟩
  ·rcases D4 rfl with ⟨hA,_⟩|⟨g',o',arr,t,fz,hA,hh,hsz,hfr⟩;·cases hA
   ·injection hA with hA
    injection hA with e1 e2
    injection e2 with e2
    subst e1;subst e2;have hg:g<w.heap.size:=(gG.1 hh).1;rcases h.ext.block g hg with e'|⟨a1,a2,t',lW,r1,r2,r3,r4⟩;·exact .inr ⟨g,o,arr,t,fz,rfl,e'.trans hh,hsz,λk hk hk'=>(h.ext.frozen hg).trans (hfr k hk hk')⟩
    ·rw[hh] at r1;injection r1 with r1
     injection r1 with s1 s2 s3
     subst s1;exact .inr ⟨g,o,a2,t',lW,rfl,r2,by omega,λk hk hk'=>(h.ext.frozen hg).trans (hfr k hk hk')⟩
  ·injection hA with hA
   injection hA with e1 e2
   subst e1;by_cases hr:i'=i/\c<=j/\j<c+n;·rw[iD i' j hr] at hf;have:=l5 k (h.qD hi (nh _ (by omega) _ _ hf) (pM k));exact(q4 (j - c) (by omega) _ k hf).1 rfl ⟨rfl,this.1,this.2⟩
   ·rw[iE i' j hr] at hf;exact(D5 i' j hi' hj _ k hf).1 rfl o rfl
  ·by_cases hr:i'=i/\c<=j/\j<c+n
   ·rw[iD i' j hr] at hf;by_cases hr':i2=i/\c<=j2/\j2<c+n;·rw[iD i2 j2 hr'];exact(q4 (j - c) (by omega) b k hf).2 (j2 - c) (by omega) (λe=>hne (by simp only[jL];exact⟨by rw[hr.1,hr'.1],by omega⟩))
    ·rw[iE i2 j2 hr'];exact λhf'=>nj i2 j2 hi2 hj2 hr' b k hf' (h.qD hi (nh _ (by omega) _ _ hf) (mW i2 j2 hi2 hj2 b k hf'))
   ·rw[iE i' j hr] at hf;by_cases hr':i2=i/\c<=j2/\j2<c+n;·rw[iD i2 j2 hr'];exact λhf'=>nj i' j hi' hj hr b k hf (h.qD hi (nh _ (by omega) _ _ hf') (mW i' j hi' hj b k hf))
    ·rw[iE i2 j2 hr'];exact(D5 i' j hi' hj b k hf).2 i2 j2 hi2 hj2 hne
 obtain⟨G',i1,i2,i3⟩:=h.back hi (d0:=.row .own z (some (g,o,none)) len cap d) hok (.row ..) ⟨rfl,λh=>h,λh=>h,λh=>h,λ_ h=>h⟩ trivial (λb k hf=>by
   obtain⟨_,hf|⟨i',j,hi',hj,hf⟩⟩:=hf
   ·obtain⟨o',hA⟩:=hf;injection hA with hA
    injection hA with e1 e2
    subst e1;by_cases hr:o+i*z+c<=k/\k<o+i*z+c+n;·exact .inl ⟨rfl,.inl ⟨rfl,hr.1,hr.2⟩⟩
    ·exact .inr ⟨pM k,λhy=>hr (l5 k hy)⟩
   ·by_cases hr:i'=i/\c<=j/\j<c+n;·rw[iD i' j hr] at hf;exact .inl (nh _ (by omega) _ _ hf)
    ·rw[iE i' j hr] at hf;exact .inr ⟨mW i' j hi' hj b k hf,nj i' j hi' hj hr b k hf⟩) (λb k hf hz=>by
   obtain⟨_,⟨o',hA⟩|⟨i',j,hi',hj,hf⟩⟩:=hf
   ·injection hA with hA
    injection hA with e1 e2
    subst e1;have:=l5 k (h.zD hi hz (pM k));exact h.qz _ k ⟨rfl,.inl ⟨rfl,this.1,this.2⟩⟩ hz
   ·by_cases hr:i'=i/\c<=j/\j<c+n;·rw[iD i' j hr] at hf;exact h.qz b k (nh _ (by omega) _ _ hf) hz
    ·rw[iE i' j hr] at hf;exact nj i' j hi' hj hr b k hf (h.zD hi hz (mW i' j hi' hj b k hf)))
 have oa:(C.row .own z (some (g,o,none)) len cap d).er=.row .own z ((dI z len e).set i (((List.range z).map λj=>(e i j).er).take c++((List.range n).map λj=>(qf j).er)++((List.range z).map λj=>(e i j).er).drop (c+n))):=by
  rw[<-SK (λj=>(e i j).er) (λj=>(qf j).er) hn];simp only[C.er];congr 1;symm;refine C.AR _ _ len i _ λi' hi'=>?_;split;·rename_i hii;subst hii;refine cw λj _=>?_;show (if _ then _ else _:C).er=_;simp only[sV];split<;>rfl
  ·rename_i hii;refine cw λj _=>?_;show (if _ then _ else _:C).er=_;rw[aC (λhh=>hii hh.1)]
 rw[oa] at i1;exact⟨G',i1,i2,i3⟩
end
end M
namespace M
open Go Go.RowKit
variable [Bs]
section
variable {P:Program}{c:Ctx}{G:Nat->C}{zl:Nat->Nat->Prop}{s:ah}{a:Act}{w:World}{o:Oper}{K:ah->Prop}
def Kt:∀{l':List Operand} {l:List (AV×PM)} {x:AV} {n:Nat},gM l' l=true->dS l=some (x,n)->∃i x',l[i]?=some (x,PM.mut n)/\l'[i]?=some x'/\aI x' x=true/\(∀(j:Nat) (x2:AV) (n2:Nat),l[j]?=some (x2,PM.mut n2)->j=i)/\∀ps:List X,kM l ps=ps.getD i .dead
 |[],[],x,n,_,h=>by cases h
 |To::l',(x0,pm)::l,x,n,hc,h=>by
  simp only[gM,aq] at hc
  have other:dS l=some (x,n)->(∀n2,pm≠PM.mut n2)->(∀(y:X) ps,kM ((x0,pm)::l) (y::ps)=kM l ps)->(kM ((x0,pm)::l) []=.dead)->∃i x',((x0,pm)::l)[i]?=some (x,PM.mut n)/\(To::l')[i]?=some x'/\aI x' x=true/\(∀(j:Nat) (x2:AV) (n2:Nat),((x0,pm)::l)[j]?=some (x2,PM.mut n2)->j=i)/\∀ps:List X,kM ((x0,pm)::l) ps=ps.getD i .dead:=λhm hpm h1 h2=>by
   obtain⟨i,x',i1,i2,i3,i4,i5⟩:=Kt hc.2 hm;refine⟨i+1,x',by simpa using i1,by simpa using i2,i3,λj x2 n2 hj=>?_,λps=>?_⟩
   ·cases j with
    |zero=>simp only[yz,dF,jL] at hj;exact(hpm n2 hj.2).elim
    |succ j=>rw[i4 j x2 n2 (by simpa using hj)]
   ·cases ps with
    |nil=>rw[h2];rfl
    |cons y ps=>rw[h1,i5];rfl
  cases pm with
  |mv=>exact other h (λ_ e=>by cases e) (λ_ _=>rfl) rfl
  |af=>exact other h (λ_ e=>by cases e) (λ_ _=>rfl) rfl
  |jS m=>exact other h (λ_ e=>by cases e) (λ_ _=>rfl) rfl
  | «mut» m=>
   simp only[dS,dF,jL] at h;obtain⟨rfl,rfl⟩:=h;refine⟨0,To,rfl,rfl,hc.1.1,λj x2 n2 hj=>?_,λps=>?_⟩
   ·cases j with
    |zero=>rfl
    |succ j=>
     exfalso;have hno:dS l=none:=by simpa using hc.1.2
     have:∀{l:List (AV×PM)} {i:Nat},l[i]?=some (x2,PM.mut n2)->dS l≠none:=by
      intro l;induction l with
      |nil=>intro i hi;simp at hi
      |cons p l ih=>
       intro i hi;obtain⟨y,pm⟩:=p;cases i with
       |zero=>simp only[yz,dF,jL] at hi;obtain⟨_,rfl⟩:=hi;simp[dS]
       |succ i=>have:=ih (by simpa using hi);cases pm<;>simp[dS]<;>first|exact this|skip
     exact this (by simpa using hj) hno
   ·cases ps<;>rfl
 |[],_::_,_,_,hc,_=>by cases hc
 |_::_,[],_,_,hc,_=>by cases hc
def Ku(h:St c G zl s a w){l':List Operand}{as:List (AV×PM)}(hc:gM l' as=true){x:AV}{n:Nat}(og:dS as=some (x,n)){f:FuncId}{fv:Option AV}(hop:s5 P c zl o a w l' f fv)(hn:∀n,o.dst=some n->n<c.nt)
  {ms:List C}{G1:Nat->C}{sm:ah}(hT:bO w zl c.zb G ms G1 sm)(g2:MV a l' as ms)(hmb:∀m∈ms,m.bare){r:Nat}{p:Path}{D y:C}(hsub:(G1 r).sub p=some D)(pT:y.ok w (Zf zl c.zb))(Et:y.bare)(oq:∀(i:Nat) (x':Operand),as[i]?=some (x,PM.mut n)->l'[i]?=some x'->y.val=a.eval x')(JO:∀b k,y.fp b k->D.fp b k)
  (zK:qY (iQ r p .dead sm) fv f){back:X->(ah->Prop)->Prop}(hk:AC P f (gm (iQ r p .dead sm) y.er as (ms.map C.er)++nW (iQ r p .dead sm) fv) λq ps=>back (kM as ps) λs'=>K (fP o.dst q s'))
  (aaG:∀{w':World} {aD:Nat->Nat->Prop} {S M:Nat->Nat->Prop} {q:C},eN w w' zl aD c.zb G1 r p D y q S M->∀Kx,back q.er Kx->∃s',Kx s'/\∃G',Inv w' aD c.zb G' s'/\(∀t,(G' t).val=(G1 t).val)/\∀t b k,(G' t).fp b k->q.fp b k\/((∃u,(G1 u).fp b k)/\¬y.fp b k)):qP P c o a w K false:=by
 obtain⟨pg,hrun,aaJ⟩:=hop.run;have h1:=G7 h hT;obtain⟨D',G2,t1,t2,t3,t4,t5,t6,t7,t8,t9,t10,t11,t12⟩:=h1.inv.uU r p D hsub;have h2:St c G2 zl (iQ r p .dead sm) a w:=h1.move t3 t10 (Ext.refl (λ_ _=>False) w) (λ_ _ hs=>hs.elim) (λt b k hf=>.inl ⟨t,t11 t b k hf⟩);have abE:∀b k,y.fp b k->∀t,¬(G2 t).fp b k:=λb k hf t=>t8 t b k ((t12 b k).2 (JO b k hf));have Es:∀b k,y.fp b k->(G1 r).fp b k:=λb k hf=>C.gF p hsub (hT.inv.ok r) (JO b k hf);have jC:∀b k,c.zb b k->(c.zb b k\/∃t,(G2 t).fp b k):=λb k hz=>.inl hz;have rP:∀t b k,(G2 t).fp b k->(c.zb b k\/∃t,(G2 t).fp b k):=λt b k hf=>.inr ⟨t,hf⟩;obtain⟨l,l1,l2,l3⟩:=aaJ (bG:=λb k=>c.zb b k\/∃t,(G2 t).fp b k) h2 jC rP zK
 have Qx:∀m b k,Zf zl c.zb m b k->Zf zl (λb k=>c.zb b k\/∃t,(G2 t).fp b k) m b k:=λm b k hz=>by
  cases m with
  |own=>exact hz
  |sl=>exact hz
  |af=>exact hz.imp id .inl
 obtain⟨i,x',i1,i2,i3,i4,i5⟩:=Kt hc og;have QG:=oq i x' i1 i2
 obtain⟨cs,c1,c2,c3,c4⟩:=C6 (bG:=λb k=>c.zb b k\/∃t,(G2 t).fp b k) h2 jC rP (y:=y) (C.gC Qx _ pT) Et hc g2 (λx hx=>⟨C.gC Qx _ (hT.all x hx).1,hmb x hx,λb k hf hf'=>(hT.all x hx).2.1 r b k hf (Es b k hf')⟩) hT.apart (λj x2 n2 x2' hj hj'=>by
  have:=i4 j x2 n2 hj;subst this;rw[i2] at hj';injection hj' with hj'
  rw[<-hj'];exact QG)
 have cj:∀x∈cs++l,∀b k,x.fp b k->(∃m∈ms,m.fp b k)\/y.fp b k:=λx hx b k hf=>by
  rcases dX.1 hx with hx|hx;·exact((c3 x hx).2.2 b k hf).imp id λhh=>hh.2
  ·exact((l3 x hx).cW b k hf).elim
 have kG:∀b k,(∃m∈ms,m.fp b k)->(∀t,¬(G1 t).fp b k)/\¬zl b k/\¬c.zb b k:=λb k ⟨m,hm,hf⟩=>⟨λt=>(hT.all m hm).2.1 t b k hf,(hT.all m hm).2.2.1 b k hf⟩
 have hA:mN w zl (λb k=>c.zb b k\/∃t,(G2 t).fp b k) (cs++l):={
  ok:=λx hx=>(dX.1 hx).elim (λhx=>(c3 x hx).1) λhx=>(l3 x hx).ok
  bare:=λx hx=>(dX.1 hx).elim (λhx=>(c3 x hx).2.1) λhx=>(l3 x hx).bare
  fz:=λx hx b k hf=>by
   rcases cj x hx b k hf with hm|hy;·obtain⟨a1,a2,a3⟩:=kG b k hm;exact⟨a2,λhz=>hz.elim a3 λ⟨t,ht⟩=>a1 t (t11 t b k ht)⟩
   ·have:=hT.inv.fz r b k (Es b k hy);exact⟨this.1,λhz=>hz.elim this.2 λ⟨t,ht⟩=>abE b k hy t ht⟩
  cC:=λb k hz=>by
   rcases hz with hz|hz|⟨t,ht⟩;·exact hT.inv.cC b k (.inl hz)
   ·exact hT.inv.cC b k (.inr hz)
   ·exact C.fG _ (t3.ok t) b k ht
  apart:=uX.2 ⟨c4,qS λx hx=>(l3 x hx).cW,λx _ y hy b k _ hf=>(l3 y hy).cW b k hf⟩}
 have rI:=hk w zl _ (cs++l) (by rw[iA,c1,l1]) hA (h.I6 _ λb k hz=>.inl hz);have tO:(cs++l).map C.val=l'.map a.eval++pg:=by rw[iA,c2,l2]
 rw[tO] at rI;refine⟨f,_,hrun,rI.mono ?_⟩;rintro e w' ⟨r0,ps,aD,hD,hkk⟩;have zS:i<ps.length:=by have h1:=dm List.length hD.vals;have h2:=dm List.length tO;simp only[dO,fE] at h1 h2;have h3:=(aN.1 i2).1;omega
 have hq:ps[i]?=some ps[i]:=bZ zS;have Qt:ps[i]∈ps:=cI zS
 have hqv:(ps[i]).val=y.val:=by
  have:(ps.map C.val)[i]?=(l'.map a.eval++pg)[i]?:=by rw[hD.vals,tO]
  rw[cY,hq,mL (by simpa using (aN.1 i2).1),cY,i2] at this;simp only[cv,dF] at this;rw[this,QG]
 have hmp:kM as (ps.map C.er)=(ps[i]).er:=by rw[i5];exact pJ (by rw[cY,hq];rfl) _
 rw[hmp] at hkk;have Em:=cz r0 Qt
 have P6:eN w w' zl aD c.zb G1 r p D y ps[i] (λb k=>∃x∈cs++l,x.fp b k) (λb k=>∃m∈ms,m.fp b k):={
  sub:=hsub
  yD:=JO
  ext:=hD.ext
  rR:=λb k ⟨x,hx,hf⟩=>cj x hx b k hf
  wQ:=kG
  Fp:=C.gC (λm b k hz=>by
   cases m with
   |own=>exact hz
   |sl=>exact hz
   |af=>exact hz.imp id λh=>h.elim) _ (hD.all.ok _ Em)
  bare:=hD.all.bare _ Em
  val:=hqv
  fp:=λb k hf=>hD.dom _ Em b k hf
  qz:=λb k hf=>(hD.all.fz _ Em b k hf).1
  z1:=hD.sZ
  z2:=hD.s4
  cC:=λb k hz=>hD.all.cC b k (.inl hz)}
 obtain⟨s',hKs,G',j1,j2,j3⟩:=aaG P6 _ hkk;have kH:∀b k,(∃m∈ms,m.fp b k)->∃t,(G t).fp b k:=λb k ⟨m,hm,hf⟩=>(hT.all m hm).2.2.2 b k hf
 have rF:∀b k,(∃x∈cs++l,x.fp b k)->∃t,(G t).fp b k:=λb k ⟨x,hx,hf⟩=>by
  rcases cj x hx b k hf with hm|hy;·exact kH b k hm
  ·exact⟨r,hT.mono r b k (Es b k hy)⟩
 have h3:St c G' aD s' a w':=h.after j1 (λt=>(j2 t).trans (hT.val t)) hD.ext rF (λt b k hf=>by
   rcases j3 t b k hf with hq|⟨⟨u,hu⟩,_⟩;·exact(P6.fp b k hq).imp (rF b k) id
   ·exact .inl ⟨u,hT.mono u b k hu⟩) hD.sZ (λb k hz=>(hD.s4 b k hz).imp id λhh=>hh.imp (rF b k) id)
 have hrm:=bE (a:=r0) (l:=ps)
 obtain⟨G3,h4⟩:=h3.result (x:=r0) o.dst hn (hD.all.ok r0 hrm) (hD.all.bare r0 hrm) (λt b k hf hf'=>by
   rcases j3 t b k hf' with hq|⟨⟨u,hu⟩,hny⟩;·exact(eM.1 hD.all.apart).1 _ Qt b k hf hq
   ·rcases hD.dom r0 hrm b k hf with ⟨x,hx,hf⟩|hb
    ·rcases cj x hx b k hf with hm|hy;·exact(kG b k hm).1 u hu
     ·exact hny hy
    ·have:=C.fG _ (hT.inv.ok u) b k hu;omega) (λb k hf=>⟨(hD.all.fz r0 hrm b k hf).1,λhz=>by
   rcases hD.dom r0 hrm b k hf with ⟨x,hx,hf⟩|hb
   ·rcases cj x hx b k hf with hm|hy;·exact(kG b k hm).2.2 hz
    ·exact(hT.inv.fz r b k (Es b k hy)).2 hz
   ·have:=hT.inv.cC b k (.inr hz);omega⟩) (λb k hf=>by
   rcases hD.dom r0 hrm b k hf with hs|hb;·obtain⟨t,ht⟩:=rF b k hs;exact h.tr.dom t b k ht
   ·exact .inr (iT h.tr.ext.size hb))
 exact⟨r0.val,hD.ends,(λh=>by cases h),G3,aD,_,hKs,h4⟩
end
end M
namespace M
open Go Go.RowKit
variable [Bs]
section
variable {P:Program}{c:Ctx}{G:Nat->C}{zl:Nat->Nat->Prop}{s:ah}{a:Act}{w:World}{o:Oper}{K:ah->Prop}
def IM{x:C}{m:Md}{xs:List X}(h:x.er=.ptr m xs):∃g o n f,x=.ptr m g o n f/\xs=(List.range n).map λj=>(f j).er:=by
 cases x with
 |ptr m' g o n f=>
  simp only[C.er] at h;injection h with h1 h2
  subst h1;exact⟨g,o,n,f,rfl,h2.symm⟩
 |_=>simp[C.er] at h
def aeE{m m':Md}{z z' len len' cap cap':Nat}{A A':Option Ad}{e e':Nat->Nat->C}(h:(C.row m z A len cap e).val=(C.row m' z' A' len' cap' e').val):A=A'/\len=len'/\cap=cap':=by
 simp only[C.val] at h;injection h with h1 h2 h3
 refine⟨?_,h2,h3⟩;cases A with
 |none=>cases A' with
  |none=>rfl
  |some q=>simp at h1
 |some q=>cases A' with
  |none=>simp at h1
  |some q'=>
   simp only[cv,dF,Addr.mk.injEq,qJ] at h1
   rw[show q=q' from Prod.ext h1.1 (Prod.ext h1.2.1 h1.2.2)]
def RO(n:Nat)(f:Nat->C){k sz:Nat}(h:k+sz<=n):((List.range sz).map λj=>(f (j+k)).er)=(((List.range n).map λj=>(f j).er).drop k).take sz:=by rw[<-mG,oC,<-oQ,<-oQ,uZ,nQ (by omega),cK];rfl
def Oa(h:St c G zl s a w){l':List Operand}{as:List (AV×PM)}(hc:gM l' as=true){x:AV}{n:Nat}(og:dS as=some (x,n)){f:FuncId}{fv:Option AV}(hop:s5 P c zl o a w l' f fv)(hn:∀n,o.dst=some n->n<c.nt)(hK:tu P f o.dst as fv s K):qP P c o a w K false:=by
 obtain⟨k1,k2⟩:=hK;rw[og] at k2;simp only at k2;obtain⟨ms,G1,g1,g2,hT⟩:=Fc hc h;have h1:=G7 h hT;rw[<-g1] at k1 k2;have hmb:∀m∈ms,m.bare:=λm hm=>(C.lR m).1 (C.vp.1 k1 _ (kj hm));obtain⟨i,x',i1,i2,i3,i4,i5⟩:=Kt hc og;obtain⟨u,u1,u2,u3⟩:=cx h1 i3;rw[<-u1] at k2
 have hval:∀y:C,y.val=u.val->∀(j:Nat) (x2:Operand),as[j]?=some (x,PM.mut n)->l'[j]?=some x2->y.val=a.eval x2:=λy hy j x2 hj hj'=>by
  have:=i4 j x n hj;subst this;rw[i2] at hj';injection hj' with hj'
  rw[hy,u2,hj']
 cases u with
 |ref v r p=>
  obtain⟨y',z',hs,hF,hv,m,z1,A,len,cap,e,rfl⟩:=u3.rf;cases hF with
  |row m m' sz' A len cap e e'=>
   simp only[C.er,placeOf,wK] at k2;split at k2
   ·rename_i z xs hlk;obtain⟨k2,k3,k4⟩:=k2;simp only[look] at hlk;rw[<-h1.inv.er,C.gE,hs] at hlk;simp only[cv,dF] at hlk;obtain⟨A2,ak5,cap2,e2,he,rfl⟩:=zn hlk;injection he with b1 b2 b3 b4 b5 b6
    subst b1;subst b2;subst b3;subst b4;subst b5;subst b6;have hok:=C.gV p hs (h1.inv.ok r)
    refine Ku h hc og hop hn hT g2 hmb hs (y:=.row .own z1 A len cap e') (back:=λy Kx=>match y with
     |.row .own z' ys=>z'=z1/\Kx (iy r p (.row .own z1 ys) (bW as s).2)
     |_=>False) hok trivial (hval _ hv) (λb k hf=>hf) k3 (by rw[hlk];exact k4) λ{w' aD S M q} hM Kx hb=>?_
    split at hb;·rename_i z' ys hq;obtain⟨rfl,hb⟩:=hb;obtain⟨A3,ak6,ai3,e3,rfl,rfl⟩:=zn hq;obtain⟨c1,c2,c3⟩:=aeE hM.val;subst c1;subst c2;subst c3;obtain⟨G',j1,j2,j3⟩:=hM.row h1.inv;exact⟨_,hb,G',j1,j2,j3⟩
    ·exact hb.elim
   ·exact k2.elim
 |aB v r p i k=>
  obtain⟨D,hs,hp⟩:=u3.rf;have hok:=C.gV p hs (h1.inv.ok r);simp only[C.er,placeOf,wK] at k2;have hlk:look (bW as s).2 r p=some D.er:=by simp only[look];rw[<-h1.inv.er,C.gE,hs];rfl
  rw[hlk] at k2;rcases hp with ⟨m,z,g,o',len,cap,e,rfl,rfl⟩|⟨m,g,o',nn,f',rfl,rfl,rfl⟩
  ·simp only[C.er] at k2;cases m with
   |own=>
    simp only[C.cZ] at k2;split at k2
    ·rename_i e0 lg;split at lg
     ·rename_i hi;injection lg with lg
      obtain⟨k0,k2,k3,k4⟩:=k2;have hkn:k+n<=z:=by rw[<-lg] at k0;simpa using k0
      obtain⟨D1,D2,D3,D4,D5⟩:=hok;have Af:(C.ptr .own g (o'+i*z+k) n λj=>e i (j+k)).er=.ptr .own ((e0.drop k).take n):=by rw[<-lg,<-RO z (λj=>e i j) hkn];rfl
      have hfr:∀j,j<z->w.frozen? ⟨g,o'+i*z+j,none⟩=false/\g<w.heap.size:=λj hj=>by
       rcases D4 rfl with ⟨hA,_⟩|⟨g',o2,arr,t,fz,hA,hh,hsz,hfr⟩;·cases hA
       ·injection hA with hA
        injection hA with e1 e2
        injection e2 with e2
        subst e1;subst e2;refine⟨hfr _ (by omega) ?_,(gG.1 hh).1⟩;have:(i+1)*z<=cap*z:=nR _ (by omega);rw[fB] at this;omega
      have je:g<w.heap.size:=by
       rcases D4 rfl with ⟨hA,_⟩|⟨g',o2,arr,t,fz,hA,hh,hsz,hfr⟩;·cases hA
       ·injection hA with hA
        injection hA with e1 e2
        subst e1;exact(gG.1 hh).1
      have pT:(C.ptr .own g (o'+i*z+k) n λj=>e i (j+k)).ok w (Zf zl c.zb):=by
       refine⟨λj hj=>⟨?_,λhm=>(hm rfl).elim,λ_=>?_⟩,je,λj hj=>?_,λj hj b k' hf=>⟨λ_ hb=>?_,λj' hj' hne=>?_⟩⟩
       ·obtain⟨g',o2,hA,hcl,_⟩:=D2 i (j+k) hi (by omega);injection hA with hA
        injection hA with e1 e2
        injection e2 with e2
        subst e1;subst e2;rw[show o'+i*z+k+j=o'+i*z+(j+k) by omega];exact hcl
       ·rw[show o'+i*z+k+j=o'+i*z+(j+k) by omega];exact(hfr (j+k) (by omega)).1
       ·obtain⟨a1,a2,a3,a4⟩:=D3 i (j+k) hi (by omega);exact⟨a1,a3,a4⟩
       ·exact(D5 i (j+k) hi (by omega) b k' hf).1 rfl o' (by rw[hb.1])
       ·exact(D5 i (j+k) hi (by omega) b k' hf).2 i (j'+k) hi (by omega) (λe=>by simp only[jL] at e;omega)
      refine Ku h hc og hop hn hT g2 hmb hs (back:=λy Kx=>match y with
       |.ptr .own ys=>ys.length=n/\gU ys=true/\Kx (iy r p (.row .own z ((dI z len e).set i (e0.take k++ys++e0.drop (k+n)))) (bW as s).2)
       |_=>False) pT ((C.lR _).1 (by rw[Af];exact k2)) (hval _ rfl) (λb k' hf=>?_) k3 (by rw[Af];exact k4) λ{w' aD S M q} hM Kx hb=>?_
      ·obtain⟨_,hf|⟨j,hj,hf⟩⟩:=hf;·exact⟨rfl,.inl ⟨o',by rw[hf.1]⟩⟩
       ·exact⟨rfl,.inr ⟨i,j+k,hi,by omega,hf⟩⟩
      ·split at hb
       ·rename_i ys hq;obtain⟨iG,gv,n9⟩:=hb;obtain⟨g3,o3,n3,f3,rfl,rfl⟩:=IM hq;have lz:=hM.val;simp only[C.val] at lz;injection lz with lz
        injection lz with lz
        injection lz with c1 c2 c3
        subst c1;subst c2;have vV:n3=n:=by simpa using iG
        subst vV;obtain⟨G',j1,j2,j3⟩:=hM.elem h1.inv hi hkn (λj hj=>SI (GN gv _ (aU.2 ⟨j,by simpa using hj,rfl⟩)));rw[lg] at j1;exact⟨_,n9,G',j1,j2,j3⟩
       ·exact hb.elim
     ·cases lg
    ·exact k2.elim
   |sl=>exact k2.elim
   |af=>exact k2.elim
  ·simp only[C.er] at k2;cases m with
   |own=>
    obtain⟨k0,k2,k3,k4⟩:=k2;have hkn:k+n<=nn:=by simpa using k0
    obtain⟨D1,D2,D3,D4⟩:=hok;have Af:(C.ptr .own g (o'+k) n λj=>f' (j+k)).er=.ptr .own ((((List.range nn).map λj=>(f' j).er).drop k).take n):=by rw[<-RO nn f' hkn];rfl
    have pT:(C.ptr .own g (o'+k) n λj=>f' (j+k)).ok w (Zf zl c.zb):=by
     refine⟨λj hj=>⟨?_,λhm=>(hm rfl).elim,λ_=>?_⟩,D2,λj hj=>D3 (j+k) (by omega),λj hj b k' hf=>⟨λ_ hb=>?_,λj' hj' hne=>?_⟩⟩;·rw[show o'+k+j=o'+(j+k) by omega];exact(D1 (j+k) (by omega)).1
     ·rw[show o'+k+j=o'+(j+k) by omega];exact(D1 (j+k) (by omega)).2.2 rfl
     ·exact(D4 (j+k) (by omega) b k' hf).1 rfl ⟨hb.1,by omega,by omega⟩
     ·exact(D4 (j+k) (by omega) b k' hf).2 (j'+k) (by omega) (by omega)
    refine Ku h hc og hop hn hT g2 hmb hs (back:=λy Kx=>match y with
     |.ptr .own ys=>ys.length=n/\Kx (iy r p (.ptr .own (((List.range nn).map λj=>(f' j).er).take k++ys++((List.range nn).map λj=>(f' j).er).drop (k+n))) (bW as s).2)
     |_=>False) pT ((C.lR _).1 (by rw[Af];exact k2)) (hval _ rfl) (λb k' hf=>?_) k3 (by rw[Af];exact k4) λ{w' aD S M q} hM Kx hb=>?_
    ·obtain⟨_,hf|⟨j,hj,hf⟩⟩:=hf;·exact⟨rfl,.inl ⟨hf.1,by omega,by omega⟩⟩
     ·exact⟨rfl,.inr ⟨j+k,by omega,hf⟩⟩
    ·split at hb
     ·rename_i ys hq;obtain⟨iG,n9⟩:=hb;obtain⟨g3,o3,n3,f3,rfl,rfl⟩:=IM hq;have lz:=hM.val;simp only[C.val] at lz;injection lz with lz
      injection lz with lz
      injection lz with c1 c2 c3
      subst c1;subst c2;have vV:n3=n:=by simpa using iG
      subst vV;obtain⟨G',j1,j2,j3⟩:=hM.ptr h1.inv hkn;exact⟨_,n9,G',j1,j2,j3⟩
     ·exact hb.elim
   |sl=>exact k2.elim
   |af=>exact k2.elim
 |_=>exact k2.elim
def I0{f:FuncId}(h:aA P f=true):∃fn,P.funcs[f]?=some fn/\(fn.name== "runtime.NumGoroutine")=false/\fn.body.isNone=false:=by
 unfold aA at h;split at h;·rename_i fn hf;simp only[aq,oU] at h;exact⟨fn,hf,h.1,h.2⟩
 ·cases h
def adE(h:St c G zl s a w){f:FuncId}{fn:Func}{as':Array Operand}{as:List (AV×PM)}{ts:Array TypeId}(ho:o.op=.call {callee:=.value (.func f),args:=as',argTypes:=ts})(hf:P.funcs[f]?=some fn)(hname:(fn.name== "runtime.NumGoroutine")=false) (hb:fn.body.isNone=false)
  (hn:∀n,o.dst=some n->n<c.nt) (hc:gM as'.toList as=true) (hK:aL P (.call o.dst f as) s K):qP P c o a w K (jo as):=by
 have hop:s5 P c zl o a w as'.toList f none:=⟨[],by simp only[execOp,ho,resolve,Act.eval,Deferred.ofValue,Sem.run_bind,Sem.run_pure,Result.andThen_ok,invoke,K0 hf hname hb];congr 2;apply oP;simp,λ_ _ _ _=>⟨[],rfl,rfl,λ_ hx=>(by cases hx)⟩⟩
 cases hm:dS as with
 |none=>exact Oc _ h hc hm hop (λh=>h) hn hK
 |some q=>
  have hq:jo as=false:=by
   cases hq:jo as with
   |false=>rfl
   |true=>rw[wM hq] at hm;cases hm
  rw[hq];exact Oa h hc hm hop hn hK
def adG(h:St c G zl s a w){x:AV}{x':Operand}{as':Array Operand}{as:List (AV×PM)}{ts:Array TypeId}(ho:o.op=.call {callee:=.value x',args:=as',argTypes:=ts})(hx:aI x' x=true)
  (hn:∀n,o.dst=some n->n<c.nt)(hc:gM as'.toList as=true)(hK:aL P (.nV o.dst x as) s K):qP P c o a w K (jo as):=by
 simp only[aL] at hK;split at hK
 ·rename_i f cs he;obtain⟨hf,hK⟩:=hK;obtain⟨fn,hf1,ij,hf3⟩:=I0 hf;obtain⟨p,p1,p2,p3⟩:=cx h hx;rw[he] at p1;cases p with
  |fn g n fc=>
   simp only[C.er,X.fn.injEq] at p1;obtain⟨rfl,p1⟩:=p1
   have hop:s5 P c zl o a w as'.toList g (some x):=⟨(List.range n).map λj=>(fc j).val,by
    simp only[execOp,ho,resolve,<-p2,C.val,Deferred.ofValue,Sem.run_bind,Sem.run_pure,Result.andThen_ok,invoke,K0 hf1 ij hf3];congr 2;apply oP;simp,λ{G2 s2 bG} h2 hb hG hi=>by
    simp only[qY] at hi;split at hi;·rename_i g' cs' he';subst hi;obtain⟨l,l1,l2,l3⟩:=WX h2 hb hG hx he';refine⟨l,l1,?_,l3⟩;rw[<-p2] at l2;simp only[C.val,Value.func.injEq,sV] at l2;exact(Array.mk.injEq _ _▸l2:_).symm
    ·exact hi.elim⟩
   cases hm:dS as with
   |none=>exact Oc _ h hc hm hop (λh=>h) hn hK
   |some q=>
    have hq:jo as=false:=by
     cases hq:jo as with
     |false=>rfl
     |true=>rw[wM hq] at hm;cases hm
    rw[hq];exact Oa h hc hm hop hn hK
  |_=>simp[C.er] at p1
 ·exact hK.elim
end
end M
namespace M
open Go Go.RowKit
variable [Bs]
section
variable {P:Program}{c:Ctx}{G:Nat->C}{zl:Nat->Nat->Prop}{s:ah}{a:Act}{w:World}{o:Oper}{K:ah->Prop}
def ae3{x:C}(hc:x.cell)(hs:M.cQ x.er=true):x.plain:=by cases x<;>first|trivial|exact hc|(simp[C.er,M.cQ] at hs)
def ad9{x:C}(h:x.plain):x.bare:=by cases x<;>first|trivial|exact h.elim
def ae1{l:List X}(h:gU l=true):∀x∈l,M.cQ x=true:=by
 induction l with
 |nil=>intro x hx;cases hx
 |cons a l ih=>
  simp only[gU,aq] at h;intro x hx;rcases cu.1 hx with rfl|hx;·exact h.1
  ·exact ih h.2 x hx
def HL:∀{l':List Operand} {l:List (AV×PM)},gM l' l=true->jo l=true->MV a l' l (l.map λ_=>.dead undef)
 |[],[],_,_=>trivial
 |x'::l',(x,.af)::l,hc,hq=>HL (l':=l') (l:=l) (by simp only[gM,aq] at hc;exact hc.2) hq
 |x'::l',(x,.jS n)::l,hc,hq=>HL (l':=l') (l:=l) (by simp only[gM,aq] at hc;exact hc.2) hq
 |x'::l',(x,.mv)::l,hc,hq=>by cases hq
 |x'::l',(x,.mut _)::l,hc,hq=>by cases hq
 |[],_::_,hc,_=>by cases hc
 |_::_,[],hc,_=>by cases hc
def WW(h:St c G zl s a w){x':Operand}{l':List Operand}{x:AV}{as:List (AV×PM)}(hx:aI x' x=true)(hc:gM l' as=true)(hq:jo as=true){f:FuncId}(hop:s5 P c zl o a w (x'::l') f none)(hn:∀n,o.dst=some n->n<c.nt)(hK:aL P (.qW o.dst f x as) s K):qP P c o a w K false:=by
 obtain⟨p,p1,p2,p3⟩:=cx h hx;simp only[aL] at hK;rw[<-p1] at hK;cases p with
 |agg n f0=>
  have per:(C.agg n f0).er=.agg (((List.range n).map f0).map C.er):=by simp only[C.er,cK];rfl
  rw[per] at hK;simp only at hK;obtain⟨k1,k3⟩:=hK
  have hcells:∀c'∈(List.range n).map f0,yH w zl c.zb G c':=λc' j0=>by
   obtain⟨j,hj,rfl⟩:=aU.1 j0;have hj':j<n:=by simpa using hj
   exact⟨(p3.ok.1 j hj').1,(p3.ok.1 j hj').2,λb k hf=>p3.cW b k ⟨j,hj',hf⟩,λv r p e=>Cu (by rw[<-e];exact p3.rf j hj')⟩
  obtain⟨l0,G1,e1,e2,e3,e4,e5⟩:=Cp _ G s h.inv hcells;obtain⟨pg,hrun,zK⟩:=hop.run;have h1:=G7 h e4;rw[<-e1] at k1 k3;have jC:∀b k,c.zb b k->(c.zb b k\/∃t,(G1 t).fp b k):=λb k hz=>.inl hz;have rP:∀t b k,(G1 t).fp b k->(c.zb b k\/∃t,(G1 t).fp b k):=λt b k hf=>.inr ⟨t,hf⟩;obtain⟨l,q1,q2,q3⟩:=zK h1 jC rP trivial;have hl0:l=[]:=by simpa [nW] using q1
  subst hl0;have hcap:pg=[]:=by simpa using q2.symm
  subst hcap
  obtain⟨zc,r1,r2,r3,r4⟩:=C6 h1 jC rP (y:=.dead undef) trivial trivial hc (HL hc hq) (λx hx=>by
   obtain⟨_,_,rfl⟩:=aU.1 hx;exact⟨trivial,trivial,λb k hf=>hf.elim⟩) (qS λx hx=>by
   obtain⟨_,_,rfl⟩:=aU.1 hx
   exact λb k hf=>hf) (λi x n x' hi _=>by
    exfalso;have hno:=wM hq
    have:∀{l:List (AV×PM)} {i:Nat},l[i]?=some (x,PM.mut n)->dS l≠none:=by
     intro l;induction l with
     |nil=>intro i hi;simp at hi
     |cons y l ih=>
      intro i hi;obtain⟨y,pm⟩:=y;cases i with
      |zero=>simp only[yz,dF,jL] at hi;obtain⟨_,rfl⟩:=hi;simp[dS]
      |succ i=>have:=ih (by simpa using hi);cases pm<;>simp[dS]<;>first|exact this|skip
    exact this hi hno)
  have Ei:∀x∈zc,∀b k,¬x.fp b k:=λx hx b k hf=>by
   rcases(r3 x hx).2.2 b k hf with ⟨m,hm,hh⟩|⟨hh,_⟩;·obtain⟨_,_,rfl⟩:=aU.1 hm;exact hh
   ·rw[wM hq] at hh;cases hh
  have oo:l0.length=n:=by have:=dm List.length e2;simpa using this
  have QF:∀b k,(gI l0).fp b k->∃m∈l0,m.fp b k:=λb k hf=>(qR _ _ _).1 hf
  have hpl:∀x∈l0,x.ok w (Zf zl λb k=>c.zb b k\/∃t,(G1 t).fp b k):=λx hx=>C.gC (λm b k hz=>by
   cases m with
   |own=>exact hz
   |sl=>exact hz
   |af=>exact hz.imp id .inl) _ (e4.all x hx).1
  have hA:mN w zl (λb k=>c.zb b k\/∃t,(G1 t).fp b k) (gI l0::zc):={
   ok:=λx hx=>by
    rcases cu.1 hx with rfl|hx;·exact⟨λj hj=>⟨C.lF (e3 _ (cS hj _)),hpl _ (cS hj _)⟩,λj hj b k hf j' hj' hne=>wR e4.apart _ hj hj' hne hf⟩
    ·exact(r3 x hx).1
   bare:=λx hx=>by
    rcases cu.1 hx with rfl|hx;·exact λj hj=>ad9 (e3 _ (cS hj (C.dead undef)))
    ·exact(r3 x hx).2.1
   fz:=λx hx b k hf=>by
    rcases cu.1 hx with rfl|hx;·obtain⟨m,hm,hf⟩:=QF b k hf;exact⟨((e4.all m hm).2.2.1 b k hf).1,λhz=>hz.elim ((e4.all m hm).2.2.1 b k hf).2 λ⟨t,ht⟩=>(e4.all m hm).2.1 t b k hf ht⟩
    ·exact(Ei x hx b k hf).elim
   cC:=λb k hz=>by
    rcases hz with hz|hz|⟨t,ht⟩;·exact e4.inv.cC b k (.inl hz)
    ·exact e4.inv.cC b k (.inr hz)
    ·exact C.fG _ (e4.inv.ok t) b k ht
   apart:=eM.2 ⟨λx hx b k _ hf=>Ei x hx b k hf,qS Ei⟩}
  have rI:=k3 w zl _ (gI l0::zc) (by rw[aY,r1,vl];simp only[cK];rfl) hA (h1.I6 _ λb k hz=>.inl hz)
  have QH:(gI l0).val=a.eval x':=by rw[yI,e2,<-p2];simp only[C.val,cK];rfl
  have tO:(gI l0::zc).map C.val=(x'::l').map a.eval++[]:=by rw[aY,QH,r2];simp
  rw[tO] at rI;refine⟨f,_,hrun,rI.mono ?_⟩;rintro e w' ⟨r,ps,aD,hD,hk⟩;have hin:∀b k,aD b k->b<w'.heap.size:=λb k hz=>hD.all.cC b k (.inl hz);have kG:∀b k,(∃m∈l0,m.fp b k)->(∀t,¬(G1 t).fp b k)/\¬zl b k/\¬c.zb b k:=λb k ⟨m,hm,hf⟩=>⟨λt=>(e4.all m hm).2.1 t b k hf,(e4.all m hm).2.2.1 b k hf⟩
  have k9:∀b k,(∃x∈gI l0::zc,x.fp b k)->∃m∈l0,m.fp b k:=λb k ⟨x,hx,hf⟩=>by
   rcases cu.1 hx with rfl|hx;·exact QF b k hf
   ·exact(Ei x hx b k hf).elim
  have Ah:∀b k,aD b k->zl b k\/(∃m∈l0,m.fp b k)\/w.heap.size<=b:=λb k hz=>(hD.s4 b k hz).imp id λhh=>hh.imp (k9 b k) id
  have hi:=e4.inv.Nx hD.ext (λb k hs=>kG b k (k9 b k hs)) hD.sZ (λb k hz=>⟨hin b k hz,λt hf=>by
   rcases Ah b k hz with hz|hm|hb;·exact(e4.inv.fz t b k hf).1 hz
   ·exact(kG b k hm).1 t hf
   ·have:=C.fG _ (e4.inv.ok t) b k hf;omega⟩)
  have kH:∀b k,(∃m∈l0,m.fp b k)->∃t,(G t).fp b k:=λb k ⟨m,hm,hf⟩=>(e4.all m hm).2.2.2 b k hf;have Ek:∀x∈r::ps,∀b k,x.fp b k->(∃m∈l0,m.fp b k)\/w.heap.size<=b:=λx hx b k hf=>(hD.dom x hx b k hf).imp (k9 b k) id
  have Qq:∀x∈r::ps,∀t b k,x.fp b k->¬(G1 t).fp b k:=λx hx t b k hf hf'=>by
   rcases Ek x hx b k hf with hm|hb;·exact(kG b k hm).1 t hf'
   ·have:=C.fG _ (e4.inv.ok t) b k hf';omega
  have Qs:∀x∈r::ps,∀b k,x.fp b k->¬aD b k/\¬c.zb b k:=λx hx b k hf=>⟨(hD.all.fz x hx b k hf).1,λhz=>by
   rcases Ek x hx b k hf with hm|hb;·exact(kG b k hm).2.2 hz
   ·have:=e4.inv.cC b k (.inr hz);omega⟩
  cases ps with
  |nil=>exact hk.elim
  |cons p0 ps=>
   cases p0 with
   |agg n0 g0=>
    simp only[aY,C.er] at hk;obtain⟨j1,s',j2,j3⟩:=hk;have zV:(C.agg n0 g0)∈r::C.agg n0 g0::ps:=cz _ (bE ..);have hv0:(C.agg n0 g0).val=(C.agg n f0).val:=by have:=dm List.head? hD.vals;simp only[aY,List.head?_cons,dF] at this;rw[this,QH,p2]
    simp only[C.val,Value.agg.injEq,Array.mk.injEq,List.toArray_inj] at hv0;have fW:n0=n:=by have:=dm List.length hv0;simpa using this
    subst fW;have JF:=hD.all.ok _ zV;have Ef:∀y∈(List.range n0).map g0,∀b k,y.fp b k->(C.agg n0 g0).fp b k:=λy hy b k hf=>by obtain⟨j,hj,rfl⟩:=aU.1 hy;exact⟨j,by simpa using hj,hf⟩
    rw[show ((List.range n0).map λj=>(g0 j).er)=((List.range n0).map g0).map C.er by simp only[cK];rfl] at j1 j2
    obtain⟨G2,g1,g2,g3⟩:=C9 ((List.range n0).map f0) ((List.range n0).map g0) hi (by simp) (λv r p hm=>e5 v r p ((hcells _ hm).weak v r p rfl)) (λi cc y hi1 hi2=>by
     have hy:y∈(List.range n0).map g0:=lM hi2;obtain⟨j,hj,rfl⟩:=aU.1 hy;have hj':j<n0:=by simpa using hj
     refine⟨ae3 (JF.1 j hj').1 (ae1 j1 _ (kj hy)),?_,C.gC (λm b k hz=>by
      cases m with
      |own=>exact hz
      |sl=>exact hz
      |af=>exact hz.imp id λh=>h.elim) _ (JF.1 j hj').2⟩
     have:=dm (λt:List Value=>t[i]?) hv0;rw[show ((List.range n0).map λj=>(g0 j).val)=((List.range n0).map g0).map C.val by simp only[cK];rfl,show ((List.range n0).map λj=>(f0 j).val)=((List.range n0).map f0).map C.val by simp only[cK];rfl,cY (l:=(List.range n0).map g0),cY (l:=(List.range n0).map f0),hi1,hi2] at this;simpa using this) (λy hy=>⟨λt b k hf=>Qq _ zV t b k (Ef y hy b k hf),λb k hf=>Qs _ zV b k (Ef y hy b k hf)⟩) (by
     rw[CI];refine HF ?_ List.nodup_range;intro i j hi hj hne b k hf;exact JF.2 i (by simpa using hi) b k hf j (by simpa using hj) hne) j2
    have Ae:∀b k,(∃y∈(List.range n0).map g0,y.fp b k)->(∃m∈l0,m.fp b k)\/w.heap.size<=b:=λb k ⟨y,hy,hf⟩=>Ek _ zV b k (Ef y hy b k hf)
    have h2:St c G2 aD s' a w':=h.after g1 (λt=>(g2 t).trans (e4.val t)) hD.ext (λb k hs=>kH b k (k9 b k hs)) (λt b k hf=>by
     rcases g3 t b k hf with hh|hh;·exact .inl ⟨t,e4.mono t b k hh⟩
     ·exact(Ae b k hh).imp (kH b k) id) hD.sZ (λb k hz=>(Ah b k hz).imp id λhh=>hh.imp (kH b k) id)
    have hr:r∈r::C.agg n0 g0::ps:=bE ..
    obtain⟨G3,h3⟩:=h2.result (x:=r) o.dst hn (hD.all.ok r hr) (hD.all.bare r hr) (λt b k hf hf'=>by
      rcases g3 t b k hf' with hh|⟨y,hy,hh⟩;·exact Qq r hr t b k hf hh
      ·exact(eM.1 hD.all.apart).1 _ (bE ..) b k hf (Ef y hy b k hh)) (Qs r hr) (λb k hf=>by
      rcases Ek r hr b k hf with hm|hb;·obtain⟨t,ht⟩:=kH b k hm;exact h.tr.dom t b k ht
      ·exact .inr (iT h.tr.ext.size hb))
    exact⟨r.val,hD.ends,λJH=>by (cases JH),G3,aD,_,j3,h3⟩
   |_=>exact hk.elim
 |_=>exact hK.elim
def adF(h:St c G zl s a w){f:FuncId}{fn:Func}{as':Array Operand}{x:AV}{x':Operand}{l':List Operand}{as:List (AV×PM)}{ts:Array TypeId}(ho:o.op=.call {callee:=.value (.func f),args:=as',argTypes:=ts})(hl:as'.toList=x'::l')(hf:P.funcs[f]?=some fn)(hname:(fn.name== "runtime.NumGoroutine")=false) (hb:fn.body.isNone=false)
  (hn:∀n,o.dst=some n->n<c.nt) (hx:aI x' x=true) (hc:gM l' as=true) (hq:jo as=true) (hK:aL P (.qW o.dst f x as) s K):qP P c o a w K false:=by
 have hop:s5 P c zl o a w (x'::l') f none:=⟨[],by simp only[execOp,ho,resolve,Act.eval,Deferred.ofValue,Sem.run_bind,Sem.run_pure,Result.andThen_ok,invoke,K0 hf hname hb];rw[<-hl];congr 2;apply oP;simp,λ_ _ _ _=>⟨[],rfl,rfl,λ_ hx=>(by cases hx)⟩⟩
 exact WW h hx hc hq hop hn hK
end
end M
namespace M
open Go Go.RowKit
variable [Bs]
section
variable {P:Program}{ops:Array Oper}{Q:Exit->Act->World->Prop}
def wpAnyQ(P:Program)(ops:Array Oper)(quiet:Nat->Bool)(Q:Exit->Act->World->Prop):Nat->Array Bool->Act->World->Prop
 |0,listed,a,w=>Region.ready .any ops listed=[]/\Q .normal a w
 |fuel+1,listed,a,w=>(Region.ready .any ops listed=[]->Q .normal a w)/\
  ∀i∈Region.ready .any ops listed,wpOp P ops Q i (λa' w'=>Rel (quiet i) w w'/\wpAnyQ P ops quiet Q fuel (listed.setIfInBounds i true) a' w') a w
def wpAnyQ.any{quiet:Nat->Bool}:∀{fuel:Nat} {listed:Array Bool} {a:Act} {w:World},wpAnyQ P ops quiet Q fuel listed a w->wpAny P .any ops Q fuel listed a w
 |0,_,_,_,h=>h
 |fuel+1,_,_,_,h=>⟨h.1,λi hi=>wpOp_mono (λ_ _ h=>h.2.any) (h.2 i hi)⟩
def nU(P:Program)(ops:Array Oper)(o:Oper)(v:Value)(a:Act)(w:World):Prop:=
 (Region.wanted o (yielded ops a.tmps)=true/\∀w',Ext (λ_ _=>False) w w'->(execOp a.eval o).run P w'=.ok (.value v) w')\/
 (Region.wanted o (yielded ops a.tmps)=false/\v=undef)
def nU.wpOp{i:Nat}{o:Oper}{v:Value}{a:Act}{w:World}(hi:ops[i]?=some o)(hy:nU P ops o v a w){K:Act->World->Prop}(h:K (a.put o.dst v) w):wpOp P ops Q i K a w:=by
 unfold Go.wpOp;simp only[hi];rcases hy with ⟨hw,hv⟩|⟨hw,rfl⟩;·simp only[hw,dr,Oper.wp,hv w (Ext.refl _ _),Oper.upon];exact .inl h
 ·simp only[hw,fC,ey];exact h
def qO(P:Program)(ops:Array Oper)(o:Oper)(v:Value)(a:Act):Prop:=
 (Region.wanted o (yielded ops a.tmps)=true/\∀w',(execOp a.eval o).run P w'=.ok (.value v) w')\/
 (Region.wanted o (yielded ops a.tmps)=false/\v=undef)
def qO.later{o:Oper}{v:Value}{a:Act}(h:qO P ops o v a)(w:World):nU P ops o v a w:=h.imp (λh=>⟨h.1,λw' _=>h.2 w'⟩) id
def CZ(ops:Array Oper)(o:Oper)(a a':Act):Prop:=execOp a'.eval o=execOp a.eval o/\Region.wanted o (yielded ops a'.tmps)=Region.wanted o (yielded ops a.tmps)
def nU.same{o:Oper}{v:Value}{a a':Act}{w w':World}(hy:nU P ops o v a w)(h:CZ ops o a a')(hE:Ext (λ_ _=>False) w w'):nU P ops o v a' w':=by unfold nU;rw[h.1,h.2];exact hy.imp (λhh=>⟨hh.1,λw2 h2=>hh.2 w2 (hE.trans h2 λ_ _ h _=>h)⟩) id
def qO.same{o:Oper}{v:Value}{a a':Act}(hy:qO P ops o v a)(h:CZ ops o a a'):qO P ops o v a':=by unfold qO;rw[h.1,h.2];exact hy
def Tm{j:Nat}{oi oj:Oper}{v:Value}(hj:ops[j]?=some oj)(hap:oi.apart ops oj=true)(hsi:∀cs b,oi.op≠.select cs b)(hsj:∀cs b,oj.op≠.select cs b)
  (hQ:∀c a w,Q (.panic c) (a.put oi.dst v) w->Q (.panic c) a w){K:Act->World->Prop}{a:Act}{w:World}(h:wpOp P ops Q j K (a.put oi.dst v) w):
  wpOp P ops Q j (λa' w'=>CZ ops oi a a'/\K (a'.put oi.dst v) w') a w:=by
 obtain⟨h1,h2,h3⟩:=Oper.apart_spec hap;have keep:∀u,CZ ops oi a (a.put oj.dst u):=λu=>⟨execOp_put oi hsi a oj.dst u h3,wanted_put oi a oj.dst u h3⟩;have put:∀u,(a.put oj.dst u).put oi.dst v=(a.put oi.dst v).put oj.dst u:=λu=>(Act.put_comm a v u h2).symm;unfold Go.wpOp at*;simp only[hj] at*;rw[wanted_put oj a oi.dst v h1] at h;by_cases hw:Region.wanted oj (yielded ops a.tmps)=true
 ·rw[az hw] at h⊢;have lX:execOp (a.put oi.dst v).eval oj=execOp a.eval oj:=execOp_put oj hsj a oi.dst v h1;refine h.imp (λh=>?_) λh=>⟨?_,h.2⟩
  ·unfold Oper.wp at*;rw[lX] at h;generalize (execOp a.eval oj).run P w=r at h⊢;match r,h with
   |.ok (.value u) w',h=>exact⟨keep u,by rw[put];exact h⟩
   |.ok .skip w',h=>exact⟨keep _,by rw[put];exact h⟩
   |.ok (.defer d) w',h=>
    refine⟨by have k:=keep undef;unfold Act.put at*;cases hd:oj.dst<;>rw[hd] at k<;>exact⟨k.1,k.2⟩,?_⟩
    have h':K (({a.put oi.dst v with defers:=d::(a.put oi.dst v).defers}:Act).put oj.dst undef) w':=h;rw[Act.put_defers,Act.put_comm _ v undef h2] at h';exact h'
   |.ok (.enter f args) w',h=>
    refine Calls.mono h λe w'' he=>?_;match e,he with
    |.returned u,he=>exact⟨keep u,by rw[put];exact he⟩
    |.panicked c,he=>exact hQ _ _ _ he
    |.outgrown,he=>exact he
   |.ok (.row row args) w',h=>exact Rows.mono h λu w'' he=>⟨keep u,by rw[put];exact he⟩
   |.halt (.panic u) w',h=>exact hQ _ _ _ h
  ·have:=h.1;unfold Oper.asks at this⊢;rwa [lX] at this
 ·rw[aC hw] at h⊢;exact⟨keep _,by rw[put];exact h⟩
def Down(ops:Array Oper)(listed:Array Bool):Prop:=∀k ok,ops[k]?=some ok->listed.getD k false=true->∀e∈ok.after,Region.binds .any e=true->listed.getD e.on false=true
def vB(ops : Array Oper)(t : Nat -> Nat -> Bool) : Bool := (List.range ops.size).all λj => (List.range ops.size).all λi => !t j i || (match ops[j]? with
 |some oj=>oj.after.any λe=>Region.binds .any e && (e.on==i||(decide (e.on<j) && t e.on i))
 |none=>false)
def KM{t:Nat->Nat->Bool}(j0:vB ops t=true){listed:Array Bool}(hd:Down ops listed){i:Nat}(hi:listed.getD i false=false):∀(n j:Nat),j<n->j<ops.size->i<ops.size->(∀oj,ops[j]?=some oj->∀e∈oj.after,Region.binds .any e=true->listed.getD e.on false=true)->t j i=false
 |0,j,hj,_,_,_=>by omega
 |n+1,j,hj,Eg,Qm,hall=>by
  cases ht:t j i with
  |false=>rfl
  |true=>
   exfalso;have hc:=j0;simp only[vB,oV,nN] at hc;have h1:=hc j Eg i Qm;rw[ht] at h1;simp only[Bool.not_true,Bool.false_or] at h1;split at h1
   ·rename_i oj gw;obtain⟨e,he,hb⟩:=Array.any_eq_true'.1 h1;simp only[aq,sW,ew,bn] at hb;have hl:=hall oj gw e he hb.1;rcases hb.2 with h2|⟨h2,h3⟩;·rw[h2,hi] at hl;cases hl
    ·have:=KM j0 hd hi n e.on (by omega) (by omega) Qm (λoe hoe e' he' hb'=>hd e.on oe hoe hl e' he' hb');rw[this] at h3;cases h3
   ·cases h1
def Down.set{listed:Array Bool}(h:Down ops listed){j:Nat}{oj:Oper}(hj:ops[j]?=some oj)(hall:∀e∈oj.after,Region.binds .any e=true->listed.getD e.on false=true):Down ops (listed.setIfInBounds j true):=by
 intro k ok hk hl e he hb;by_cases hjk:j=k
 ·subst hjk;rw[hj] at hk;injection hk with hk
  subst hk;exact getD_set_true (hall e he hb)
 ·rw[getD_set_ne false hjk] at hl;exact getD_set_true (h k ok hk hl e he hb)
def wpAnyQ_first{quiet:Nat->Bool}{i:Nat}{oi:Oper}{v:Value}(hi:ops[i]?=some oi)(hsel:∀(j:Nat) (o:Oper) cs b,ops[j]?=some o->o.op≠.select cs b)(hQ:∀c a w,Q (.panic c) (a.put oi.dst v) w->Q (.panic c) a w){t:Nat->Nat->Bool}(iq:vB ops t=true):
  ∀(fuel:Nat) (listed:Array Bool) (a:Act) (w:World),
   Down ops listed->(∀j oj,ops[j]?=some oj->j≠i->listed.getD j true=false->t j i=false->oi.apart ops oj=true/\quiet j=true)->
   i∈Region.ready .any ops listed->nU P ops oi v a w->
   wpAnyQ P ops quiet Q fuel (listed.setIfInBounds i true) (a.put oi.dst v) w->wpAnyQ P ops quiet Q (fuel+1) listed a w:=by
 intro fuel;induction fuel with
 |zero=>
  intro listed a w _ _ hr hy H;refine⟨λh=>(by rw[h] at hr;cases hr),λj hj=>?_⟩;by_cases hji:j=i;·subst hji;exact hy.wpOp hi ⟨Rel.refl _ _,H⟩
  ·have:=ready_mono hj hji;rw[H.1] at this;cases this
 |succ fuel ih=>
  intro listed a w zM hfree hr hy H;refine⟨λh=>(by rw[h] at hr;cases hr),λj hj=>?_⟩;by_cases hji:j=i;·subst hji;exact hy.wpOp hi ⟨Rel.refl _ _,H⟩
  ·have h1:=H.2 j (ready_mono hj hji);obtain⟨zT,oj,gw,hall⟩:=mem_ready.1 hj
   have hi0:listed.getD i false=false:=by
    have h0:=(mem_ready.1 hr).1;rcases gW i listed.size with h'|h';·simpa [h'] using h0
    ·simp[lP h']
   have hnot:t j i=false:=KM iq zM hi0 (j+1) j (by omega) (gG.1 gw).1 (gG.1 hi).1 (λoj' pR e he hb=>by
    rw[gw] at pR;injection pR with pR
    rw[<-pR] at he;exact hall e he hb)
   obtain⟨hap,hqu⟩:=hfree j oj gw hji zT hnot;have h2:=Tm gw hap (λcs b=>hsel i oi cs b hi) (λcs b=>hsel j oj cs b gw) hQ h1
   have Jr:∀k ok,ops[k]?=some ok->k≠i->(listed.setIfInBounds j true).getD k true=false->
     t k i=false->oi.apart ops ok=true/\quiet k=true:=λk ok hk hki hun hno=>by
    refine hfree k ok hk hki ?_ hno;by_cases hjk:j=k;·subst hjk;exact zT
    ·rw[getD_set_ne true hjk] at hun;exact hun
   refine wpOp_mono (λa' w' ⟨hsame,hrel,h3⟩=>⟨hrel,ih (listed.setIfInBounds j true) a' w' (zM.set gw hall) Jr (ready_mono hr (yp hji)) (hy.same hsame (hrel hqu)) ?_⟩) h2;rw[TA _ _ hji];exact h3
def ah0{quiet:Nat->Bool}{i:Nat}{oi:Oper}{v:Value}(hi:ops[i]?=some oi)(hsel:∀(j:Nat) (o:Oper) cs b,ops[j]?=some o->o.op≠.select cs b)(hQ:∀c a w,Q (.panic c) (a.put oi.dst v) w->Q (.panic c) a w){t:Nat->Nat->Bool}(iq:vB ops t=true):
  ∀(fuel:Nat) (listed:Array Bool) (a:Act) (w:World),
   Down ops listed->(∀j oj,ops[j]?=some oj->j≠i->listed.getD j true=false->t j i=false->oi.apart ops oj=true)->
   i∈Region.ready .any ops listed->qO P ops oi v a->
   wpAnyQ P ops quiet Q fuel (listed.setIfInBounds i true) (a.put oi.dst v) w->wpAnyQ P ops quiet Q (fuel+1) listed a w:=by
 intro fuel;induction fuel with
 |zero=>
  intro listed a w _ _ hr hy H;refine⟨λh=>(by rw[h] at hr;cases hr),λj hj=>?_⟩;by_cases hji:j=i;·subst hji;exact(hy.later w).wpOp hi ⟨Rel.refl _ _,H⟩
  ·have:=ready_mono hj hji;rw[H.1] at this;cases this
 |succ fuel ih=>
  intro listed a w zM hfree hr hy H;refine⟨λh=>(by rw[h] at hr;cases hr),λj hj=>?_⟩;by_cases hji:j=i;·subst hji;exact(hy.later w).wpOp hi ⟨Rel.refl _ _,H⟩
  ·have h1:=H.2 j (ready_mono hj hji);obtain⟨zT,oj,gw,hall⟩:=mem_ready.1 hj
   have hi0:listed.getD i false=false:=by
    have h0:=(mem_ready.1 hr).1;rcases gW i listed.size with h'|h';·simpa [h'] using h0
    ·simp[lP h']
   have hnot:t j i=false:=KM iq zM hi0 (j+1) j (by omega) (gG.1 gw).1 (gG.1 hi).1 (λoj' pR e he hb=>by
    rw[gw] at pR;injection pR with pR
    rw[<-pR] at he;exact hall e he hb)
   have hap:=hfree j oj gw hji zT hnot;have h2:=Tm gw hap (λcs b=>hsel i oi cs b hi) (λcs b=>hsel j oj cs b gw) hQ h1
   have Jr:∀k ok,ops[k]?=some ok->k≠i->(listed.setIfInBounds j true).getD k true=false->
     t k i=false->oi.apart ops ok=true:=λk ok hk hki hun hno=>by
    refine hfree k ok hk hki ?_ hno;by_cases hjk:j=k;·subst hjk;exact zT
    ·rw[getD_set_ne true hjk] at hun;exact hun
   refine wpOp_mono (λa' w' ⟨hsame,hrel,h3⟩=>⟨hrel,ih (listed.setIfInBounds j true) a' w' (zM.set gw hall) Jr (ready_mono hr (yp hji)) (hy.same hsame) ?_⟩) h2;rw[TA _ _ hji];exact h3
end
end M
namespace M
open Go Go.RowKit
variable [Bs]
def lK(P:Program)(t:TypeId):Option TypeId:=match P.underlying t with
 |some (.slice e)=>some e
 |_=>none
def isStr(P:Program)(t:TypeId):Bool:=match P.underlying t with
 |some .string=>true
 |_=>false
def J5(P:Program)(t:TypeId):Bool:=match P.underlying t with
 |some .bool=>true
 |_=>false
def isInt(P:Program)(t:TypeId)(k:IntKind):Bool:=match P.underlying t with
 |some (.int k')=>decide (k'=k)
 |_=>false
def ld(P:Program)(t:TypeId)(n:Nat):Bool:=match P.info? t with
 |some i=>decide (i.size=n)
 |none=>false
def Vl:TypeDesc->Bool
 |.struct _=>true
 |.array _ _=>true
 |_=>false
def tU(P:Program)(t:TypeId)(b:Bool):Bool:=match P.underlying t with
 |some d=>Vl d==b
 |none=>false
section
variable {P:Program}{t:TypeId}
def nJ{e:TypeId}(h:lK P t=some e):P.underlying t=some (.slice e):=by
 unfold lK at h;split at h;·rename_i e' he;injection h with h;subst h;exact he
 ·cases h
def AE(h:isStr P t=true):P.underlying t=some .string:=by
 unfold isStr at h;split at h;·assumption
 ·cases h
def abK(h:J5 P t=true):P.underlying t=some .bool:=by
 unfold J5 at h;split at h;·assumption
 ·cases h
def J6{k:IntKind}(h:isInt P t k=true):P.underlying t=some (.int k):=by
 unfold isInt at h;split at h;·rename_i k' hk;rw[hk,yu h]
 ·cases h
def rH{n:Nat}(h:ld P t n=true):∃i,P.info? t=some i/\i.size=n:=by
 unfold ld at h;split at h;·rename_i i hi;exact⟨i,hi,yu h⟩
 ·cases h
def AD{b:Bool}(h:tU P t b=true):∃dd,P.underlying t=some dd/\(match dd with|.struct _=>true|.array _ _=>true|_=>false)=b:=by
 unfold tU at h;split at h;·rename_i d hd;refine⟨d,hd,?_⟩;rw[ew] at h;rw[<-h];cases d<;>rfl
 ·cases h
end
def dA(nt:Nat)(o:Oper)(d:Nat):Bool:=(match o.dst with|some d'=>d'==d|none=>false) && decide (d<nt)
def dL{nt:Nat}{o:Oper}{d:Nat}(h:dA nt o d=true):o.dst=some d/\d<nt:=by
 simp only[dA,aq,bn] at h;refine⟨?_,h.2⟩;have:=h.1;split at this;·rename_i d' hd;rw[hd];simpa using this
 ·cases this
def wT:cA->Bool
 |.mv _ _|.pick _ _ _ _|.un _ _ _|.bin _ _ _ _|.beq _ _ _ _|.tc _ _ _ _ _|.rZ _ _ _|.conv _ _ _|.text _ _|.load _ _ _ _|.gL _ _|.pG _ _ _|.tG _ _ _ _ _|.iH _ _ _ _|.dy _ _ _|.td _ _ _ _ _ _
 |.ext _ _ _|.gb _ _ _ _|.oE _ _ _ _ _|.qg _ _ _|.len _ _|.sK _ _|.mn _ _|.mx _ _|.p8 _ _ _ _ _=>true
 |_=>false
def si:cA->Bool
 |.aZ _ _ _|.box _ _ _|.new _ _|.make _ _ _ _ _|.bytes _ _|.lit _ _ _ _|.build _ _ _ _=>true
 |.call _ _ as=>jo as
 |.nV _ _ as=>jo as
 |x=>wT x
def Dq(P:Program)(nt:Nat)(o:Oper):cA->Bool
 |.mv d x=>dA nt o d && (match o.op with|.move x'=>aI x' x|.assign x'=>aI x' x|_=>false)
 |.pick d c a b=>dA nt o d && (match o.op with|.pick c' a' b'=>aI c' c && aI a' a && aI b' b|_=>false)
 |.un d op x=>dA nt o d && (match o.op with|.unOp op' _ x'=>decide (op'=op) && aI x' x|_=>false)
 |.bin d op x y=>dA nt o d && (match o.op with|.binOp op' _ x' y' _=>decide (op'=op) && aI x' x && aI y' y|_=>false)
 |.beq d neg x y=>dA nt o d && (match o.op with|.binOp op' ty x' y' _=>decide (op'=bif neg then .neq else .eql) && J5 P ty && aI x' x && aI y' y|_=>false)
 |.rZ d neg x=>dA nt o d && (match o.op with|.binOp op' ty x' (.const (.slice none 0 0)) _=>decide (op'=bif neg then .neq else .eql) && (lK P ty).isSome && aI x' x|_=>false)
 |.tc d neg ks x y=>dA nt o d && (match o.op with|.binOp op' ty x' y' _=>decide (op'=bif neg then .neq else .eql) && IZ P ty ks && aI x' x && aI y' y|_=>false)
 |.conv d k x=>dA nt o d && (match o.op with|.convert src dst x'=>(P.underlying src).isSome && isInt P dst k && aI x' x|_=>false)
 |.text d x=>dA nt o d && (match o.op with|.convert src dst x'=>(match lK P src with|some el=>isInt P el .u8 && isStr P dst && aI x' x|none=>false)|_=>false)
 |.load d sz agg x=>dA nt o d && (match o.op with|.load ty x'=>ld P ty sz && tU P ty agg && (agg||decide (sz=1)) && aI x' x|_=>false)
 |.p8 d fz sz agg x=>dA nt o d && (match o.op with|.load ty x'=>ld P ty sz && tU P ty agg && (agg||decide (sz=1)) && aI x' x|_=>false)
 |.gL d x=>dA nt o d && (match o.op with|.nilCheck x'=>aI x' x|_=>false)
 |.pG d x off=>dA nt o d && (match o.op with|.fieldAddr ty x' fi=>(match P.underlying ty with|some (.struct fs)=>(match fs[fi]? with|some f=>decide (f.offset=off) && !ld P f.type 0 && (P.info? f.type).isSome && aI x' x|none=>false)|_=>false)|_=>false)
 |.tG d x off sz agg=>dA nt o d && (match o.op with|.field ty x' fi=>(match P.underlying ty with|some (.struct fs)=>(match fs[fi]? with|some f=>decide (f.offset=off) && ld P f.type sz && tU P f.type agg && (agg||decide (sz=1)) && aI x' x|none=>false)|_=>false)|_=>false)
 |.iH d sz x y=>dA nt o d && (match o.op with|.indexAddr ty x' y'=>(match lK P ty with|some el=>ld P el sz && decide (0<sz) && aI x' x && aI y' y|none=>false)|_=>false)
 |.dy d x y=>dA nt o d && (match o.op with|.index ty x' y'=>isStr P ty && aI x' x && aI y' y|_=>false)
 |.td d n sz agg x y=>dA nt o d && (match o.op with|.index ty x' y'=>(match P.underlying ty with|some (.array n' el)=>decide (n'=n) && ld P el sz && tU P el agg && (agg||decide (sz=1)) && aI x' x && aI y' y|_=>false)|_=>false)
 |.ext d x i=>dA nt o d && (match o.op with|.extract x' i'=>i'==i && aI x' x|_=>false)
 |.gb d x lo hi=>dA nt o d && (match o.op with|.slice ty x' lo' hi' none=>isStr P ty && aI x' x && mQ lo' lo && mQ hi' hi|_=>false)
 |.oE d sz x lo hi=>dA nt o d && (match o.op with|.slice ty x' lo' hi' none=>(match lK P ty with|some el=>ld P el sz && aI x' x && mQ lo' lo && mQ hi' hi|none=>false)|_=>false)
 |.qg d f cs=>dA nt o d && (match o.op with|.makeFunc (.func f') fs cs'=>f'==f && fs.toList.isEmpty && lS cs'.toList cs|_=>false)
 |.len d x=>dA nt o d && (match o.op with|.call ⟨.builtin .len,as,ts⟩=>(match as.toList,ts.toList with|[x'],[ty]=>(lK P ty).isSome && aI x' x|_,_=>false)|_=>false)
 |.sK d x=>dA nt o d && (match o.op with|.call ⟨.builtin .len,as,ts⟩=>(match as.toList,ts.toList with|[x'],[ty]=>isStr P ty && aI x' x|_,_=>false)|_=>false)
 |.mn d [x,y]=>dA nt o d && (match o.op with|.call ⟨.builtin .min,as,_⟩=>(match as.toList with|[x',y']=>aI x' x && aI y' y|_=>false)|_=>false)
 |.mx d [x,y]=>dA nt o d && (match o.op with|.call ⟨.builtin .max,as,_⟩=>(match as.toList with|[x',y']=>aI x' x && aI y' y|_=>false)|_=>false)
 |_=>false
section
variable {P:Program}{c:Ctx}{G:Nat->C}{zl:Nat->Nat->Prop}{s:ah}{a:Act}{w:World}{o:Oper}{K:ah->Prop}
def PY(op:BinOp)(ty:TypeId)(p q:Operand)(a b:Option Addr)(l m n k:Nat):eqGuard op ty p q (.slice a l m) (.slice b n k)=pure ():=by unfold eqGuard;cases op<;>rfl
def aex{sz len:Nat}{e:Nat->Nat->C}(h:mq (dI sz len e)=true):0<len/\0<sz:=by
 unfold dI at h;cases len with
 |zero=>cases h
 |succ len=>
  cases sz with
  |zero=>rw[CJ] at h;cases h
  |succ sz=>exact⟨Nat.succ_pos _,Nat.succ_pos _⟩
def adW(h:St c G zl s a w){d:Nat}{neg:Bool}{ty ty':TypeId}{e:TypeId}{x:AV}{x':Operand}(ho:o.op=.binOp (bif neg then .neq else .eql) ty x' (.const (.slice none 0 0)) ty')(ht:P.underlying ty=some (.slice e))(hd:o.dst=some d)(hn:d<c.nt)(hx:aI x' x=true)
  (hK:aL P (.rZ d neg x) s K):dK P c o a w K:=by
 obtain⟨p,p1,p2,p3⟩:=cx h hx;simp only[aL] at hK;split at hK
 ·rename_i m z xs h1;rw[<-p1] at h1;obtain⟨A,len,cap,f,rfl,hxs⟩:=zn h1;have hb:mq xs=true->(A.map λq=>(⟨q.1,q.2.1,q.2.2⟩:Addr)).isNone=false:=λhc=>by rw[hxs] at hc;obtain⟨h1,h2⟩:=aex hc;obtain⟨g,o',hA,_⟩:=p3.ok.2.1 0 0 h1 h2;rw[hA];rfl
  have gQ:=hK _ hb;obtain⟨nb,hnb⟩:∃nb,(A.map λq=>(⟨q.1,q.2.1,q.2.2⟩:Addr)).isNone=nb:=⟨_,rfl⟩;rw[hnb] at gQ;have hc:a.eval (.const (.slice none 0 0))=.slice none 0 0:=rfl;refine dQ h hd hn (x:=.bool (xor neg nb)) trivial (λ_ _ _ _ _ _ e=>(by cases e)) trivial (λw' _=>?_) gQ;cases neg;·simp only[execOp,ho,hc,<-p2,C.val,PY,Sem.run_bind,Sem.run_pure,Result.andThen_ok,qK,Lib.run_eql_slice_nil w' ty e _ _ _ _ _ ht,Bool.false_bne,hnb]
  ·simp only[execOp,ho,hc,<-p2,C.val,PY,Sem.run_bind,Sem.run_pure,Result.andThen_ok,lN,run_neq_slice_nil w' ty e _ _ _ ht,Bool.true_bne,hnb]
 ·exact hK.elim
def Fk{b:Bool}{n m:Nat}(h:(b||decide (n=m))=true):b=true\/n=m:=by simpa using h
def x8{α:Type}{xs:Array α}{x:α}(h:xs.toList=[x]):xs= #[x]:=oP h
def G5{α:Type}{xs:Array α}{x y:α}(h:xs.toList=[x,y]):xs= #[x,y]:=oP h
def Iz(h:St c G zl s a w){x:cA}(hc:Dq P c.nt o x=true)(hK:aL P x s K):dK P c o a w K:=by
 unfold Dq at hc;split at hc
 ·simp only[aq] at hc;obtain⟨hd,hn⟩:=dL hc.1;have hc:=hc.2;split at hc;·rename_i ho;exact RE h (.inl ho) hd hn hc hK
  ·rename_i ho;exact RE h (.inr ho) hd hn hc hK
  ·cases hc
 ·simp only[aq] at hc;obtain⟨hd,hn⟩:=dL hc.1;have hc:=hc.2;split at hc;·rename_i ho;simp only[aq] at hc;exact adX h ho hd hn hc.1.1 hc.1.2 hc.2 hK
  ·cases hc
 ·simp only[aq] at hc;obtain⟨hd,hn⟩:=dL hc.1;have hc:=hc.2;split at hc;·rename_i ho;simp only[aq,bn] at hc;obtain⟨rfl,hx⟩:=hc;exact ad4 h ho hd hn hx hK
  ·cases hc
 ·simp only[aq] at hc;obtain⟨hd,hn⟩:=dL hc.1;have hc:=hc.2;split at hc;·rename_i ho;simp only[aq,bn] at hc;obtain⟨⟨rfl,hx⟩,hy⟩:=hc;exact adA h ho hd hn hx hy hK
  ·cases hc
 ·simp only[aq] at hc;obtain⟨hd,hn⟩:=dL hc.1;have hc:=hc.2;split at hc;·rename_i ho;simp only[aq,bn] at hc;obtain⟨⟨⟨rfl,ht⟩,hx⟩,hy⟩:=hc;exact adz h ho (abK ht) hd hn hx hy hK
  ·cases hc
 ·simp only[aq] at hc;obtain⟨hd,hn⟩:=dL hc.1;have hc:=hc.2;split at hc;·rename_i ho;simp only[aq,bn] at hc;obtain⟨⟨rfl,ht⟩,hx⟩:=hc;obtain⟨el,ht⟩:=yq.1 ht;exact adW h ho (nJ ht) hd hn hx hK
  ·cases hc
 ·simp only[aq] at hc;obtain⟨hd,hn⟩:=dL hc.1;have hc:=hc.2;split at hc;·rename_i ho;simp only[aq,bn] at hc;obtain⟨⟨⟨rfl,ht⟩,hx⟩,hy⟩:=hc;exact adu h ho ht hd hn hx hy hK
  ·cases hc
 ·simp only[aq] at hc;obtain⟨hd,hn⟩:=dL hc.1;have hc:=hc.2;split at hc;·rename_i ho;simp only[aq] at hc;obtain⟨⟨hs,ht⟩,hx⟩:=hc;obtain⟨sd,hs⟩:=yq.1 hs;exact adJ h ho hs (J6 ht) hd hn hx hK
  ·cases hc
 ·simp only[aq] at hc;obtain⟨hd,hn⟩:=dL hc.1;have hc:=hc.2;split at hc
  ·rename_i ho;split at hc;·rename_i el hel;simp only[aq] at hc;exact ad3 h ho (nJ hel) (J6 hc.1.1) (AE hc.1.2) hd hn hc.2 hK
   ·cases hc
  ·cases hc
 ·simp only[aq] at hc;obtain⟨hd,hn⟩:=dL hc.1;have hc:=hc.2;split at hc;·rename_i ho;simp only[aq] at hc;exact RD h ho (rH hc.1.1.1) (AD hc.1.1.2) (Fk hc.1.2) hd hn hc.2 hK
  ·cases hc
 ·simp only[aq] at hc;obtain⟨hd,hn⟩:=dL hc.1;have hc:=hc.2;split at hc;·rename_i ho;simp only[aq] at hc;exact adQ h ho (rH hc.1.1.1) (AD hc.1.1.2) (Fk hc.1.2) hd hn hc.2 hK
  ·cases hc
 ·simp only[aq] at hc;obtain⟨hd,hn⟩:=dL hc.1;have hc:=hc.2;split at hc;·rename_i ho;exact adH h ho hd hn hc hK
  ·cases hc
 ·simp only[aq] at hc;obtain⟨hd,hn⟩:=dL hc.1;have hc:=hc.2;split at hc
  ·rename_i ho;split at hc
   ·rename_i fs hfs;split at hc;·rename_i f hf;simp only[aq,bn,oU] at hc;obtain⟨⟨⟨h1,h2⟩,h3⟩,h4⟩:=hc;obtain⟨i,hi⟩:=yq.1 h3;refine adL h ho hfs hf h1 ⟨i,hi,λh0=>?_⟩ hd hn h4 hK;simp[ld,hi,h0] at h2
    ·cases hc
   ·cases hc
  ·cases hc
 ·simp only[aq] at hc;obtain⟨hd,hn⟩:=dL hc.1;have hc:=hc.2;split at hc
  ·rename_i ho;split at hc
   ·rename_i fs hfs;split at hc;·rename_i f hf;simp only[aq,bn] at hc;obtain⟨⟨⟨⟨h1,h2⟩,h3⟩,h4⟩,h5⟩:=hc;exact adM h ho hfs hf h1 (rH h2) (AD h3) (Fk h4) hd hn h5 hK
    ·cases hc
   ·cases hc
  ·cases hc
 ·simp only[aq] at hc;obtain⟨hd,hn⟩:=dL hc.1;have hc:=hc.2;split at hc
  ·rename_i ho;split at hc;·rename_i el hel;simp only[aq,bn] at hc;obtain⟨⟨⟨h1,h2⟩,h3⟩,h4⟩:=hc;exact adN h ho (nJ hel) (rH h1) h2 hd hn h3 h4 hK
   ·cases hc
  ·cases hc
 ·simp only[aq] at hc;obtain⟨hd,hn⟩:=dL hc.1;have hc:=hc.2;split at hc;·rename_i ho;simp only[aq] at hc;exact adZ h ho (AE hc.1.1) hd hn hc.1.2 hc.2 hK
  ·cases hc
 ·simp only[aq] at hc;obtain⟨hd,hn⟩:=dL hc.1;have hc:=hc.2;split at hc
  ·rename_i ho;split at hc;·rename_i n' el hel;simp only[aq,bn] at hc;obtain⟨⟨⟨⟨⟨rfl,h2⟩,h3⟩,h4⟩,h5⟩,h6⟩:=hc;exact adw h ho hel (rH h2) (AD h3) (Fk h4) hd hn h5 h6 hK
   ·cases hc
  ·cases hc
 ·simp only[aq] at hc;obtain⟨hd,hn⟩:=dL hc.1;have hc:=hc.2;split at hc;·rename_i ho;simp only[aq,ew] at hc;obtain⟨rfl,hx⟩:=hc;exact adK h ho hd hn hx hK
  ·cases hc
 ·simp only[aq] at hc;obtain⟨hd,hn⟩:=dL hc.1;have hc:=hc.2;split at hc;·rename_i ho;simp only[aq] at hc;obtain⟨⟨⟨h1,h2⟩,h3⟩,h4⟩:=hc;exact ad1 h ho (AE h1) hd hn h2 h3 h4 hK
  ·cases hc
 ·simp only[aq] at hc;obtain⟨hd,hn⟩:=dL hc.1;have hc:=hc.2;split at hc
  ·rename_i ho;split at hc;·rename_i el hel;simp only[aq] at hc;obtain⟨⟨⟨h1,h2⟩,h3⟩,h4⟩:=hc;exact adY h ho (nJ hel) (rH h1) hd hn h2 h3 h4 hK
   ·cases hc
  ·cases hc
 ·simp only[aq] at hc;obtain⟨hd,hn⟩:=dL hc.1;have hc:=hc.2;split at hc;·rename_i fs cs' ho;simp only[aq,ew] at hc;obtain⟨⟨rfl,h2⟩,h3⟩:=hc;have hfs:fs= #[]:=oP (List.isEmpty_iff.1 h2);subst hfs;exact adS h ho hd hn h3 hK
  ·cases hc
 ·simp only[aq] at hc;obtain⟨hd,hn⟩:=dL hc.1;have hc:=hc.2;split at hc
  ·rename_i as ts ho;split at hc;·rename_i x' ty has hts;simp only[aq] at hc;obtain⟨el,hel⟩:=yq.1 hc.1;rw[x8 has,x8 hts] at ho;exact adO h ho (nJ hel) hd hn hc.2 hK
   ·cases hc
  ·cases hc
 ·simp only[aq] at hc;obtain⟨hd,hn⟩:=dL hc.1;have hc:=hc.2;split at hc
  ·rename_i as ts ho;split at hc;·rename_i x' ty has hts;simp only[aq] at hc;rw[x8 has,x8 hts] at ho;exact ad0 h ho (AE hc.1) hd hn hc.2 hK
   ·cases hc
  ·cases hc
 ·simp only[aq] at hc;obtain⟨hd,hn⟩:=dL hc.1;have hc:=hc.2;split at hc
  ·rename_i as ts ho;split at hc;·rename_i x' y' has;simp only[aq] at hc;rw[G5 has] at ho;exact adT h ho hd hn hc.1 hc.2 hK
   ·cases hc
  ·cases hc
 ·simp only[aq] at hc;obtain⟨hd,hn⟩:=dL hc.1;have hc:=hc.2;split at hc
  ·rename_i as ts ho;split at hc;·rename_i x' y' has;simp only[aq] at hc;rw[G5 has] at ho;exact adU h ho hd hn hc.1 hc.2 hK
   ·cases hc
  ·cases hc
 ·cases hc
end
end M
namespace M
open Go Go.RowKit
variable [Bs]
def Step(P:Program)(c:Ctx)(o:Oper)(a:Act)(w:World)(K:ah->Prop)(q:Bool):Prop:=
 (∃v w',((execOp a.eval o).run P w=.ok (.value v) w'\/((execOp a.eval o).run P w=.ok .skip w'/\v=undef))/\Rel q w w'/\∃G' aD s',K s'/\St c G' aD s' (a.put o.dst v) w')\/qP P c o a w K q
section
variable {P:Program}{c:Ctx}{G:Nat->C}{zl:Nat->Nat->Prop}{s:ah}{a:Act}{w:World}{o:Oper}{K:ah->Prop}
def Good.step(h:Good P c o a w K):Step P c o a w K false:=by obtain⟨v,w',hr,h⟩:=h;exact .inl ⟨v,w',hr,λhq=>by (cases hq),h⟩
def jQ.step(h:jQ P c o a w K)(q:Bool):Step P c o a w K q:=by obtain⟨v,w',hr,hE,h⟩:=h;exact .inl ⟨v,w',.inl hr,λ_=>hE,h⟩
def Step.wp{q:Bool}(h:Step P c o a w K q)(Q:Exit->Act->World->Prop):o.wp P a w (λa' w'=>Rel q w w'/\∃G' aD s',K s'/\St c G' aD s' a' w') Q:=by
 unfold Oper.wp;rcases h with ⟨v,w',hr,hq,h⟩|⟨f,args,hr,hc⟩
 ·rcases hr with hr|⟨hr,rfl⟩;·rw[hr];exact⟨hq,h⟩
  ·rw[hr];exact⟨hq,h⟩
 ·rw[hr];refine Calls.mono hc λe w' he=>?_;obtain⟨v,rfl,hq,h⟩:=he;exact⟨hq,h⟩
def M9(P:Program)(t:TypeId)(sz bytes:Nat)(z:List X):Bool:=match P.info? t with
 |some i=>decide (i.size=sz) && decide (i.bytes=bytes) && (match i.zero with|some v=>mR v.cells.toList z|none=>false)
 |none=>false
def ais{t:TypeId}{sz bytes:Nat}{z:List X}(h:M9 P t sz bytes z=true):∃i v,P.info? t=some i/\i.size=sz/\i.bytes=bytes/\i.zero=some v/\mR v.cells.toList z=true:=by
 unfold M9 at h;split at h
 ·rename_i i hi;simp only[aq,bn] at h;obtain⟨⟨h1,h2⟩,h3⟩:=h;split at h3;·rename_i v hv;exact⟨i,v,hi,h1,h2,hv,h3⟩
  ·cases h3
 ·cases h
def Nc(P:Program)(t:TypeId)(sz bytes:Nat):Bool:=match P.info? t with
 |some i=>decide (i.size=sz) && decide (i.bytes=bytes) && (match i.zero with|some v=>decide (v.cells.size=sz)|none=>false)
 |none=>false
def aiv{t:TypeId}{sz bytes:Nat}(h:Nc P t sz bytes=true):∃i v,P.info? t=some i/\i.size=sz/\i.bytes=bytes/\i.zero=some v/\v.cells.size=sz:=by
 unfold Nc at h;split at h
 ·rename_i i hi;simp only[aq,bn] at h;obtain⟨⟨h1,h2⟩,h3⟩:=h;split at h3;·rename_i v hv;exact⟨i,v,hi,h1,h2,hv,yu h3⟩
  ·cases h3
 ·cases h
def Na(P:Program)(t:TypeId)(sz:Nat):Bool:=match P.info? t with
 |some i=>decide (i.size=sz) && (match i.zero with|some v=>decide (v.cells.size=sz)|none=>false)
 |none=>false
def aiu{t:TypeId}{sz:Nat}(h:Na P t sz=true):∃i v,P.info? t=some i/\i.size=sz/\i.zero=some v/\v.cells.size=sz:=by
 unfold Na at h;split at h
 ·rename_i i hi;simp only[aq,bn] at h;obtain⟨h1,h3⟩:=h;split at h3;·rename_i v hv;exact⟨i,v,hi,h1,hv,yu h3⟩
  ·cases h3
 ·cases h
def CU(P:Program)(t:TypeId)(z:List X):Bool:=match P.info? t with
 |some i=>(match i.zero with|some v=>mR v.cells.toList z|none=>false)
 |none=>false
def Nb{t:TypeId}{z:List X}(h:CU P t z=true):∃i v,P.info? t=some i/\i.zero=some v/\mR v.cells.toList z=true:=by
 unfold CU at h;split at h
 ·rename_i i hi;split at h;·rename_i v hv;exact⟨i,v,hi,hv,h⟩
  ·cases h
 ·cases h
def placesOf(P:Program)(t:TypeId):Option (List (Nat×Nat)):=match P.underlying t with
 |some (.struct fs)=>fs.toList.mapM λf=>(P.info? f.type).map λi=>(f.offset,i.size)
 |some (.array n e)=>(P.info? e).map λi=>(List.range n).map λk=>(k*i.size,i.size)
 |_=>none
def Pd{p q:Nat->Option (Nat×Nat)}(h:∀i r,p i=some r->q i=some r):∀(parts:List (Nat×Value)) (cells r:Array Value),Instr.fill p cells parts=some r->Instr.fill q cells parts=some r
 |[],cells,r,hf=>hf
 |(i,v)::rest,cells,r,hf=>by
  unfold Instr.fill at hf⊢;cases hp:p i with
  |none=>rw[hp] at hf;cases hf
  |some pr=>
   rw[hp] at hf;rw[h i pr hp];obtain⟨off,size⟩:=pr;simp only at hf⊢;split at hf;·cases hf
   ·rename_i hc;rw[aC hc];exact Pd h rest _ r hf
def ad8{t:TypeId}{places:List (Nat×Nat)}(hp:placesOf P t=some places){i:TypeInfo}(hi:P.info? t=some i){v:Value}(hz:i.zero=some v):∀parts cells,Instr.fill (λi=>places[i]?) v.cells parts=some cells->P.built t parts=some cells:=by
 intro parts cells hf;unfold placesOf at hp;unfold Program.built;rw[hi];split at hp;·rename_i fs hfs;rw[hfs];simp only[hz,hp];simpa using hf
 ·rename_i n e he;rw[he];cases hie:P.info? e with
  |none=>rw[hie] at hp;cases hp
  |some ie=>
   rw[hie] at hp;simp only[cv,dF] at hp;simp only[hz,hie];refine Pd (λk r hk=>?_) _ _ _ hf;rw[<-hp,C.cZ] at hk;split at hk;·exact hk
   ·cases hk
 ·cases hp
def zg(nt:Nat)(o:Oper)(d:Option Nat):Bool:=match o.dst,d with
 |some d',some d=>d'==d && decide (d<nt)
 |none,none=>true
 |_,_=>false
def IJ{nt:Nat}{d:Option Nat}(h:zg nt o d=true):o.dst=d/\∀n,o.dst=some n->n<nt:=by
 unfold zg at h;split at h;·rename_i d' d hd;simp only[aq,ew,bn] at h;rw[hd,h.1];exact⟨rfl,λn hn=>by injection hn with hn;rw[<-hn];exact h.2⟩
 ·rename_i hd;rw[hd];exact⟨rfl,λn hn=>by cases hn⟩
 ·cases h
def IA(P:Program)(nt:Nat)(o:Oper):cA->Bool
 |.aZ d h x=>dA nt o d && (match o.op with|.assign x'=>aI x' x|_=>false)
 |.box d h x=>dA nt o d && (match o.op with|.box _ x'=>aI x' x|_=>false)
 |.new d z=>dA nt o d && (match o.op with|.alloc ty=>CU P ty z|_=>false)
 |.make d sz bytes z n=>dA nt o d && (match o.op with|.makeSlice ty n1 n2=>(match lK P ty with|some el=>M9 P el sz bytes z && decide (0<bytes) && decide (0<sz) && decide (z.length=sz) && aI n1 n && aI n2 n|none=>false)|_=>false)
 |.bytes d x=>dA nt o d && (match o.op with|.convert src dst x'=>(match lK P dst with|some el=>isInt P el .u8 && isStr P src && aI x' x|none=>false)|_=>false)
 |.lit d h sz ps=>dA nt o d && (match o.op with|.buildSlice ty n ps'=>(match lK P ty with|some el=>Na P el sz && decide (0<sz) && decide (ps'.toList.length=n) && decide (n*sz<=16777216) && y8 0 ps'.toList ps|none=>false)|_=>false)
 |.build d h z ps=>dA nt o d && (match o.op with|.build ty ps'=>(match placesOf P ty with|some places=>CU P ty z && tA places z.length ps'.toList ps|none=>false)|_=>false)
 |.store sz h y x=>(match o.dst with|none=>true|some _=>false) && (match o.op with|.store ty y' x'=>ld P ty sz && decide (0<sz) && aI x' x && aI y' y|_=>false)
 |.app d h sz bytes x y=>dA nt o d && (match o.op with|.call ⟨.builtin .append,as,ts⟩=>(match as.toList,ts.toList with|[x',y'],[ty,ty']=>(match lK P ty,lK P ty' with|some el,some _=>Nc P el sz bytes && decide (0<bytes) && decide (0<sz) && aI x' x && aI y' y|_,_=>false)|_,_=>false)|_=>false)
 |.call d f as=>zg nt o d && (match o.op with|.call ⟨.value (.func f'),as',_⟩=>f'==f && aA P f && gM as'.toList as|_=>false)
 |.nV d x as=>zg nt o d && (match o.op with|.call ⟨.value x',as',_⟩=>aI x' x && gM as'.toList as|_=>false)
 |.vC sz z x=>(match o.dst with|none=>true|some _=>false) && (match o.op with|.call ⟨.builtin .clear,as,ts⟩=>(match as.toList,ts.toList with|[x'],[ty]=>(match lK P ty with|some el=>CU P el z && decide (z.length=sz) && decide (0<sz) && aI x' x|_=>false)|_,_=>false)|_=>false)
 |.qW d f x as=>zg nt o d && (match o.op with|.call ⟨.value (.func f'),as',_⟩=>f'==f && aA P f && (match as'.toList with|x'::l'=>aI x' x && gM l' as && jo as|[]=>false)|_=>false)
 |_=>false
def W5(h:St c G zl s a w){x:cA}(hc:IA P c.nt o x=true)(hK:aL P x s K):Step P c o a w K (si x):=by
 unfold IA at hc;split at hc
 ·simp only[aq] at hc;obtain⟨hd,hn⟩:=dL hc.1;have hc:=hc.2;split at hc;·rename_i ho;exact(ady h ho hd hn hc hK).step _
  ·cases hc
 ·simp only[aq] at hc;obtain⟨hd,hn⟩:=dL hc.1;have hc:=hc.2;split at hc;·rename_i ho;exact(adB h ho hd hn hc hK).step _
  ·cases hc
 ·simp only[aq] at hc;obtain⟨hd,hn⟩:=dL hc.1;have hc:=hc.2;split at hc;·rename_i ho;obtain⟨i,v,h1,h2,h3⟩:=Nb hc;exact(adV h ho h1 h2 h3 hd hn hK).step _
  ·cases hc
 ·simp only[aq] at hc;obtain⟨hd,hn⟩:=dL hc.1;have hc:=hc.2;split at hc
  ·rename_i ho;split at hc;·rename_i el hel;simp only[aq,bn] at hc;obtain⟨⟨⟨⟨⟨h1,h2⟩,h3⟩,h4⟩,h5⟩,h6⟩:=hc;obtain⟨i,v,i1,i2,i3,i4,i5⟩:=ais h1;exact(adR h ho (nJ hel) i1 i4 i2 i3 h2 h3 h4 i5 hd hn h5 h6 hK).step _
   ·cases hc
  ·cases hc
 ·simp only[aq] at hc;obtain⟨hd,hn⟩:=dL hc.1;have hc:=hc.2;split at hc
  ·rename_i ho;split at hc;·rename_i el hel;simp only[aq] at hc;exact(adD h ho (AE hc.1.2) (nJ hel) (J6 hc.1.1) hd hn hc.2 hK).step _
   ·cases hc
  ·cases hc
 ·simp only[aq] at hc;obtain⟨hd,hn⟩:=dL hc.1;have hc:=hc.2;split at hc
  ·rename_i ho;split at hc;·rename_i el hel;simp only[aq,bn] at hc;obtain⟨⟨⟨⟨h1,h2⟩,h3⟩,h4⟩,h5⟩:=hc;obtain⟨i,v,i1,i2,i3,i4⟩:=aiu h1;exact(adP h ho (nJ hel) i1 i3 i2 h2 i4 h3 h4 hd hn h5 hK).step _
   ·cases hc
  ·cases hc
 ·simp only[aq] at hc;obtain⟨hd,hn⟩:=dL hc.1;have hc:=hc.2;split at hc
  ·rename_i ho;split at hc;·rename_i places hp;simp only[aq] at hc;obtain⟨i,v,i1,i2,i3⟩:=Nb hc.1;exact(adC (i:=i) h ho (ad8 hp i1 i2) i3 hd hn hc.2 hK).step _
   ·cases hc
  ·cases hc
 ·simp only[aq] at hc;obtain⟨hd,hc⟩:=hc
  have hd:o.dst=none:=by
   split at hd;·assumption
   ·cases hd
  split at hc;·rename_i ho;simp only[aq,bn] at hc;obtain⟨⟨⟨h1,h2⟩,h3⟩,h4⟩:=hc;exact(ad2 h ho (rH h1) h2 hd h3 h4 hK).step
  ·cases hc
 ·simp only[aq] at hc;obtain⟨hd,hn⟩:=dL hc.1;have hc:=hc.2;split at hc
  ·rename_i as ts ho;split at hc
   ·rename_i x' y' ty ty' has hts;split at hc;·rename_i el Dz hel aaR;simp only[aq,bn] at hc;obtain⟨⟨⟨⟨h1,h2⟩,h3⟩,h4⟩,h5⟩:=hc;obtain⟨i,v,i1,i2,i3,i4,i5⟩:=aiv h1;rw[G5 has,G5 hts] at ho;exact(adx h ho (nJ hel) (nJ aaR) i1 i4 i2 i3 h2 h3 i5 hd hn h4 h5 hK).step
    ·cases hc
   ·cases hc
  ·cases hc
 ·simp only[aq] at hc;obtain⟨hd,hc⟩:=hc;obtain⟨hd,hn⟩:=IJ hd;subst hd;split at hc;·rename_i f' as' ts ho;simp only[aq,ew] at hc;obtain⟨⟨rfl,h2⟩,h3⟩:=hc;obtain⟨fn,f1,f2,f3⟩:=I0 h2;exact .inr (adE h ho f1 f2 f3 hn h3 hK)
  ·cases hc
 ·simp only[aq] at hc;obtain⟨hd,hc⟩:=hc;obtain⟨hd,hn⟩:=IJ hd;subst hd;split at hc;·rename_i x' as' ts ho;simp only[aq] at hc;exact .inr (adG h ho hc.1 hn hc.2 hK)
  ·cases hc
 ·simp only[aq] at hc;obtain⟨hd,hc⟩:=hc
  have hd:o.dst=none:=by
   split at hd;·assumption
   ·cases hd
  split at hc
  ·rename_i as ts ho;split at hc
   ·rename_i x' ty has hts;split at hc;·rename_i el hel;simp only[aq,bn] at hc;obtain⟨⟨⟨h1,h2⟩,h3⟩,h4⟩:=hc;obtain⟨i,v,i1,i2,i3⟩:=Nb h1;rw[x8 has,x8 hts] at ho;exact(adI h ho (nJ hel) i1 i2 i3 h2 h3 hd h4 hK).step
    ·cases hc
   ·cases hc
  ·cases hc
 ·simp only[aq] at hc;obtain⟨hd,hc⟩:=hc;obtain⟨hd,hn⟩:=IJ hd;subst hd;split at hc
  ·rename_i f' as' ts ho;simp only[aq,ew] at hc;obtain⟨⟨rfl,h2⟩,h3⟩:=hc;obtain⟨fn,f1,f2,f3⟩:=I0 h2;split at h3;·rename_i x' l' hl;simp only[aq] at h3;exact .inr (adF h ho hl f1 f2 f3 hn h3.1.1 h3.1.2 h3.2 hK)
   ·cases h3
  ·cases hc
 ·cases hc
def yZ(P:Program)(nt:Nat)(o:Oper)(x:cA):Bool:=bif wT x then Dq P nt o x else IA P nt o x
def Oj(h:St c G zl s a w){x:cA}(hc:yZ P c.nt o x=true)(hK:aL P x s K):Step P c o a w K (si x):=by
 unfold yZ at hc;cases hr:wT x with
 |true=>rw[hr] at hc;exact(Iz h hc hK).quiet.step _
 |false=>rw[hr] at hc;exact W5 h hc hK
end
end M
namespace M
open Go Go.RowKit
variable [Bs]
section
variable {P:Program}{c:Ctx}{G:Nat->C}{zl:Nat->Nat->Prop}{s s':ah}{a:Act}{w:World}{K:ah->Prop}{ops:Array Oper}
def St.congr(h:St c G zl s a w)(he:∀t,get s t=get s' t):St c G zl s' a w:=
 {h with inv:={h.inv with er:=λt=>(h.inv.er t).trans (he t)}}
def pq(P:Program)(nt:Nat)(ops:Array Oper)(i:Nat)(g:M.G):Bool:=match ops[i]? with
 |some o=>(match o.guard,g.g with
  |none,none=>true
  |some (j,b),some (t,b')=>b==b' && decide (t<base) && (match ops[j]? with|some oj=>decide (oj.dst=some t)|none=>false)
  |_,_=>false) && decide (o.dst=g.o.dst) && (match g.o.dst with|some d=>decide (d<nt)|none=>true) && yZ P nt o g.o
 |none=>false
def vk(c:Ctx)(K:ah->Prop)(a:Act)(w:World):Prop:=∃G zl s,K s/\St c G zl s a w
def Tt(h:St c G zl s a w){t j:Nat}{v:Bool}(hv:get s t=.bool v)(ht:t<base){oj:Oper}(hj:ops[j]?=some oj)(hd:oj.dst=some t):yielded ops a.tmps j=some v:=by
 have hG:=h.inv.er t;rw[hv] at hG;have hc:=ru hG;have:=h.val t ht;rw[hc,C.val] at this;unfold yielded;simp only[hj,jK,hd];rw[va] at this;cases ht:a.tmps[t]? with
 |none=>rw[ht] at this;simp[undef] at this
 |some u=>rw[ht] at this;simp only[sS] at this;rw[<-this]
def St.He(h:St c G zl s a w)(d:Option Nat)(hn:∀n,d=some n->n<c.nt):∃G',St c G' zl (fP d (.ak []) s) (a.put d undef) w:=by
 cases d with
 |none=>exact⟨G,h⟩
 |some n=>exact h.put (x:=.ak 0 λ_=>.dead undef) (hn n rfl) ⟨λj hj=>(by omega),λj hj=>(by omega)⟩ (λ_ _ b k ⟨j,hj,_⟩=>(by omega)) (λb k ⟨j,hj,_⟩=>(by omega)) (λj hj=>(by omega)) (λb k ⟨j,hj,_⟩=>(by omega))
def D6{t:Nat}{v:Bool}(hv:get s t=.bool v):∀u,get s u=get ((t,.bool v)::s) u:=λu=>by
 rw[vQ];split;·rename_i e;subst e;exact hv
 ·rfl
def Tu(h:St c G zl s a w){t j:Nat}(hv:get s t=.ak [])(ht:t<base){oj:Oper}(hj:ops[j]?=some oj)(hd:oj.dst=some t):yielded ops a.tmps j=none:=by
 have hG:=h.inv.er t;rw[hv] at hG;have hval:=h.val t ht
 have:(G t).val=.tuple #[]:=by
  cases hc:G t with
  |ak n f=>rw[hc] at hG;simp only[C.er,X.ak.injEq,List.map_eq_nil_iff,List.range_eq_nil] at hG;subst hG;rfl
  |_=>rw[hc] at hG;simp[C.er] at hG
 rw[this] at hval;unfold yielded;simp only[hj,jK,hd];rw[va] at hval;cases ht:a.tmps[t]? with
 |none=>rfl
 |some u=>rw[ht] at hval;simp only[sS] at hval;rw[<-hval]
def Oh{i:Nat}{g:M.G}(h:St c G zl s a w)(hc:pq P c.nt ops i g=true)(hK:o9 P g s K)(Q:Exit->Act->World->Prop):
  wpOp P ops Q i (λa' w'=>Rel (si g.o) w w'/\vk c K a' w') a w:=by
 unfold pq at hc;split at hc
 ·rename_i o ho;simp only[aq,bn] at hc;obtain⟨⟨⟨hg,hd⟩,hn⟩,hop⟩:=hc;unfold wpOp;simp only[ho];obtain⟨gg,go⟩:=g;split at hg
  ·rename_i h1 h2;subst h2;have hw:Region.wanted o (yielded ops a.tmps)=true:=by simp[Region.wanted,h1]
   rw[az hw];exact .inl ((Oj h hop hK).wp Q)
  ·rename_i j b t b' h1 h2;subst h2;simp only[aq,ew,bn] at hg;obtain⟨⟨rfl,ht⟩,hj⟩:=hg;split at hj
   ·rename_i oj gw;have hj:=yu hj;simp only[o9] at hK;split at hK
    ·rename_i v hv;have hy:=Tt h hv ht gw hj;obtain⟨k1,k2⟩:=hK;have rO:Region.wanted o (yielded ops a.tmps)=(v==b):=by simp only[Region.wanted,h1,hy];cases v<;>cases b<;>rfl
     rw[rO];by_cases om:v=b;·subst om;rw[az (by simp)];exact .inl ((Oj (h.congr (D6 hv)) hop (k1 rfl)).wp Q)
     ·have hnb:v= !b:=by cases v<;>cases b<;>first|rfl|exact absurd rfl om
      rw[aC (by simpa using om)];subst hnb;obtain⟨G',h'⟩:=(h.congr (D6 hv)).He o.dst (λn fW=>by rw[hd] at fW;simp only[fW] at hn;simpa using hn)
      rw[hd] at h'⊢;exact⟨Rel.refl _ _,G',zl,_,k2 rfl,h'⟩
    ·rename_i hv;have hy:=Tu h hv ht gw hj;have rO:Region.wanted o (yielded ops a.tmps)=false:=by simp only[Region.wanted,h1,hy];rfl
     rw[rO,aC (by simp)];obtain⟨G',h'⟩:=h.He o.dst (λn fW=>by rw[hd] at fW;simp only[fW] at hn;simpa using hn)
     rw[hd] at h'⊢;exact⟨Rel.refl _ _,G',zl,_,hK,h'⟩
    ·exact hK.elim
   ·cases hj
  ·cases hg
 ·cases hc
def W4{i:Nat}{g:M.G}(h:St c G zl s a w)(hc:pq P c.nt ops i g=true)(hr:wT g.o=true)(hK:o9 P g s K):
  ∃o v,ops[i]?=some o/\nU P ops o v a w/\vk c K (a.put o.dst v) w:=by
 unfold pq at hc;split at hc
 ·rename_i o ho;simp only[aq,bn] at hc;obtain⟨⟨⟨hg,hd⟩,hn⟩,hop⟩:=hc;obtain⟨gg,go⟩:=g;unfold yZ at hop;simp only at hr hop;rw[hr] at hop;simp only[lN] at hop;refine⟨o,?_⟩;split at hg
  ·rename_i h1 h2;subst h2;have hw:Region.wanted o (yielded ops a.tmps)=true:=by simp[Region.wanted,h1]
   obtain⟨v,hv,G',aD,s',k1,k2⟩:=Iz h hop hK;exact⟨v,ho,.inl ⟨hw,hv⟩,G',aD,s',k1,k2⟩
  ·rename_i j b t b' h1 h2;subst h2;simp only[aq,ew,bn] at hg;obtain⟨⟨rfl,ht⟩,hj⟩:=hg;split at hj
   ·rename_i oj gw;have hj:=yu hj;simp only[o9] at hK;split at hK
    ·rename_i v hv;have hy:=Tt h hv ht gw hj;obtain⟨k1,k2⟩:=hK;have rO:Region.wanted o (yielded ops a.tmps)=(v==b):=by simp only[Region.wanted,h1,hy];cases v<;>cases b<;>rfl
     by_cases om:v=b;·subst om;obtain⟨u,hu,G',aD,s',k3,k4⟩:=Iz (h.congr (D6 hv)) hop (k1 rfl);exact⟨u,ho,.inl ⟨by rw[rO];simp,hu⟩,G',aD,s',k3,k4⟩
     ·have hnb:v= !b:=by cases v<;>cases b<;>first|rfl|exact absurd rfl om
      subst hnb;obtain⟨G',h'⟩:=(h.congr (D6 hv)).He o.dst (λn fW=>by rw[hd] at fW;simp only[fW] at hn;simpa using hn)
      refine⟨undef,ho,.inr ⟨by rw[rO];simp,rfl⟩,G',zl,_,k2 rfl,?_⟩;rw[hd] at h'⊢;exact h'
    ·rename_i hv;have hy:=Tu h hv ht gw hj;have rO:Region.wanted o (yielded ops a.tmps)=false:=by simp only[Region.wanted,h1,hy];rfl
     obtain⟨G',h'⟩:=h.He o.dst (λn fW=>by rw[hd] at fW;simp only[fW] at hn;simpa using hn)
     refine⟨undef,ho,.inr ⟨rO,rfl⟩,G',zl,_,hK,?_⟩;rw[hd] at h'⊢;exact h'
    ·exact hK.elim
   ·cases hj
  ·cases hg
 ·cases hc
def jP(c:Ctx)(Q:Ex->ah->Prop):Exit->Act->World->Prop
 |.normal,a,w=>vk c (Q .normal) a w
 |.exit id,a,w=>vk c (Q (.exit id)) a w
 |.ret,a,w=>vk c (Q .ret) a w
 |_,_,_=>False
def q6(P:Program)(nt:Nat)(ops:Array Oper):Nat->List M.G->Bool
 |k,[]=>decide (k=ops.size)
 |k,g::l=>pq P nt ops k g && q6 P nt ops (k+1) l
def RG{Q:Ex->ah->Prop}:∀(l:List M.G) (k:Nat) {G:Nat->C} {zl:Nat->Nat->Prop} {s:ah} {a:Act} {w:World},q6 P c.nt ops k l=true->St c G zl s a w->kr P l s Q->wpOps P ops (jP c Q) (List.range' k l.length) a w
 |[],k,G,zl,s,a,w,hc,h,hK=>⟨G,zl,s,hK,h⟩
 |g::l,k,G,zl,s,a,w,hc,h,hK=>by simp only[q6,aq] at hc;rw[cG,List.range'_succ,wpOps_cons];refine wpOp_mono (λa' w' ⟨_,G',aD,s',k1,k2⟩=>?_) (Oh h hc.1 hK (jP c Q));exact RG l (k+1) hc.2 k2 k1
def Oi:∀(l:List M.G) (k:Nat),q6 P c.nt ops k l=true->k+l.length=ops.size
 |[],k,h=>by simpa [q6] using h
 |g::l,k,h=>by simp only[q6,aq] at h;have:=Oi l (k+1) h.2;simp only[cG];omega
def aer{Q:Ex->ah->Prop}{l:List M.G}{id:Nat}(hc:q6 P c.nt ops 0 l=true)(h:St c G zl s a w)(hK:kr P l s Q):(Code.region id ops false).wp P (jP c Q) a w:=by refine wp_region ?_;have hl:=Oi l 0 hc;rw[List.range_eq_range',<-hl,mI];exact RG l 0 hc h hK
def PJ(Kc:List Nat)(s:ah)(t:Nat):∀ks:List Nat,get (ks.map λk=>(k,(get s k).only Kc)) t=if ks.contains t then (get s t).only Kc else .dead
 |[]=>rfl
 |k::ks=>by
  simp only[aY,get];by_cases h:k=t;·subst h;simp
  ·have h1:(k==t)=false:=by simpa using h
   have h2:(k::ks).contains t=ks.contains t:=by
    simp only[List.contains_cons];have:(t==k)=false:=by simpa using λe=>h e.symm
    rw[this,Bool.false_or]
   rw[h1,h2,qK];exact PJ Kc s t ks
def St.keep(h:St c G zl s a w)(ks:List Nat):∃G',St c G' zl (M.keep ks s) a w:=by
 let G':Nat->C:=λt=>if ks.contains t then (G t).ax (C.others ks) else .dead (G t).val
 have hin:∀t,ks.contains t=true->G' t=(G t).ax (C.others ks):=λt ht=>az ht;have hout:∀t,ks.contains t=false->G' t=.dead (G t).val:=λt ht=>aC (by rw[ht];simp)
 have hv:∀t,(G' t).val=(G t).val:=λt=>by
  cases ht:ks.contains t with
  |true=>rw[hin t ht,C.jk]
  |false=>rw[hout t ht];rfl
 have cj:∀t b k,(G' t).fp b k->(G t).fp b k:=λt b k hf=>by
  cases ht:ks.contains t with
  |true=>rw[hin t ht,C.cN] at hf;exact hf
  |false=>rw[hout t ht] at hf;exact hf.elim
 refine⟨G',h.move ⟨λt=>?_,λt=>?_,λt u hne b k hf hf'=>h.inv.sep t u hne b k (cj t b k hf) (cj u b k hf'),λt b k hf=>h.inv.fz t b k (cj t b k hf),λt=>?_,h.inv.cC⟩ hv (Ext.refl (λ_ _=>False) w) (λ_ _ hs=>hs.elim) (λt b k hf=>.inl ⟨t,cj t b k hf⟩)⟩
 ·unfold M.keep;rw[PJ];cases ht:ks.contains t with
  |true=>rw[hin t ht,C.Bb,h.inv.er];rfl
  |false=>rw[hout t ht];rfl
 ·cases ht:ks.contains t with
  |true=>rw[hin t ht];exact C.me _ _ (h.inv.ok t)
  |false=>rw[hout t ht];trivial
 ·cases ht:ks.contains t with
  |true=>
   rw[hin t ht];refine C.lJ (C.others ks) (λs' q y hk hs=>?_) _ (C.gB _ _) (C.nC _ _ (h.inv.rf t));have hs':ks.contains s'=true:=by simpa [C.others] using hk
   rw[hin s' hs'];rcases C.self y _ q hs with ⟨z,hz,hs2⟩|hno;·exact .inl ⟨_,hz.off _,C.jj _ q _ _ (h.inv.ok s') hs2⟩
   ·exact .inr hno
  |false=>rw[hout t ht];trivial
def DF:cA->Bool
 |.pG _ _ _=>true
 |_=>false
def XD{ev:Operand->Value}{o:Oper}{ty:TypeId}{fi:Nat}{x':Operand}{fs:Array Field}{f:Field}{i:TypeInfo}(ho:o.op=.fieldAddr ty x' fi)(hu:P.underlying ty=some (.struct fs))(hf:fs[fi]?=some f)(hi:P.info? f.type=some i)(hi0:i.size≠0){v:Value}{w:World}(h:(execOp ev o).run P w=.ok (.value v) w)(w':World):(execOp ev o).run P w'=.ok (.value v) w':=by
 cases hv:ev x' with
 |pointer p=>
  cases p with
  |none=>simp[execOp,ho,hv,Instr.fieldAt,Instr.sureAddr,run_underlying hu,hf] at h
  |some a=>simp[execOp,ho,hv,Instr.fieldAt,Instr.sureAddr,run_underlying hu,hf,fieldPlace,Go.sizeOf,typeInfo,hi,hi0] at h⊢;exact h
 |_=>simp[execOp,ho,hv,Instr.fieldAt,Instr.sureAddr,run_underlying hu,hf] at h
def WZ{i:Nat}{g:M.G}(hc:pq P c.nt ops i g=true)(he:DF g.o=true){o:Oper}{v:Value}(ho:ops[i]?=some o)(hl:nU P ops o v a w):qO P ops o v a:=by
 rcases hl with ⟨h1,h2⟩|h
 ·refine .inl ⟨h1,?_⟩;have h3:=h2 w (Ext.refl _ _);unfold pq at hc;rw[ho] at hc;simp only[aq] at hc;obtain⟨_,hop⟩:=hc;obtain⟨gg,go⟩:=g;cases go<;>simp only[DF] at he<;>try (cases he)
  unfold yZ at hop;simp only[wT,lN] at hop;unfold Dq at hop;simp only[aq] at hop;have hc:=hop.2;split at hc
  ·rename_i hfo;split at hc
   ·rename_i fs hfs;split at hc;·rename_i f hf;simp only[aq,bn,oU] at hc;obtain⟨⟨⟨h5,h6⟩,h7⟩,h8⟩:=hc;obtain⟨i,hi⟩:=yq.1 h7;exact λw'=>XD hfo hfs hf hi (λh0=>by simp[ld,hi,h0] at h6) h3 w'
    ·cases hc
   ·cases hc
  ·cases hc
 ·exact .inr h
def DT.kC:DT->List Nat
 |.nil _=>[]
 |.step i _ _=>[i]
 |.alt a b=>a.kC++b.kC
 |.kp _ t=>t.kC
def DT.quiet:DT->Nat->Bool
 |.nil _,_=>true
 |.step i g t,j=>(if i=j then si g.o else true) && t.quiet j
 |.alt a b,j=>a.quiet j && b.quiet j
 |.kp _ t,j=>t.quiet j
def I3(ops:Array Oper)(q:Nat->Bool)(t:Nat->Nat->Bool)(listed:Array Bool)(e:Bool)(i:Nat):Bool:=match ops[i]? with
 | some oi => (List.range ops.size).all λj => j == i || listed.getD j true || t j i || ((e || q j) && (match ops[j]? with
  |some oj=>oi.apart ops oj
  |none=>true))
 |none=>false
def gu(P:Program)(nt:Nat)(ops:Array Oper)(q:Nat->Bool)(bf:Nat->Nat->Bool):DT->Nat->Array Bool->Bool->Bool
 |.nil _,_,listed,alt=> !alt && decide (Region.ready .any ops listed=[])
 |.step i g t,fuel,listed,alt=>(match fuel with
  |0=>false
  |fuel+1=>pq P nt ops i g && (!q i||si g.o) && (alt||decide (Region.ready .any ops listed=[i])||(wT g.o && (Region.ready .any ops listed).contains i && I3 ops q bf listed (DF g.o) i)) && gu P nt ops q bf t fuel (listed.setIfInBounds i true) false)
 |.alt a b,fuel,listed,alt=>(alt||decide (Region.ready .any ops listed=a.kC++b.kC)) && gu P nt ops q bf a fuel listed true && gu P nt ops q bf b fuel listed true
 |.kp _ t,fuel,listed,alt=>gu P nt ops q bf t fuel listed alt
def PA{q:Nat->Bool}{t:Nat->Nat->Bool}{listed:Array Bool}{i:Nat}{oi:Oper}{e:Bool}(hi:ops[i]?=some oi)(h:I3 ops q t listed e i=true)(j:Nat)(oj:Oper)(hj:ops[j]?=some oj)(hne:j≠i)(hun:listed.getD j true=false)(hno:t j i=false):oi.apart ops oj=true/\(e=true\/q j=true):=by simp only[I3,hi,oV,nN] at h;have h1:=h j (gG.1 hj).1;simp only[hj,sW,ew,hne,false_or,hun,fC,hno,aq] at h1;exact⟨h1.2,h1.1⟩
def uV{q:Nat->Bool}{bf:Nat->Nat->Bool}(iq:vB ops bf=true)(hns:Region.noSelect ops=true){Q:Ex->ah->Prop}:∀(t:DT) (fuel:Nat) (listed:Array Bool) {G:Nat->C} {zl:Nat->Nat->Prop} {s:ah} {a:Act} {w:World},Down ops listed->St c G zl s a w->gZ P t s Q->
  (gu P c.nt ops q bf t fuel listed false=true->wpAnyQ P ops q (jP c Q) fuel listed a w)/\
  ((∀i∈t.kC,i∈Region.ready .any ops listed)->gu P c.nt ops q bf t fuel listed true=true->∃f,fuel=f+1/\∀i∈t.kC,wpOp P ops (jP c Q) i (λa' w'=>Rel (q i) w w'/\wpAnyQ P ops q (jP c Q) f (listed.setIfInBounds i true) a' w') a w)
 |.nil ks,fuel,listed,G,zl,s,a,w,hdn,h,hK=>by
  obtain⟨G',h'⟩:=h.keep ks;constructor
  ·intro hc;simp only[gu,MN,MO,bn] at hc;cases fuel with
   |zero=>exact⟨hc,G',zl,_,hK,h'⟩
   |succ f=>exact⟨λ_=>⟨G',zl,_,hK,h'⟩,by rw[hc];intro i hi;cases hi⟩
  ·intro _ hc;simp[gu] at hc
 |.step i g t,fuel,listed,G,zl,s,a,w,hdn,h,hK=>by
  cases fuel with
  |zero=>exact⟨λhc=>by simp[gu] at hc,λ_ hc=>by simp[gu] at hc⟩
  |succ f=>
   have ni:i∈Region.ready .any ops listed->Down ops (listed.setIfInBounds i true):=λhr=>by obtain⟨_,o,ho,hall⟩:=mem_ready.1 hr;exact hdn.set ho hall
   have one:i∈Region.ready .any ops listed->gu P c.nt ops q bf t f (listed.setIfInBounds i true) false=true->pq P c.nt ops i g=true->(q i=true->si g.o=true)->
     wpOp P ops (jP c Q) i (λa' w'=>Rel (q i) w w'/\wpAnyQ P ops q (jP c Q) f (listed.setIfInBounds i true) a' w') a w:=λvY ht hg hq=>
    wpOp_mono (λa' w' ⟨hr,G',aD,s',k1,k2⟩=>⟨λhqi=>hr (hq hqi),(uV iq hns t f _ (ni vY) k2 k1).1 ht⟩) (Oh h hg hK (jP c Q))
   constructor
   ·intro hc;have hc0:=hc;simp only[gu,aq,sW,bn,fC,false_or] at hc;obtain⟨⟨⟨hg,hq⟩,hr⟩,ht⟩:=hc;have oh:q i=true->si g.o=true:=λhqi=>by rw[hqi] at hq;simpa using hq
    rcases hr with hr|⟨⟨hr,hrd⟩,mZ⟩;·refine⟨λh0=>(by rw[hr] at h0;cases h0),λj hj=>?_⟩;rw[hr,fA] at hj;subst hj;exact one (by rw[hr];exact fA.2 rfl) ht hg oh
    ·obtain⟨o,v,ho,hl,G',aD,s',k1,k2⟩:=W4 h hg hr hK;have vY:i∈Region.ready .any ops listed:=by simpa using hrd
     cases he:DF g.o with
     |true=>exact ah0 ho (Region.noSelect_spec hns) (λ_ _ _ hh=>hh.elim) iq f listed a w hdn (λj oj hj hne hun hno=>(PA ho mZ j oj hj hne hun hno).1) vY (WZ hg he ho hl) ((uV iq hns t f _ (ni vY) k2 k1).1 ht)
     |false=>rw[he] at mZ;exact wpAnyQ_first ho (Region.noSelect_spec hns) (λ_ _ _ hh=>hh.elim) iq f listed a w hdn (λj oj hj hne hun hno=>(PA ho mZ j oj hj hne hun hno).imp id λh=>h.resolve_left (by simp)) vY hl ((uV iq hns t f _ (ni vY) k2 k1).1 ht)
   ·intro Ju hc;have hc0:=hc;simp only[gu,aq,sW,bn,true_or] at hc;obtain⟨⟨⟨hg,hq⟩,_⟩,ht⟩:=hc;have oh:q i=true->si g.o=true:=λhqi=>by rw[hqi] at hq;simpa using hq
    refine⟨f,rfl,λj hj=>?_⟩;rw[DT.kC,fA] at hj;subst hj;exact one (Ju j (fA.2 rfl)) ht hg oh
 |.alt t1 t2,fuel,listed,G,zl,s,a,w,hdn,h,hK=>by
  have both:(∀i∈t1.kC++t2.kC,i∈Region.ready .any ops listed)->gu P c.nt ops q bf t1 fuel listed true=true->gu P c.nt ops q bf t2 fuel listed true=true->∃f,fuel=f+1/\∀i∈t1.kC++t2.kC,wpOp P ops (jP c Q) i (λa' w'=>Rel (q i) w w'/\wpAnyQ P ops q (jP c Q) f (listed.setIfInBounds i true) a' w') a w:=λhh h1 h2=>by
   obtain⟨f,hf,i1⟩:=(uV iq hns t1 fuel listed hdn h hK.1).2 (λi hi=>hh i (Mu _ hi)) h1;obtain⟨f',hf',i2⟩:=(uV iq hns t2 fuel listed hdn h hK.2).2 (λi hi=>hh i (Mv _ hi)) h2;have:f'=f:=by omega
   subst this;exact⟨f',hf,λi hi=>(dX.1 hi).elim (i1 i) (i2 i)⟩
  constructor
  ·intro hc;simp only[gu,aq,sW,bn,fC,false_or] at hc;obtain⟨⟨hr,h1⟩,h2⟩:=hc;obtain⟨f,rfl,hi⟩:=both (λi hi=>by rw[hr];exact hi) h1 h2;refine⟨λh0=>?_,λi hi'=>hi i (by rw[<-hr];exact hi')⟩;exfalso;rw[h0] at hr
   have ne:∀{t:DT},gu P c.nt ops q bf t (f+1) listed true=true->t.kC≠[]:=by
    intro t;induction t with
    |nil=>intro hh;simp[gu] at hh
    |step i g t _=>intro _ hh;cases hh
    |alt a b iI _=>intro hh he;simp only[gu,aq] at hh;rw[DT.kC,TJ] at he;exact iI hh.1.2 he.1
    |kp ks t ih=>exact ih
   have:=(TJ.1 hr.symm).1;exact ne h1 this
  ·intro Ju hc;simp only[gu,aq,sW,bn,true_or,sV] at hc;exact both Ju hc.1 hc.2
 |.kp ks t,fuel,listed,G,zl,s,a,w,hdn,h,hK=>by obtain⟨G',h'⟩:=h.keep ks;exact uV iq hns t fuel listed hdn h' hK
def waits(ops:Array Oper)(j i:Nat):Bool:=((Region.before ops).getD j 0).testBit i
def Iy(P:Program)(nt:Nat)(ops:Array Oper)(t:DT):Bool:=P.follows .mixedOrders && Region.noSelect ops && vB ops (waits ops) && gu P nt ops t.quiet (waits ops) t ops.size (Array.replicate ops.size false) false
def Xk{Q:Ex->ah->Prop}{t:DT}{id:Nat}(hc:Iy P c.nt ops t=true)(h:St c G zl s a w)(hK:gZ P t s Q):(Code.region id ops true).wp P (jP c Q) a w:=by
 simp only[Iy,aq] at hc;obtain⟨⟨⟨hm,hns⟩,iq⟩,hc⟩:=hc;refine wp_region_any hm ?_;have hE:Ext (λ_ _=>False) w w.drew:=Ext.drew w _;have h':St c G zl s a w.drew:=h.move (h.inv.world hE λ_ _ hs=>hs.elim) (λ_=>rfl) hE (λ_ _ hs=>hs.elim) (λt b k hf=>.inl ⟨t,hf⟩);have hdn:Down ops (Array.replicate ops.size false):=λk ok _ hl=>by exfalso;simp only[va,TS] at hl;split at hl<;>simp at hl
 exact((uV iq hns t ops.size _ hdn h' hK).1 hc).any
end
end M
namespace M
open Go Go.RowKit
variable [Bs]
section
variable {P:Program}{c:Ctx}{G:Nat->C}{zl:Nat->Nat->Prop}{s s':ah}{a:Act}{w:World}
def gN(P:Program)(nt:Nat):A->Code->Bool
 |.skip,.skip=>true
 |.ret,.ret=>true
 |.exit id,.exit id'=>decide (id=id')
 |.ops l,.region _ ops false=>q6 P nt ops 0 l
 |.draw t,.region _ ops true=>Iy P nt ops t
 |.seq a b,.seq x y=>gN P nt a x && gN P nt b y
 |.cond c a b,.cond c' x y=>aI c' c && gN P nt a x && gN P nt b y
 |.block id b,.block id' x=>decide (id=id') && gN P nt b x
 |.loop b,.loop x=>gN P nt b x
 |.pk _ b,x=>gN P nt b x
 |_,_=>false
def least(p:Nat->Prop):(∃n,p n)->∃m,p m/\∀k,p k->m<=k:=by
 rintro ⟨n,hn⟩;induction n using Nat.strongRecOn with
 |_ n ih=>
  by_cases h:∃k,k<n/\p k;·obtain⟨k,hk,hp⟩:=h;exact ih k hk hp
  ·exact⟨n,hn,λk hk=>by
    rcases gW k n with hlt|hge;·exact(h ⟨k,hlt,hk⟩).elim
    ·exact hge⟩
def Xb:∀(t:A) (code:Code) {Q:Ex->ah->Prop} {G:Nat->C} {zl:Nat->Nat->Prop} {s:ah} {a:Act} {w:World},gN P c.nt t code=true->St c G zl s a w->eH P t s Q->code.wp P (jP c Q) a w:=by
 intro t;induction t with
 |skip=>intro code Q G zl s a w hc h hK;unfold gN at hc;cases code<;>simp at hc;exact wp_skip ⟨G,zl,s,hK,h⟩
 |ret=>intro code Q G zl s a w hc h hK;unfold gN at hc;cases code<;>simp at hc;exact wp_ret ⟨G,zl,s,hK,h⟩
 |exit id=>intro code Q G zl s a w hc h hK;unfold gN at hc;cases code<;>simp at hc;subst hc;exact wp_exit ⟨G,zl,s,hK,h⟩
 |ops l=>
  intro code Q G zl s a w hc h hK;unfold gN at hc;cases code with
  |region id os d=>
   cases d with
   |false=>exact aer hc h hK
   |true=>simp at hc
  |_=>simp at hc
 |draw t=>
  intro code Q G zl s a w hc h hK;unfold gN at hc;cases code with
  |region id os d=>
   cases d with
   |true=>exact Xk hc h hK
   |false=>simp at hc
  |_=>simp at hc
 |seq x y J2 J3=>
  intro code Q G zl s a w hc h hK;unfold gN at hc;cases code with
  |seq x' y'=>
   simp only[aq] at hc;refine wp_seq (wp_mono (J2 x' hc.1 h hK) λe a w he=>?_);cases e with
   |normal=>obtain⟨G,zl,s,k,h⟩:=he;exact J3 y' hc.2 h k
   |exit id=>exact he
   |ret=>exact he
   |goto l=>exact he.elim
   |panic ch=>exact he.elim
   |outgrown=>exact he.elim
  |_=>simp at hc
 |cond cc x y J2 J3=>
  intro code Q G zl s a w hc h hK;unfold gN at hc;cases code with
  |cond c' x' y'=>
   simp only[aq] at hc;obtain⟨⟨h1,h2⟩,h3⟩:=hc;obtain⟨d,e1,e2,e3⟩:=cx h h1;simp only[eH] at hK;split at hK;·rename_i b hb;rw[<-e1] at hb;have:=ru hb;subst this;exact wp_cond_split (by rw[<-e2];rfl) (λht=>J2 x' h2 h (hK.1 ht)) (λhf=>J3 y' h3 h (hK.2 hf))
   ·exact hK.elim
  |_=>simp at hc
 |block id b ih=>
  intro code Q G zl s a w hc h hK;unfold gN at hc;cases code with
  |block id' x=>
   simp only[aq,bn] at hc;obtain⟨rfl,hc⟩:=hc;refine wp_block (wp_mono (ih x hc h hK) λe a w he=>?_);cases e with
   |normal=>exact he
   |exit i=>
    obtain⟨G,zl,s,k,h⟩:=he;simp only at k;show if i=id then jP c Q .normal a w else jP c Q (.exit i) a w
    by_cases hi:i=id;·subst hi;rw[az rfl];simp only[beq_self_eq_true,lN] at k;exact⟨G,zl,s,k,h⟩
    ·rw[aC hi];have:(i==id)=false:=by simpa using hi
     rw[this] at k;exact⟨G,zl,s,k,h⟩
   |ret=>exact he
   |goto l=>exact he.elim
   |panic ch=>exact he.elim
   |outgrown=>exact he.elim
  |_=>simp at hc
 |loop b ih=>
  intro code Q G zl s a w hc h hK;unfold gN at hc;cases code with
  |loop x=>
   obtain⟨I,⟨n,hn⟩,abv⟩:=hK;let J:Nat->Act->World->Prop:=λn a w=>vk c (I n) a w;have Jz:=λa w=>least (λn=>J n a w);let μ:Act->World->Nat:=λa w=>by classical exact if hh:∃n,J n a w then Classical.choose (Jz a w hh) else 0
   have hμ:∀a w,(∃n,J n a w)->J (μ a w) a w/\∀k,J k a w->μ a w<=k:=λa w hh=>by have hspec:=CM (Jz a w hh);have:μ a w=Classical.choose (Jz a w hh):=jM hh;rw[this];exact hspec
   refine wp_loop (λa w=>∃n,J n a w) μ ?_ λa w hI=>?_;·exact⟨n,G,zl,s,hn,h⟩
   ·obtain⟨⟨G1,sZ,s1,k1,h1⟩,_⟩:=hμ a w hI;refine wp_mono (ih x hc h1 (abv _ s1 k1)) λe a' w' he=>?_;cases e with
    |normal=>obtain⟨G2,s4,s2,⟨m,hm,Jf⟩,h2⟩:=he;have hJ:J m a' w':=⟨G2,s4,s2,Jf,h2⟩;exact⟨⟨m,hJ⟩,Nat.lt_of_le_of_lt ((hμ a' w' ⟨m,hJ⟩).2 m hJ) hm⟩
    |exit id=>exact he
    |ret=>exact he
    |goto l=>exact he.elim
    |panic ch=>exact he.elim
    |outgrown=>exact he.elim
  |_=>simp at hc
 |pk ks b ih=>
  intro code Q G zl s a w hc h hK;have hc:gN P c.nt b code=true:=by cases b<;>cases code<;>first|exact hc|(rename_i d;cases d<;>exact hc)
  refine wp_mono (ih code hc h hK) λe a w he=>?_;cases e with
  |normal=>obtain⟨G,zl,s,k,h⟩:=he;obtain⟨G',h'⟩:=h.keep ks;exact⟨G',zl,_,k,h'⟩
  |exit id=>exact he
  |ret=>exact he
  |goto l=>exact he.elim
  |panic ch=>exact he.elim
  |outgrown=>exact he.elim
end
end M
namespace M
open Go Go.RowKit
variable [Bs]
def Cl:Nat->List X->ah
 |_,[]=>[]
 |i,x::l=>(i,alias (base+i) [] x)::Cl (i+1) l
def Cm:Nat->List X->ah
 |_,[]=>[]
 |i,x::l=>(base+i,x)::Cm (i+1) l
def mP(xs:List X):ah:=Cl 0 xs++Cm 0 xs
def X.l9:X->Bool
 |.ak _=>true
 |_=>false
def post(x:X):X:=bif x.clean then x else .dead
inductive RV where
 |t (n:Nat)
 |c (n sz:Nat) (agg:Bool) (ty:TypeId)
def dW:List RV->ah->List X×ah
 |[],s=>([],s)
 |.t n::l,s=>((take .mv (au s (.t n)) s).1::(dW l (take .mv (au s (.t n)) s).2).1,(dW l (take .mv (au s (.t n)) s).2).2)
 |.c n sz agg _::l,s=>((match get s n with
  |.ptr .own cs=>if cs.length=sz then (bif agg then .agg (X.gx n [] cs) else (X.gx n [] cs).headD (.ak [])) else .ak []
  |_=>.ak [])::(dW l (iQ n [] .dead s)).1,(dW l (iQ n [] .dead s)).2)
def ug:List X->X
 |[x]=>x
 |l=>.ak l
def qk:Nat->Nat->ah->List X
 |_,0,_=>[]
 |i,n+1,s=>post (get s (base+i))::qk (i+1) n s
def Ends(rs:List RV)(n:Nat)(Q:X->List X->Prop):Ex->ah->Prop
 |.exit _,_=>False
 |_,s=>X.clean.cD (dW rs s).1=true/\(∀x∈(dW rs s).1,x.l9=false)/\Q (ug (dW rs s).1) (qk 0 n (dW rs s).2)
namespace C
def tC:∀c:C,c.er.clean=true->c.bare
 |.ref _ _ _,h=>by simp[er,X.clean] at h
 |.aB _ _ _ _ _,h=>by simp[er,X.clean] at h
 |.cut _ _ _ _ _,h=>by simp[er,X.clean] at h
 |.ptr m g o n c,h=>λj hj=>tC (c j) (by simp only[er,X.clean,aq] at h;exact jU.1 h.2 _ (aU.2 ⟨j,by simpa using hj,rfl⟩))
 |.agg n c,h=>λj hj=>tC (c j) (by simp only[er,X.clean] at h;exact jU.1 h _ (aU.2 ⟨j,by simpa using hj,rfl⟩))
 |.ak n c,h=>λj hj=>tC (c j) (by simp only[er,X.clean] at h;exact jU.1 h _ (aU.2 ⟨j,by simpa using hj,rfl⟩))
 |.fn f n c,h=>λj hj=>tC (c j) (by simp only[er,X.clean] at h;exact jU.1 h _ (aU.2 ⟨j,by simpa using hj,rfl⟩))
 |.dead _,_=>trivial
 |.int _ _,_=>trivial
 |.bool _,_=>trivial
 |.str _,_=>trivial
 |.row _ _ _ _ _ _,_=>trivial
variable {w:World}{zl zb:Nat->Nat->Prop}
def q7:∀c:C,c.er.clean=true->c.ok w (Zf zl zb)->c.ok w (Zf zl λ_ _=>False)
 |.ref _ _ _,h,_=>by simp[er,X.clean] at h
 |.aB _ _ _ _ _,h,_=>by simp[er,X.clean] at h
 |.cut _ _ _ _ _,h,_=>by simp[er,X.clean] at h
 |.row m sz A len cap e,h,ho=>by
  simp only[er,X.clean,aq] at h;obtain⟨h1,h2,h3,h4,h5⟩:=ho;refine⟨h1,λi j hi hj=>?_,λi j hi hj=>?_,h4,h5⟩
  ·obtain⟨g,o,q1,q2,q3⟩:=h2 i j hi hj;refine⟨g,o,q1,q2,λhm=>?_⟩;cases m with
   |own=>exact(hm rfl).elim
   |sl=>exact q3 hm
   |af=>simp at h
  ·obtain⟨a1,a2,a3,a4⟩:=h3 i j hi hj;exact⟨a1,a2,a3,q7 (e i j) (Om.1 h.2 _ (aU.2 ⟨i,by simpa using hi,rfl⟩) _ (aU.2 ⟨j,by simpa using hj,rfl⟩)) a4⟩
 |.ptr m g o n c,h,ho=>by
  simp only[er,X.clean,aq] at h;obtain⟨h1,h2,h3,h4⟩:=ho;refine⟨λj hj=>?_,h2,λj hj=>?_,h4⟩
  ·obtain⟨a1,a2,a3⟩:=h1 j hj;refine⟨a1,λhm=>?_,a3⟩;cases m with
   |own=>exact(hm rfl).elim
   |sl=>exact a2 hm
   |af=>simp at h
  ·obtain⟨a1,a2,a3⟩:=h3 j hj;exact⟨a1,a2,q7 (c j) (jU.1 h.2 _ (aU.2 ⟨j,by simpa using hj,rfl⟩)) a3⟩
 |.agg n c,h,ho=>by simp only[er,X.clean] at h;exact⟨λj hj=>⟨(ho.1 j hj).1,q7 (c j) (jU.1 h _ (aU.2 ⟨j,by simpa using hj,rfl⟩)) (ho.1 j hj).2⟩,ho.2⟩
 |.ak n c,h,ho=>by simp only[er,X.clean] at h;exact⟨λj hj=>⟨(ho.1 j hj).1,q7 (c j) (jU.1 h _ (aU.2 ⟨j,by simpa using hj,rfl⟩)) (ho.1 j hj).2⟩,ho.2⟩
 |.fn f n c,h,ho=>λj hj=>⟨q7 (c j) (by simp only[er,X.clean] at h;exact jU.1 h _ (aU.2 ⟨j,by simpa using hj,rfl⟩)) (ho j hj).1,(ho j hj).2⟩
 |.dead _,_,_=>trivial
 |.int _ _,_,_=>trivial
 |.bool _,_,_=>trivial
 |.str _,_,h=>h
end C
def PN(i:Nat):∀(xs:List X) (r:ah) (t:Nat),get (Cl i xs++r) t=if i<=t/\t<i+xs.length then alias (base+t) [] (xs.getD (t - i) .dead) else get r t
 |[],r,t=>by rw[aC (by simp only[gH];omega)];rfl
 |x::xs,r,t=>by
  simp only[Cl,fD];rw[vQ,PN (i+1) xs];by_cases h:t=i;·subst h;rw[az rfl,az ⟨dz _,by simp only[cG];omega⟩,Hz];rfl
  ·rw[aC h];by_cases h2:i+1<=t/\t<i+1+xs.length;·rw[az h2,az ⟨by omega,by simp only[cG];omega⟩,show t - i=(t - (i+1))+1 by omega];rfl
   ·rw[aC h2,aC (by simp only[cG];omega)]
def PO(i:Nat):∀(xs:List X) (t:Nat),get (Cm i xs) t=if base+i<=t/\t<base+i+xs.length then xs.getD (t - (base+i)) .dead else .dead
 |[],t=>by rw[aC (by simp only[gH];omega)];rfl
 |x::xs,t=>by
  simp only[Cm];rw[vQ,PO (i+1) xs];by_cases h:t=base+i;·subst h;rw[az rfl,az ⟨dz _,by simp only[cG];omega⟩,Hz];rfl
  ·rw[aC h];by_cases h2:base+(i+1)<=t/\t<base+(i+1)+xs.length;·rw[az h2,az ⟨by omega,by simp only[cG];omega⟩,show t - (base+i)=(t - (base+(i+1)))+1 by omega];rfl
   ·rw[aC h2,aC (by simp only[cG];omega)]
def afe{w:World}{zl zb:Nat->Nat->Prop}{cs:List C}(h:mN w zl zb cs)(je:o7 w zl zb){nt:Nat}(hn:cs.length<=nt)(hnt:nt<=base):
  ∃G,St ⟨w,λb k=>∃x∈cs,x.fp b k,zl,zb,nt,cs.map C.val⟩ G zl (mP (cs.map C.er)) ⟨(cs.map C.val).toArray++Array.replicate (nt - (cs.map C.val).toArray.size) undef,[]⟩ w:=by
 let G:Nat->C:=λt=>if t<cs.length then (cs.getD t (.dead undef)).alias (base+t) [] else if base<=t/\t<base+cs.length then cs.getD (t - base) (.dead undef) else .dead undef
 have g1:∀t,t<cs.length->G t=(cs.getD t (.dead undef)).alias (base+t) []:=λt ht=>az ht;have g2:∀t,t<cs.length->G (base+t)=cs.getD t (.dead undef):=λt ht=>by show (if _ then _ else _:C)=_;rw[aC (by omega),az (by omega),Nat.add_sub_cancel_left]
 have g3:∀t,¬t<cs.length->¬(base<=t/\t<base+cs.length)->G t=.dead undef:=λt h1 h2=>by show (if _ then _ else _:C)=_;rw[aC h1,aC h2]
 have hm:∀t,t<cs.length->cs.getD t (.dead undef)∈cs:=λt ht=>cS ht _
 have Dl:∀t,(t<cs.length/\t<base)\/(∃u,u<cs.length/\t=base+u)\/(G t=.dead undef/\¬t<cs.length/\¬(base<=t/\t<base+cs.length)):=λt=>by
  by_cases h1:t<cs.length;·exact .inl ⟨h1,by omega⟩
  ·by_cases h2:base<=t/\t<base+cs.length;·exact .inr (.inl ⟨t - base,by omega,by omega⟩)
   ·exact .inr (.inr ⟨g3 t h1 h2,h1,h2⟩)
 have hal:∀t,t<cs.length->(G t).ok w (Zf zl zb)/\(G t).rf G/\∀b k,¬(G t).fp b k:=λt ht=>by rw[g1 t ht];have hx:=hm t ht;exact C.Nk (base+t) _ (g2 t ht) (h.ok _ hx) (C.qV G _ (h.bare _ hx))
 have cj:∀t b k,(G t).fp b k->∃u,u<cs.length/\t=base+u/\(cs.getD u (.dead undef)).fp b k:=λt b k hf=>by
  rcases Dl t with ⟨h1,_⟩|⟨u,hu,rfl⟩|⟨h1,_⟩;·exact((hal t h1).2.2 b k hf).elim
  ·rw[g2 u hu] at hf;exact⟨u,hu,rfl,hf⟩
  ·rw[h1] at hf;exact hf.elim
 refine⟨G,⟨⟨λt=>?_,λt=>?_,λt u hne b k hf hf'=>?_,λt b k hf=>?_,λt=>?_,h.cC⟩,λt ht=>?_,?_,hnt,rfl,⟨Ext.refl _ _,λt b k hf=>?_,λ_ _ hz=>hz,λ_ _ hz=>.inl hz,je,λb k hb ⟨x,hx,hf⟩=>((je b hb).2 k).elim (h.fz x hx b k hf).1 (h.fz x hx b k hf).2⟩,λi v hi=>?_⟩⟩
 ·have hgd:∀u,(cs.map C.er).getD u .dead=(cs.getD u (.dead undef)).er:=λu=>by rw[jO,jO,cY];cases cs[u]?<;>rfl
  unfold mP;rw[PN,PO,dO,hgd,hgd];rcases Dl t with ⟨h1,h2⟩|⟨u,hu,rfl⟩|⟨h1,h2,h3⟩;·rw[az ⟨by omega,by omega⟩,g1 t h1,C.Nl,Nat.sub_zero]
  ·rw[aC (by omega),az ⟨by omega,by omega⟩,g2 u hu,show base+u - (base+0)=u by omega]
  ·rw[aC (by omega),aC (by omega),h1];rfl
 ·rcases Dl t with ⟨h1,_⟩|⟨u,hu,rfl⟩|⟨h1,_⟩;·exact(hal t h1).1
  ·rw[g2 u hu];exact h.ok _ (hm u hu)
  ·rw[h1];trivial
 ·obtain⟨x,hx,e1,h1⟩:=cj t b k hf;obtain⟨y,hy,e2,h2⟩:=cj u b k hf';exact wR h.apart _ hx hy (λe=>hne (by rw[e1,e2,e])) h1 h2
 ·obtain⟨x,hx,e1,h1⟩:=cj t b k hf;exact h.fz _ (hm x hx) b k h1
 ·rcases Dl t with ⟨h1,_⟩|⟨u,hu,rfl⟩|⟨h1,_⟩;·exact(hal t h1).2.1
  ·rw[g2 u hu];exact C.qV G _ (h.bare _ (hm u hu))
  ·rw[h1];trivial
 ·rw[va,Array.getElem?_append];simp only[qG,dO];by_cases h1:t<cs.length;·rw[az h1,g1 t h1,C.Nn,yA,cY,bZ h1,pJ (bZ h1)];rfl
  ·rw[aC h1,g3 t h1 (by omega),TS];split<;>rfl
 ·simp only[MB,qG,dO,Array.size_replicate];omega
 ·obtain⟨x,hx,e1,h1⟩:=cj t b k hf;exact .inl ⟨_,hm x hx,h1⟩
 ·simp only[cY] at hi;cases hc:cs[i]? with
  |none=>rw[hc] at hi;cases hi
  |some x=>
   rw[hc] at hi;injection hi with hi
   have hlt:=(aN.1 hc).1;rw[g2 i hlt,pJ hc,hi]
end M
namespace M
open Go Go.RowKit
variable [Bs]
def tB(P:Program):List ResultVar->List RV->Bool
 |[],[]=>true
 |.tmp t::l,.t t'::l'=>t==t' && decide (t<base) && tB P l l'
 |.cell a ty::l,.c n sz agg ty'::l'=>a==n && decide (n<base) && ty==ty' && ld P ty sz && tU P ty agg && (agg||decide (sz=1)) && tB P l l'
 |_,_=>false
section
variable {P:Program}{w:World}
def acX(x:C)(h:x.er.l9=false):x.fY:=by cases x<;>first|trivial|(simp[C.er,X.l9] at h)
def KC:List Value->Value
 |[v]=>v
 |l=>.tuple l.toArray
def Bj(tmps:Array Value):ResultVar->Sem Value
 |.tmp t=>pure (tmps.getD t undef)
 |.cell a t=>do loadVar t (<-asAddr (tmps.getD a undef))
def aeQ{fn:Func}{vs:List Value}(tmps:Array Value)(h:(fn.results.toList.mapM (Bj tmps)).run P w=.ok vs w):(results fn tmps).run P w=.ok (KC vs) w:=by
 unfold results;rw[Array.mapM_eq_mapM_toList];rw[Sem.run_bind,Sem.run_map];erw [h];simp only[Result.andThen_ok,Sem.run_pure];match vs with
 |[]=>rfl
 |[v]=>rfl
 |u::v::l=>simp[KC]
def L5{c:Ctx}{zl:Nat->Nat->Prop}{a:Act}:∀{l':List ResultVar} {l:List RV},tB P l' l=true->∀{G:Nat->C} {s:ah},St c G zl s a w->(∀x∈(dW l s).1,x.l9=false)->
  ∃cs G',cs.map C.er=(dW l s).1/\(l'.mapM (Bj a.tmps)).run P w=.ok (cs.map C.val) w/\bO w zl c.zb G cs G' (dW l s).2
 |[],[],_,G,s,h,_=>⟨[],G,rfl,by simp,bO.nil h.inv⟩
 |.tmp t::l',.t t'::l,hc,G,s,h,hk=>by
  simp only[tB,aq,ew,bn] at hc;obtain⟨⟨rfl,ht⟩,hc⟩:=hc;obtain⟨p,p1,p2,p3⟩:=cx h (o:=.tmp t) (x:=.t t) (by simp[aI,ht]);obtain⟨y,G1,f1,f2,f3,f4⟩:=qC .mv h.inv p3;rw[p1] at f1 f4;obtain⟨cs,G',g1,g2,g3⟩:=L5 hc (h.x9 f4) λx hx=>hk x (cz _ hx);refine⟨y::cs,G',by simp[dW,f1,g1],?_,bO.cons f4 g3⟩;have hv:a.tmps.getD t undef=y.val:=by rw[f2,p2];rfl
  simp only[List.mapM_cons,Bj,Sem.run_bind,Sem.run_pure,Result.andThen_ok,g2,hv,aY]
 |.cell ad ty::l',.c n sz agg ty'::l,hc,G,s,h,hk=>by
  simp only[tB,aq,ew,bn] at hc;obtain⟨⟨⟨⟨⟨⟨rfl,ht⟩,rfl⟩,hsz⟩,mY⟩,h1⟩,hc⟩:=hc
  have hk0:(match get s ad with
   |.ptr .own cs=>if cs.length=sz then (bif agg then .agg (X.gx ad [] cs) else (X.gx ad [] cs).headD (.ak [])) else .ak []
   |_=>.ak []:X).l9=false:=hk _ (bE ..)
  split at hk0
  ·rename_i cs0 hg;split at hk0
   ·rename_i hlen;obtain⟨D,G1,t1,t2,t3,t4,t5,t6,t7,t8,t9,t10,t11,t12⟩:=h.inv.uU ad [] (G ad) rfl;rw[h.inv.er,hg] at t1;simp only[X.kill] at t1;obtain⟨g,o,m,f,rfl,hcs⟩:=IM t1;have hm:m=sz:=by have:=dm List.length hcs;rw[X.Kb] at this;simpa [hlen] using this.symm
    subst hm;obtain⟨q1,q2,q3,q4⟩:=t4;have hin:∀j,j<m->∀b k,(f j).fp b k->(C.ptr .own g o m f).fp b k:=λj hj b k hf=>C.kI (q3 j hj).1 (q3 j hj).2.1 hj hf;have Jk:a.tmps.getD ad undef=.pointer (some ⟨g,o,none⟩):=by rw[<-h.val ad ht,<-t2];rfl
    obtain⟨ii,hi,kD⟩:=rH hsz;obtain⟨dd,zL,hda⟩:=AD mY;have tN:(isAgg ty).run P w=.ok agg w:=by subst hda;simp only[isAgg,Sem.run_bind,run_underlying zL,Result.andThen_ok];cases dd<;>rfl
    have hsize:(Go.sizeOf ty).run P w=.ok m w:=by simp[Go.sizeOf,typeInfo,hi,kD]
    have hl:(loadCells ⟨g,o,none⟩ m).run P w=.ok ((List.range m).map λj=>(f j).val).toArray w:=run_loadCells w _ m _ (λj hj=>by rw[qQ];exact(q1 j hj).1)
    have fin:∀y:C,(∀b k,y.fp b k->(C.ptr .own g o m f).fp b k)->y.ok w (Zf zl c.zb)->y.rf G1->y.er=(if cs0.length=m then (bif agg then .agg (X.gx ad [] cs0) else (X.gx ad [] cs0).headD (.ak [])) else .ak [])->(loadVar ty ⟨g,o,none⟩).run P w=.ok y.val w->
      ∃cs G',cs.map C.er=(dW (.c ad m agg ty::l) s).1/\((ResultVar.cell ad ty::l').mapM (Bj a.tmps)).run P w=.ok (cs.map C.val) w/\bO w zl c.zb G cs G' (dW (.c ad m agg ty::l) s).2:=λy Mt yok yrf yer aim=>by
     have jB:fF w zl c.zb G y G1 (iQ ad [] .dead s):=⟨t3,yok,yrf,λt b k hf=>t8 t b k (Mt b k hf),λb k hf=>h.inv.fz ad b k (t9 b k (Mt b k hf)),t10,λb k hf=>⟨ad,t9 b k (Mt b k hf)⟩,t11⟩;obtain⟨cs,G',g1,g2,g3⟩:=L5 hc (h.x9 jB) λx hx=>hk x (cz _ hx);refine⟨y::cs,G',?_,?_,bO.cons jB g3⟩;·simp only[aY,dW,hg,yer,g1]
     ·simp only[List.mapM_cons,Bj,Jk,asAddr,Sem.run_bind,Sem.run_pure,Result.andThen_ok,aim,g2,aY]
    cases agg with
    |true=>
     refine fin (.agg m f) (λb k ⟨j,hj,hf⟩=>hin j hj b k hf) ⟨λj hj=>⟨(q3 j hj).1,(q3 j hj).2.2⟩,λj hj b k hf=>(q4 j hj b k hf).2⟩ t5 ?_ ?_;·rw[az hlen,lN,hcs];rfl
     ·simp only[loadVar,Sem.run_bind,tN,Result.andThen_ok,dr,hsize,hl,Sem.run_pure];rfl
    |false=>
     have hs1:m=1:=by simpa using h1
     subst hs1;refine fin (f 0) (λb k hf=>hin 0 (by omega) b k hf) (q3 0 (by omega)).2.2 (t5 0 (by omega)) ?_ ?_;·rw[az hlen,qK,hcs];rfl
     ·have:=(q1 0 (by omega)).1;simp only[loadVar,Sem.run_bind,tN,Result.andThen_ok,fC,ey,run_load];simp only[nP] at this;rw[this]
   ·simp[X.l9] at hk0
  ·simp[X.l9] at hk0
 |[],_::_,hc,_,_,_,_=>by cases hc
 |.tmp _::_,[],hc,_,_,_,_=>by cases hc
 |.cell _ _::_,[],hc,_,_,_,_=>by cases hc
 |.tmp _::_,.c _ _ _ _::_,hc,_,_,_,_=>by cases hc
 |.cell _ _::_,.t _::_,hc,_,_,_,_=>by cases hc
def aeb{c:Ctx}{G:Nat->C}{zl:Nat->Nat->Prop}{s:ah}(h:Inv w zl c.zb G s)(t:Nat):∃p:C,p.er=post (get s t)/\p.val=(G t).val/\p.ok w (Zf zl λ_ _=>False)/\p.bare/\∀b k,p.fp b k->(G t).fp b k:=by
 unfold post;cases hc:(get s t).clean with
 |true=>rw[<-h.er] at hc;exact⟨G t,h.er t,rfl,C.q7 _ hc (h.ok t),C.tC _ hc,λ_ _ hf=>hf⟩
 |false=>exact⟨.dead (G t).val,rfl,rfl,trivial,trivial,λ_ _ hf=>hf.elim⟩
def RQ{c:Ctx}{G:Nat->C}{zl:Nat->Nat->Prop}{s:ah}(h:Inv w zl c.zb G s):∀(n i:Nat),∃ps:List C,ps.map C.er=qk i n s/\ps.map C.val=(List.range' i n).map (λj=>(G (base+j)).val)/\(∀p∈ps,p.ok w (Zf zl λ_ _=>False)/\p.bare/\∃t,i<=t/\∀b k,p.fp b k->(G (base+t)).fp b k)/\ps.Pairwise λa b=>∀x k,a.fp x k->¬b.fp x k
 |0,i=>⟨[],rfl,rfl,λ_ hx=>(by cases hx),List.Pairwise.nil⟩
 |n+1,i=>by
  obtain⟨p,p1,p2,p3,p4,p5⟩:=aeb h (base+i);obtain⟨ps,q1,q2,q3,q4⟩:=RQ h n (i+1);refine⟨p::ps,by simp[qk,p1,q1],by simp[List.range'_succ,p2,q2],λx hx=>?_,eM.2 ⟨λx hx b k hf hf'=>?_,q4⟩⟩
  ·rcases cu.1 hx with rfl|hx;·exact⟨p3,p4,i,dz _,p5⟩
   ·obtain⟨a1,a2,t,ht,a3⟩:=q3 x hx;exact⟨a1,a2,t,by omega,a3⟩
  ·obtain⟨_,_,t,ht,a3⟩:=q3 x hx;exact h.sep (base+i) (base+t) (by omega) b k (p5 b k hf) (a3 b k hf')
structure Told (P:Program) (f:FuncId) (t:A) (rs:List RV) (n:Nat):Prop where
 told:∃fn code,P.funcs[f]?=some fn/\fn.body=some code/\gN P fn.ntmps t code=true/\tB P fn.results.toList rs=true/\fn.ntmps<=base/\n<=fn.ntmps
def Told.ac{f:FuncId}{t:A}{rs:List RV}{n:Nat}(hT:Told P f t rs n){xs:List X}(hn:xs.length=n){Q:X->List X->Prop}(h:eH P t (mP xs) (Ends rs n Q)):AC P f xs Q:=by
 intro w zl zb cs hxs hA je;obtain⟨fn,code,hf,hb,hc,hr,hnt,fW⟩:=hT.told;have hcl:cs.length=n:=by rw[<-hn,<-hxs];simp
 obtain⟨G,hst⟩:=afe hA je (nt:=fn.ntmps) (by omega) hnt;rw[hxs] at hst;refine calls_of_wp hf hb (wp_mono (Xb t code hc hst h) λe a w' he=>?_)
 have fin:∀{G:Nat->C} {aD:Nat->Nat->Prop} {s:ah},St ⟨w,λb k=>∃x∈cs,x.fp b k,zl,zb,fn.ntmps,cs.map C.val⟩ G aD s a w'->(X.clean.cD (dW rs s).1=true/\(∀x∈(dW rs s).1,x.l9=false)/\Q (ug (dW rs s).1) (qk 0 n (dW rs s).2))->
   a.defers=[]/\∃v,(results fn a.tmps).run P w'=.ok v w'/\∃r ps aD,Nf w zl cs (.returned v) w' r ps aD/\Q r.er (ps.map C.er):=by
  intro G aD s h ⟨k1,k2,k3⟩;obtain⟨nF,G1,g1,g2,jB⟩:=L5 hr h k2;refine⟨h.defers,_,aeQ a.tmps g2,?_⟩;rw[<-g1] at k1 k2 k3;obtain⟨ps,p1,p2,p3,p4⟩:=RQ (c:=⟨w,λb k=>∃x∈cs,x.fp b k,zl,zb,fn.ntmps,cs.map C.val⟩) jB.inv n 0;have hrc:∀x∈nF,x.er.clean=true:=λx hx=>jU.1 k1 _ (kj hx)
  obtain⟨r,r1,r2,r3,r4,r5⟩:∃r:C,r.er=ug (nF.map C.er)/\r.val=KC (nF.map C.val)/\r.ok w' (Zf aD λ_ _=>False)/\r.bare/\∀b k,r.fp b k->∃x∈nF,x.fp b k:=by
   by_cases h1:nF.length=1;·obtain⟨x,rfl⟩:=List.length_eq_one_iff.1 h1;refine⟨x,rfl,rfl,C.q7 x (hrc x (fA.2 rfl)) (jB.all x (fA.2 rfl)).1,C.tC x (hrc x (fA.2 rfl)),λb k hf=>⟨x,fA.2 rfl,hf⟩⟩
   ·refine⟨.ak nF.length λj=>nF.getD j (.dead undef),?_,?_,⟨λj hj=>⟨?_,C.q7 _ (hrc _ (cS hj _)) (jB.all _ (cS hj _)).1⟩,λj hj b k hf j' hj' hne=>wR jB.apart _ hj hj' hne hf⟩,λj hj=>C.tC _ (hrc _ (cS hj _)),λb k ⟨j,hj,hf⟩=>⟨_,cS hj _,hf⟩⟩
    ·show X.ak _=_;rw[mj nF _ C.er];cases nF with
     |nil=>rfl
     |cons x l=>cases l with
      |nil=>simp at h1
      |cons y l=>rfl
    ·show Value.tuple _=_;rw[mj nF _ C.val];cases nF with
     |nil=>rfl
     |cons x l=>cases l with
      |nil=>simp at h1
      |cons y l=>rfl
    ·have:=k2 _ (kj (cS hj (.dead undef)));exact acX _ this
  refine⟨r,ps,aD,?_,by rw[r1,p1];exact k3⟩;have aaN:∀t b k,(G1 t).fp b k->(∃y∈cs,y.fp b k)\/w.heap.size<=b:=λt b k hf=>h.tr.dom t b k (jB.mono t b k hf);have hrd:∀b k,r.fp b k->(∃y∈cs,y.fp b k)\/w.heap.size<=b:=λb k hf=>by obtain⟨x,hx,hf⟩:=r5 b k hf;obtain⟨t,ht⟩:=(jB.all x hx).2.2.2 b k hf;exact h.tr.dom t b k ht
  refine⟨by rw[r2],?_,h.tr.ext,⟨λx hx=>?_,λx hx=>?_,λx hx b k hf=>?_,λb k hz=>jB.inv.cC b k (hz.imp id λh=>h.elim),eM.2 ⟨λx hx b k hf hf'=>?_,p4⟩⟩,λx hx b k hf=>?_,h.tr.oZ,h.tr.zl⟩
  ·rw[p2,List.range_eq_range'.symm];apply gX;intro i;rw[cY,cY];by_cases hi:i<n;·rw[qN hi,bZ (by omega)];simp only[cv,dF];rw[jB.val];exact h.args i _ (by rw[cY,bZ (by omega)];rfl)
   ·rw[kV (by simp;omega),kV (by omega)];rfl
  ·rcases cu.1 hx with rfl|hx;·exact r3
   ·exact(p3 x hx).1
  ·rcases cu.1 hx with rfl|hx;·exact r4
   ·exact(p3 x hx).2.1
  ·refine⟨?_,λh=>h⟩;rcases cu.1 hx with rfl|hx;·obtain⟨y,hy,hf⟩:=r5 b k hf;exact((jB.all y hy).2.2.1 b k hf).1
   ·obtain⟨_,_,t,_,a3⟩:=p3 x hx;exact(jB.inv.fz _ b k (a3 b k hf)).1
  ·obtain⟨y,hy,hf⟩:=r5 b k hf;obtain⟨_,_,t,_,a3⟩:=p3 x hx;exact(jB.all y hy).2.1 _ b k hf (a3 b k hf')
  ·rcases cu.1 hx with rfl|hx;·exact hrd b k hf
   ·obtain⟨_,_,t,_,a3⟩:=p3 x hx;exact aaN _ b k (a3 b k hf)
 cases e with
 |normal=>obtain⟨G,aD,s,k,h⟩:=he;exact fin h k
 |ret=>obtain⟨G,aD,s,k,h⟩:=he;exact fin h k
 |exit id=>obtain⟨G,aD,s,k,h⟩:=he;exact k.elim
 |goto l=>exact he.elim
 |panic ch=>exact he.elim
 |outgrown=>exact he.elim
def S3(P:Program)(fn:Func)(t:A)(rs:List RV)(n:Nat):Bool:=match fn.body with
 |some code=>gN P fn.ntmps t code && tB P fn.results.toList rs && decide (fn.ntmps<=base) && decide (n<=fn.ntmps)
 |none=>false
def Told.of{f:FuncId}{fn:Func}{t:A}{rs:List RV}{n:Nat}(hf:P.funcs[f]?=some fn)(h:S3 P fn t rs n=true):Told P f t rs n:=by
 unfold S3 at h;split at h;·rename_i code hc;simp only[aq,bn] at h;exact⟨fn,code,hf,hc,h.1.1.1,h.1.1.2,h.1.2,h.2⟩
 ·cases h
end
end M
namespace M
open Go
def AC.mono[Bs]{P:Program}{f:FuncId}{xs:List X}{Q Q':X->List X->Prop}(h:AC P f xs Q)(hq:∀r ps,Q r ps->Q' r ps):AC P f xs Q':=
 λw zl zb cs e a g=>(h w zl zb cs e a g).mono λ_ _ ⟨r,ps,aD,d,q⟩=>⟨r,ps,aD,d,hq _ _ q⟩
abbrev Out:=X×List X
abbrev cy:=FuncId->List X->Option Out
def E0(f:FuncId):X->Bool
 |.fn g _=>g==f
 |_=>false
def vz(s1:ah)(fv:Option AV)(f:FuncId):Bool:=match fv with
 |none=>true
 |some x=>E0 f (au s1 x)
abbrev yC:=X->Option ah
def Fe(r:Nat)(p:Path)(s:ah)(n:Nat)(x:X):Option (X×yC):=
 match x with
 |.ref _ _=>(match look s r p with
  |some (.row .own z xs)=>some (.row .own z xs,λy=>match y with
   |.row .own z' ys=>if z'=z then some (iy r p (.row .own z ys) s) else none
   |_=>none)
  |_=>none)
 |.aB _ _ i c=>(match look s r p with
  |some (.ptr .own cs)=>if c+n<=cs.length then some (.ptr .own ((cs.drop c).take n),λy=>match y with
   |.ptr .own ys=>if ys.length=n then some (iy r p (.ptr .own (cs.take c++ys++cs.drop (c+n))) s) else none
   |_=>none) else none
  |some (.row .own z xs)=>(match xs[i]? with
   |some e=>if c+n<=e.length then some (.ptr .own ((e.drop c).take n),λy=>match y with
    |.ptr .own ys=>if ys.length=n then (if gU ys=true then some (iy r p (.row .own z (xs.set i (e.take c++ys++e.drop (c+n)))) s) else none) else none
    |_=>none) else none
   |none=>none)
  |_=>none)
 |_=>none
def ql(d:Option Nat)(s:ah):Option Out->Option ah
 |some o=>some (fP d o.1 s)
 |none=>none
def Bi(d:Option Nat)(as:List (AV×PM))(back:yC):Option Out->Option ah
 |some o=>(match back (kM as o.2) with
  |some s'=>some (fP d o.1 s')
  |none=>none)
 |none=>none
def Dk(C:cy)(f:FuncId)(d:Option Nat)(as:List (AV×PM))(fv:Option AV)(ms:List X)(s0:ah):Option (X×yC)->Option ah
 |some (y,back)=>if X.bare y=true/\vz s0 fv f=true then Bi d as back (C f (gm s0 y as ms++nW s0 fv)) else none
 |none=>none
def qX(C:cy)(f:FuncId)(d:Option Nat)(as:List (AV×PM))(fv:Option AV)(s:ah):Option ah:=
 if X.bare.iY (bW as s).1=true then
 match dS as with
 |none=>if vz (bW as s).2 fv f=true then ql d (bW as s).2 (C f (gm (bW as s).2 .dead as (bW as s).1++nW (bW as s).2 fv)) else none
 |some (x,n)=>Dk C f d as fv (bW as s).1 (iQ (placeOf (au (bW as s).2 x)).1 (placeOf (au (bW as s).2 x)).2 .dead (bW as s).2) (Fe (placeOf (au (bW as s).2 x)).1 (placeOf (au (bW as s).2 x)).2 (bW as s).2 n (au (bW as s).2 x))
 else none
def Da(op:BinOp):X->X->Bool
 |.int k a,.int k' b=>match op with
  |.shl=>decide (0<=b)
  |.shr=>decide (0<=b)
  |.quo=>decide (k=k') && !decide (b=0)
  |.rem=>decide (k=k') && !decide (b=0)
  |.andNot=>false
  |_=>decide (k=k')
 |.str a,.str b=>match op with
  |.add=>decide (a.size+b.size<=9223372036854775807)
  |.eql=>true
  |.neq=>true
  |_=>false
 |_,_=>false
def VS{op:BinOp}{x y:X}(h:Da op x y=true):vq op x y:=by cases x<;>cases y<;>cases op<;>simp_all[Da,vq]
def G9(op:UnOp):X->Bool
 |.int _ _=>match op with
  |.neg=>true
  |_=>false
 |.bool _=>match op with
  |.not=>true
  |_=>false
 |_=>false
def ahS{op:UnOp}{x:X}(h:G9 op x=true):yb op x:=by cases x<;>cases op<;>simp_all[G9,yb]
def E1:List X->Option UInt8
 |[.int .u8 n]=>if 0<=n/\n<256 then some (UInt8.ofNat n.toNat) else none
 |_=>none
def abL{e:List X}{b:UInt8}(h:E1 e=some b):e=[.int .u8 b.toNat]:=by
 unfold E1 at h;split at h
 ·split at h
  ·rename_i n hn;obtain rfl:=iz h;have:(UInt8.ofNat n.toNat).toNat=n.toNat:=by rw[HB];exact Nat.mod_eq_of_lt (by omega)
   rw[this];congr 2;omega
  ·cases h
 ·cases h
def qE:List (List X)->Option (List UInt8)
 |[]=>some []
 |e::l=>match E1 e,qE l with
  |some b,some r=>some (b::r)
  |_,_=>none
def S7:∀{xs:List (List X)} {l:List UInt8},qE xs=some l->xs=l.map λb=>[.int .u8 b.toNat]
 |[],l,h=>by cases h;rfl
 |e::r,l,h=>by
  unfold qE at h;split at h;·rename_i b r' h1 h2;obtain rfl:=iz h;rw[abL h1,S7 h2];rfl
  ·cases h
def Mh(l:List UInt8):qE (l.map λb=>[.int .u8 (b.toNat:Int)])=some l:=by
 induction l with
 |nil=>rfl
 |cons b l ih=>
  simp only[aY,qE,ih];have:E1 [.int .u8 (b.toNat:Int)]=some b:=by have h:=b.toNat_lt;show (if 0<=(b.toNat:Int)/\(b.toNat:Int)<256 then some (UInt8.ofNat (b.toNat:Int).toNat) else none)=some b;rw[az ⟨by omega,by omega⟩];simp
  rw[this]
def fQ:List (List X)->Bool
 |[]=>true
 |e::l=>e.all scalar && fQ l
def LX{xs:List (List X)}(h:fQ xs=true):scalars xs:=by
 induction xs with
 |nil=>intro e he;cases he
 |cons a l ih=>
  simp only[fQ,aq,oV] at h;intro e he c hc;rcases cu.1 he with rfl|he;·exact h.1 c hc
  ·exact ih h.2 e he c hc
def cX(h:Tk)(l:List X):Bool:=match h with
 |.al=>true
 |_=>l.all λx=>gU (cellsOf x)
def ae4{h:Tk}{l:List X}(e:cX h l=true):GO h l:=by
 cases h;·intro x hx;exact(oV.1 e) x hx
 ·trivial
 ·intro x hx;exact(oV.1 e) x hx
def cP:List Nat->List X->Bool
 |[],[]=>true
 |n::ns,y::ys=>((cellsOf y).length==n) && cP ns ys
 |_,_=>false
def SH:∀{ns:List Nat} {ys:List X},cP ns ys=true->xW ns ys
 |[],[],_=>trivial
 |[],_::_,h=>by cases h
 |_::_,[],h=>by cases h
 |n::ns,y::ys,h=>by simp only[cP,aq,ew] at h;exact⟨h.1,SH h.2⟩
def cV(sz:Nat)(l:List X):Bool:=l.all λx=>((cellsOf x).length==sz) && gU (cellsOf x)
def GU(s:ah)(r:Nat)(p:Path)(i c:Nat)(l:List X):Bool:=match look s r p with
 |some (.row .own _ xs)=>(match xs[i]? with
  |some e=>decide (c+l.length<=e.length) && gU l
  |none=>false)
 |some (.ptr .own cs)=>decide (c+l.length<=cs.length)
 |_=>false
def afh{s:ah}{r:Nat}{p:Path}{i c:Nat}{l:List X}(h:GU s r p i c l=true):storable s r p i c l:=by
 unfold GU at h;unfold storable;split at h
 ·split at h;·rename_i h1 _ _ h2;rw[h1];simp only[h2];simpa using h
  ·cases h
 ·rename_i h1;rw[h1];simpa using h
 ·cases h
def RU(d:Option Nat)(cs:List X)(s1:ah):Option Out->Option ah
 |some (r,.agg ys::_)=>if gU ys=true then (match ju cs ys s1 with
  |some s'=>some (fP d r s')
  |none=>none) else none
 |_=>none
def cM(C:cy)(ok:FuncId->Bool)(o:cA)(s:ah):Option ah:=
 match o with
 |.mv d x=>some (put d (au s x) s)
 |.aZ d h x=>some (put d (take h (au s x) s).1 (take h (au s x) s).2)
 |.pick d c a b=>match au s c with
  |.bool t=>some (put d (Bd t (au s a) (au s b)) s)
  |_=>none
 |.un d op x=>if G9 op (au s x)=true then some (put d (Mi op (au s x)) s) else none
 |.bin d op x y=>if Da op (au s x) (au s y)=true then some (put d (HZ op (au s x) (au s y)) s) else none
 |.beq d neg x y=>match au s x,au s y with
  |.bool p,.bool q=>some (put d (.bool (xor neg (p==q))) s)
  |_,_=>none
 |.rZ d neg x=>match au s x with
  |.row _ _ xs=>if mq xs=true then some (put d (.bool neg) s) else none
  |_=>none
 |.tc d neg ks x y=>match au s x,au s y with
  |.agg p,.agg q=>match jW ks p q with
   |some t=>some (put d (.bool (xor neg t)) s)
   |none=>none
  |_,_=>none
 |.conv d k x=>match au s x with
  |.int _ n=>some (put d (.int k (k.wrap n)) s)
  |_=>none
 |.bytes d x=>match au s x with
  |.str t=>some (put d (.row .own 1 (t.data.toList.map λb=>[.int .u8 b.toNat])) s)
  |_=>none
 |.text d x=>match rowAt s (au s x) with
  |some (1,xs)=>if xs.length<=9223372036854775807 then (match qE xs with
   |some l=>some (put d (.str ⟨l.toArray⟩) s)
   |none=>none) else none
  |_=>none
 |.box d h x=>if 0<(cellsOf (take h (au s x) s).1).length then some (put d (.ptr .own (cellsOf (take h (au s x) s).1)) (take h (au s x) s).2) else none
 |.new d z=>some (put d (.ptr .own z) s)
 |.build d h z ps=>if cX h (takes h (ps.map (·.2)) s).1=true/\cP (ps.map (·.1.2)) (takes h (ps.map (·.2)) s).1=true then some (put d (.agg (vL z (ps.map (·.1.1)) (takes h (ps.map (·.2)) s).1)) (takes h (ps.map (·.2)) s).2) else none
 |.lit d h sz ps=>if cV sz (takes h ps s).1=true then some (put d (.row .own sz ((takes h ps s).1.map cellsOf)) (takes h ps s).2) else none
 |.make d sz bytes z n=>match au s n with
  |.int _ i=>if 0<=i/\i*bytes<=140737488355328 then some (put d (.row .own sz (List.replicate i.toNat z)) s) else none
  |_=>none
 |.load d sz agg a=>match gp s (au s a) with
  |some cs=>if sz<=cs.length then some (put d (bif agg then .agg (cs.take sz) else cs.headD .dead) s) else none
  |none=>none
 |.store sz h a x=>if (cellsOf (take h (au s x) s).1).length=sz then (match au (take h (au s x) s).2 a with
  |.aB r p i c=>if GU (take h (au s x) s).2 r p i c (cellsOf (take h (au s x) s).1)=true then some (setCells r p i c (cellsOf (take h (au s x) s).1) (take h (au s x) s).2) else none
  |_=>none) else none
 |.gL d x=>match au s x with
  |.aB r p i c=>some (put d (.aB r p i c) s)
  |.ptr m cs=>some (put d (.ptr m cs) s)
  |.fn f cs=>some (put d (.fn f cs) s)
  |_=>none
 |.pG d x off=>match au s x with
  |.aB r p i c=>some (put d (.aB r p i (c+off)) s)
  |.ptr m cs=>some (put d (.ptr m (cs.drop off)) s)
  |_=>none
 |.tG d x off sz agg=>match au s x with
  |.agg cs=>if off+sz<=cs.length then some (put d (bif agg then .agg ((cs.drop off).take sz) else (cs.drop off).headD .dead) s) else none
  |_=>none
 |.iH d sz x i=>match au s i with
  |.int _ n=>if 0<=n then (match au s x with
   |.row m z xs=>if z=sz then (match xs[n.toNat]? with
    |some e=>some (put d (.ptr m e) s)
    |none=>none) else none
   |.ref r p=>(match look s r p with
    |some (.row _ z xs)=>if z=sz/\n.toNat<xs.length then some (put d (.aB r p n.toNat 0) s) else none
    |_=>none)
   |.cut r p lo hi=>(match look s r p with
    |some (.row _ z _)=>if z=sz/\lo+n.toNat<hi then some (put d (.aB r p (lo+n.toNat) 0) s) else none
    |_=>none)
   |_=>none) else none
  |_=>none
 |.dy d x i=>match au s x,au s i with
  |.str t,.int _ n=>if 0<=n then (match t.data[n.toNat]? with
   |some b=>some (put d (.int .u8 b.toNat) s)
   |none=>none) else none
  |_,_=>none
 |.td d n sz agg x i=>match au s x,au s i with
  |.agg cs,.int _ j=>if 0<=j/\j<n/\cs.length=n*sz then some (put d (bif agg then .agg ((cs.drop (j.toNat*sz)).take sz) else (cs.drop (j.toNat*sz)).headD .dead) s) else none
  |_,_=>none
 |.ext d x i=>match au s x with
  |.ak cs=>if i<cs.length then some (put d (cs.getD i .dead) s) else none
  |_=>none
 |.gb d x lo hi=>match au s x with
  |.str t=>if 0<=asNat s lo 0/\asNat s lo 0<=asNat s hi t.size/\asNat s hi t.size<=t.size then some (put d (.str (t.extract (asNat s lo 0).toNat (asNat s hi t.size).toNat)) s) else none
  |_=>none
 |.oE d sz x lo hi=>match rowAt s (au s x) with
  |some (z0,xs)=>if z0=sz/\0<=asNat s lo 0/\asNat s lo 0<=asNat s hi xs.length/\asNat s hi xs.length<=xs.length then (match au s x with
   |.row m z _=>some (put d (.row m z ((xs.take (asNat s hi xs.length).toNat).drop (asNat s lo 0).toNat)) s)
   |.ref r p=>some (put d (.cut r p (asNat s lo 0).toNat (asNat s hi xs.length).toNat) s)
   |_=>none) else none
  |none=>none
 |.vC sz z x=>match au s x with
  |.cut r p lo hi=>(match look s r p with
   |some (.row .own z' xs)=>if z'=sz then some (iy r p (.row .own z' (DL lo hi z xs)) s) else none
   |_=>none)
  |_=>none
 |.qW d f x as=>match au s x with
  |.agg cs=>if X.bare.iY (bY cs s).1=true then RU d cs (bY cs s).2 (C f (.agg (bY cs s).1::gm (bY cs s).2 .dead as (as.map λ_=>.dead))) else none
  |_=>none
 |.p8 d fz sz agg a=>match gp s (au s a) with
  |some cs=>if sz<=cs.length then ghost fz d (put d (bif agg then .agg (cs.take sz) else cs.headD .dead) s) else none
  |none=>none
 |.qg d f cs=>some (put d (.fn f (cs.map (au s))) s)
 |.len d x=>match rowAt s (au s x) with
  |some (z,xs)=>some (put d (.int .i64 xs.length) s)
  |none=>none
 |.sK d x=>match au s x with
  |.str t=>some (put d (.int .i64 t.size) s)
  |_=>none
 |.app d h sz bytes x y=>match (take .mv (au s x) s).1 with
  |.row .own z xs=>if z=sz then (match h with
   |.mv=>(match (cE (au (take .mv (au s x) s).2 y) (take .mv (au s x) s).2).1 with
    |.row .own z' ys=>if z'=sz/\(xs.length+ys.length)*bytes<=140737488355328 then some (put d (.row .own z (xs++ys)) (cE (au (take .mv (au s x) s).2 y) (take .mv (au s x) s).2).2) else none
    |_=>none)
   |_=>(match rowAt (take .mv (au s x) s).2 (au (take .mv (au s x) s).2 y) with
    |some (z',ys)=>if z'=sz/\(xs.length+ys.length)*bytes<=140737488355328/\fQ ys=true then some (put d (.row .own z (xs++ys)) (take .mv (au s x) s).2) else none
    |none=>none)) else none
  |_=>none
 |.mn d xs=>match xs.map (au s) with
  |[.int k a,.int k' b]=>if k=k' then some (put d (.int k (if b<a then b else a)) s) else none
  |_=>none
 |.mx d xs=>match xs.map (au s) with
  |[.int k a,.int k' b]=>if k=k' then some (put d (.int k (if b>a then b else a)) s) else none
  |_=>none
 |.call d f as=>qX C f d as none s
 |.nV d x as=>match au s x with
  |.fn f _=>if ok f=true then qX C f d as (some x) s else none
  |_=>none
end M
namespace M
open Go
def cy.Sound[Bs](P:Program)(C:cy):Prop:=∀f xs o,C f xs=some o->AC P f xs λr ps=>r=o.1/\ps=o.2
section
variable [Bs]{P:Program}{C:cy}{ok:FuncId->Bool}
def Od{s1:ah}{fv:Option AV}{f:FuncId}(h:vz s1 fv f=true):qY s1 fv f:=by
 unfold vz at h;unfold qY;cases fv with
 |none=>trivial
 |some x=>
  simp only at h⊢;unfold E0 at h;split at h;·rename_i h1;rw[h1];simpa using h
  ·cases h
def acT{r:Nat}{p:Path}{s:ah}{n:Nat}{x y:X}{back:yC}(h:Fe r p s n x=some (y,back)){go:X->(X->(ah->Prop)->Prop)->Prop}
  (hg:∀b':X->(ah->Prop)->Prop,(∀q K s',back q=some s'->K s'->b' q K)->go y b'):wK r p s n x go:=by
 unfold Fe at h;unfold wK;split at h
 ·split at h
  ·rename_i z xs hl;obtain⟨rfl,rfl⟩:=HA (iz h);simp only[hl];refine hg _ λq K s' hb hK=>?_;simp only at hb;split at hb
   ·split at hb;·rename_i hz;obtain rfl:=iz hb;exact⟨hz,hK⟩
    ·cases hb
   ·cases hb
  ·cases h
 ·split at h
  ·rename_i cs hl;split at h
   ·rename_i hc;obtain⟨rfl,rfl⟩:=HA (iz h);simp only[hl];refine⟨hc,hg _ λq K s' hb hK=>?_⟩;simp only at hb;split at hb
    ·split at hb;·rename_i hz;obtain rfl:=iz hb;exact⟨hz,hK⟩
     ·cases hb
    ·cases hb
   ·cases h
  ·rename_i z xs hl;split at h
   ·rename_i e he;split at h
    ·rename_i hc;obtain⟨rfl,rfl⟩:=HA (iz h);simp only[hl,he];refine⟨hc,hg _ λq K s' hb hK=>?_⟩;simp only at hb;split at hb
     ·split at hb
      ·split at hb;·rename_i hz hso;obtain rfl:=iz hb;exact⟨hz,hso,hK⟩
       ·cases hb
      ·cases hb
     ·cases hb
    ·cases h
   ·cases h
  ·cases h
 ·cases h
def N9(hC:C.Sound P){f:FuncId}{d:Option Nat}{as:List (AV×PM)}{fv:Option AV}{s s':ah}(h:qX C f d as fv s=some s'){K:ah->Prop}(hK:K s'):tu P f d as fv s K:=by
 unfold qX at h;unfold tu;split at h
 ·rename_i hb;refine⟨hb,?_⟩;split at h
  ·rename_i hm;split at h
   ·rename_i hc;simp only[hm];refine⟨Od hc,?_⟩;unfold ql at h;split at h;·rename_i o ho;obtain rfl:=iz h;exact(hC _ _ _ ho).mono λr ps ⟨h1,_⟩=>by rw[h1];exact hK
    ·cases h
   ·cases h
  ·rename_i x n hm;simp only[hm];unfold Dk at h;split at h
   ·rename_i y back hmu;split at h
    ·rename_i hc;refine acT hmu λb' hb'=>⟨hc.1,Od hc.2,?_⟩;unfold Bi at h;split at h
     ·rename_i o ho;split at h;·rename_i s2 hs2;obtain rfl:=iz h;refine(hC _ _ _ ho).mono λr ps ⟨h1,h2⟩=>?_;rw[h1,h2];exact hb' _ _ _ hs2 hK
      ·cases h
     ·cases h
    ·cases h
   ·cases h
 ·cases h
def OU(hC:C.Sound P)(hok:∀f,ok f=true->aA P f=true){o:cA}{s s':ah}(h:cM C ok o s=some s'){K:ah->Prop}(hK:K s'):aL P o s K:=by
 cases o with
 |mv d x=>cases h;exact hK
 |aZ d h1 x=>cases h;exact hK
 |pick d c a b=>simp only[cM] at h;simp only[aL];split at h<;>first|(rename_i h1;rw[h1];cases h;exact hK)|cases h
 |un d op x=>
  simp only[cM] at h;split at h;·rename_i h1;cases h;exact⟨ahS h1,hK⟩
  ·cases h
 |bin d op x y=>
  simp only[cM] at h;split at h;·rename_i h1;cases h;exact⟨VS h1,hK⟩
  ·cases h
 |beq d neg x y=>
  simp only[cM] at h;simp only[aL];split at h;·rename_i h1 h2;rw[h1,h2];cases h;exact hK
  ·cases h
 |rZ d neg x=>
  simp only[cM] at h;simp only[aL];split at h
  ·rename_i h1;rw[h1];split at h;·rename_i hc;cases h;intro b hb;rw[hb hc];cases neg<;>exact hK
   ·cases h
  ·cases h
 |tc d neg ks x y=>
  simp only[cM] at h;simp only[aL];split at h
  ·rename_i h1 h2;rw[h1,h2];split at h;·rename_i t ht;cases h;exact⟨t,ht,hK⟩
   ·cases h
  ·cases h
 |conv d k x=>
  simp only[cM] at h;simp only[aL];split at h;·rename_i h1;rw[h1];cases h;exact hK
  ·cases h
 |bytes d x=>
  simp only[cM] at h;simp only[aL];split at h;·rename_i h1;rw[h1];cases h;exact hK
  ·cases h
 |text d x=>
  simp only[cM] at h;simp only[aL];split at h
  ·rename_i xs h1;split at h
   ·rename_i h2;split at h;·rename_i l h3;cases h;exact⟨xs,h1,h2,l,S7 h3,hK⟩
    ·cases h
   ·cases h
  ·cases h
 |box d h1 x=>
  simp only[cM] at h;split at h;·rename_i h2;cases h;exact⟨h2,hK⟩
  ·cases h
 |new d z=>cases h;exact hK
 |build d h1 z ps=>
  simp only[cM] at h;split at h;·rename_i h2;cases h;exact⟨ae4 h2.1,SH h2.2,hK⟩
  ·cases h
 |lit d h1 sz ps=>
  simp only[cM] at h;split at h;·rename_i h2;cases h;refine⟨λx hx=>?_,hK⟩;have:=(oV.1 h2) x hx;simpa using this
  ·cases h
 |make d sz bytes z n=>
  simp only[cM] at h;simp only[aL];split at h
  ·rename_i h1;rw[h1];split at h;·rename_i h2;cases h;exact⟨h2.1,h2.2,hK⟩
   ·cases h
  ·cases h
 |load d sz agg a=>
  simp only[cM] at h;simp only[aL];split at h
  ·rename_i cs h1;split at h;·rename_i h2;cases h;exact⟨cs,h1,h2,hK⟩
   ·cases h
  ·cases h
 |store sz h1 a x=>
  simp only[cM] at h;simp only[aL];split at h
  ·rename_i h2;refine⟨h2,?_⟩;split at h
   ·rename_i h3;rw[h3];split at h;·rename_i h4;cases h;exact⟨afh h4,hK⟩
    ·cases h
   ·cases h
  ·cases h
 |gL d x=>simp only[cM] at h;simp only[aL];split at h<;>first|(rename_i h1;rw[h1];cases h;exact hK)|cases h
 |pG d x off=>simp only[cM] at h;simp only[aL];split at h<;>first|(rename_i h1;rw[h1];cases h;exact hK)|cases h
 |tG d x off sz agg=>
  simp only[cM] at h;simp only[aL];split at h
  ·rename_i h1;rw[h1];split at h;·rename_i h2;cases h;exact⟨h2,hK⟩
   ·cases h
  ·cases h
 |iH d sz x i=>
  simp only[cM] at h;simp only[aL];split at h
  ·rename_i h1;rw[h1];split at h
   ·rename_i h2;refine⟨h2,?_⟩;split at h
    ·rename_i h3;rw[h3];split at h
     ·rename_i h4;refine⟨h4,?_⟩;split at h;·rename_i e h5;cases h;exact⟨e,h5,hK⟩
      ·cases h
     ·cases h
    ·rename_i h3;rw[h3];simp only;split at h
     ·rename_i h4;rw[h4];split at h;·rename_i h5;cases h;exact⟨h5.1,h5.2,hK⟩
      ·cases h
     ·cases h
    ·rename_i h3;rw[h3];simp only;split at h
     ·rename_i h4;rw[h4];split at h;·rename_i h5;cases h;exact⟨h5.1,h5.2,hK⟩
      ·cases h
     ·cases h
    ·cases h
   ·cases h
  ·cases h
 |dy d x i=>
  simp only[cM] at h;simp only[aL];split at h
  ·rename_i h1 h2;rw[h1,h2];split at h
   ·rename_i h3;refine⟨h3,?_⟩;split at h;·rename_i b h4;cases h;exact⟨b,h4,hK⟩
    ·cases h
   ·cases h
  ·cases h
 |td d n sz agg x i=>
  simp only[cM] at h;simp only[aL];split at h
  ·rename_i h1 h2;rw[h1,h2];split at h;·rename_i h3;cases h;exact⟨h3.1,h3.2.1,h3.2.2,hK⟩
   ·cases h
  ·cases h
 |ext d x i=>
  simp only[cM] at h;simp only[aL];split at h
  ·rename_i h1;rw[h1];split at h;·rename_i h3;cases h;exact⟨h3,hK⟩
   ·cases h
  ·cases h
 |gb d x lo hi=>
  simp only[cM] at h;simp only[aL];split at h
  ·rename_i h1;rw[h1];split at h;·rename_i h3;cases h;exact⟨h3.1,h3.2.1,h3.2.2,hK⟩
   ·cases h
  ·cases h
 |oE d sz x lo hi=>
  simp only[cM] at h;simp only[aL];split at h
  ·rename_i z0 xs h1;split at h;·rename_i h2;obtain⟨rfl,h2,h3,h4⟩:=h2;refine⟨xs,h1,h2,h3,h4,?_⟩;split at h<;>first|(rename_i h5;rw[h5];cases h;exact hK)|cases h
   ·cases h
  ·cases h
 |vC sz z x=>
  simp only[cM] at h;simp only[aL];split at h
  ·rename_i h1;rw[h1];simp only;split at h
   ·rename_i h2;rw[h2];split at h;·rename_i h3;cases h;exact⟨h3,hK⟩
    ·cases h
   ·cases h
  ·cases h
 |qW d f x as=>
  simp only[cM] at h;simp only[aL];split at h
  ·rename_i cs h1;rw[h1];split at h
   ·rename_i h2;refine⟨h2,?_⟩;unfold RU at h;split at h
    ·rename_i r ys ps ho;split at h
     ·rename_i h3;split at h;·rename_i s2 h4;cases h;exact(hC _ _ _ ho).mono λr' ps' ⟨e1,e2⟩=>by rw[e1,e2];exact⟨h3,_,h4,hK⟩
      ·cases h
     ·cases h
    ·cases h
   ·cases h
  ·cases h
 |p8 d fz sz agg a=>
  simp only[cM] at h;simp only[aL];split at h
  ·rename_i cs h1;split at h;·rename_i h2;exact⟨cs,h1,h2,s',h,hK⟩
   ·cases h
  ·cases h
 |qg d f cs=>cases h;exact hK
 |len d x=>
  simp only[cM] at h;simp only[aL];split at h;·rename_i z xs h1;cases h;exact⟨z,xs,h1,hK⟩
  ·cases h
 |sK d x=>
  simp only[cM] at h;simp only[aL];split at h;·rename_i h1;rw[h1];cases h;exact hK
  ·cases h
 |app d h1 sz bytes x y=>
  simp only[cM] at h;simp only[aL];split at h
  ·rename_i z xs h2;rw[h2];split at h
   ·rename_i h3;refine⟨h3,?_⟩;cases h1 with
    |mv=>
     simp only at h⊢;split at h
     ·rename_i h4;simp only[h4];split at h;·rename_i h5;cases h;exact⟨h5.1,h5.2,hK⟩
      ·cases h
     ·cases h
    |al=>
     simp only at h⊢;split at h
     ·rename_i z' ys h4;split at h;·rename_i h5;obtain⟨rfl,h5,h6⟩:=h5;cases h;exact⟨ys,h4,h5,LX h6,hK⟩
      ·cases h
     ·cases h
    |aX=>
     simp only at h⊢;split at h
     ·rename_i z' ys h4;split at h;·rename_i h5;obtain⟨rfl,h5,h6⟩:=h5;cases h;exact⟨ys,h4,h5,LX h6,hK⟩
      ·cases h
     ·cases h
   ·cases h
  ·cases h
 |mn d xs=>
  simp only[cM] at h;simp only[aL];split at h
  ·rename_i h1;rw[h1];split at h;·rename_i h2;cases h;exact⟨h2,hK⟩
   ·cases h
  ·cases h
 |mx d xs=>
  simp only[cM] at h;simp only[aL];split at h
  ·rename_i h1;rw[h1];split at h;·rename_i h2;cases h;exact⟨h2,hK⟩
   ·cases h
  ·cases h
 |call d f as=>exact N9 hC h hK
 |nV d x as=>
  simp only[cM] at h;simp only[aL];split at h
  ·rename_i h1;rw[h1];split at h;·rename_i h2;exact⟨hok _ h2,N9 hC h hK⟩
   ·cases h
  ·cases h
end
end M
namespace M
open Go
mutual
def X.eL:X->X->Bool
 |.dead,.dead=>true
 |.int k n,.int k' n'=>decide (k=k') && decide (n=n')
 |.bool a,.bool b=>a==b
 |.str s,.str t=>decide (s=t)
 |.row m z xs,.row m' z' ys=>decide (m=m') && z==z' && X.rq xs ys
 |.ptr m xs,.ptr m' ys=>decide (m=m') && X.lU xs ys
 |.agg xs,.agg ys=>X.lU xs ys
 |.ak xs,.ak ys=>X.lU xs ys
 |.fn f xs,.fn g ys=>f==g && X.lU xs ys
 |.ref s p,.ref t q=>s==t && p==q
 |.aB s p i c,.aB t q j d=>s==t && p==q && i==j && c==d
 |.cut s p i c,.cut t q j d=>s==t && p==q && i==j && c==d
 |_,_=>false
def X.lU:List X->List X->Bool
 |[],[]=>true
 |x::l,y::r=>X.eL x y && X.lU l r
 |_,_=>false
def X.rq:List (List X)->List (List X)->Bool
 |[],[]=>true
 |x::l,y::r=>X.lU x y && X.rq l r
 |_,_=>false
end
mutual
def X.O0:∀{x y:X},X.eL x y=true->x=y
 |.dead,y,h=>by cases y<;>simp_all[X.eL]
 |.int k n,y,h=>by cases y<;>simp_all[X.eL]
 |.bool a,y,h=>by cases y<;>simp_all[X.eL]
 |.str s,y,h=>by cases y<;>simp_all[X.eL]
 |.row m z xs,y,h=>by cases y<;>simp only[X.eL,aq,bn,ew,fC] at h;rw[h.1.1,h.1.2,X.OY h.2]
 |.ptr m xs,y,h=>by cases y<;>simp only[X.eL,aq,bn,ew,fC] at h;rw[h.1,X.vG h.2]
 |.agg xs,y,h=>by cases y<;>simp only[X.eL,fC] at h;rw[X.vG h]
 |.ak xs,y,h=>by cases y<;>simp only[X.eL,fC] at h;rw[X.vG h]
 |.fn f xs,y,h=>by cases y<;>simp only[X.eL,aq,ew,fC] at h;rw[h.1,X.vG h.2]
 |.ref s p,y,h=>by cases y<;>simp_all[X.eL]
 |.aB s p i c,y,h=>by cases y<;>simp_all[X.eL]
 |.cut s p i c,y,h=>by cases y<;>simp_all[X.eL]
def X.vG:∀{x y:List X},X.lU x y=true->x=y
 |[],[],_=>rfl
 |[],_::_,h=>by simp[X.lU] at h
 |_::_,[],h=>by simp[X.lU] at h
 |x::l,y::r,h=>by simp only[X.lU,aq] at h;rw[X.O0 h.1,X.vG h.2]
def X.OY:∀{x y:List (List X)},X.rq x y=true->x=y
 |[],[],_=>rfl
 |[],_::_,h=>by simp[X.rq] at h
 |_::_,[],h=>by simp[X.rq] at h
 |x::l,y::r,h=>by simp only[X.rq,aq] at h;rw[X.vG h.1,X.OY h.2]
end
mutual
def X.O1:∀x:X,X.eL x x=true
 |.dead=>rfl
 |.int k n=>by simp[X.eL]
 |.bool a=>by simp[X.eL]
 |.str s=>by simp[X.eL]
 |.row m z xs=>by simp[X.eL,X.OZ xs]
 |.ptr m xs=>by simp[X.eL,X.vH xs]
 |.agg xs=>by simp[X.eL,X.vH xs]
 |.ak xs=>by simp[X.eL,X.vH xs]
 |.fn f xs=>by simp[X.eL,X.vH xs]
 |.ref s p=>by simp[X.eL]
 |.aB s p i c=>by simp[X.eL]
 |.cut s p i c=>by simp[X.eL]
def X.vH:∀x:List X,X.lU x x=true
 |[]=>rfl
 |x::l=>by simp[X.lU,X.O1 x,X.vH l]
def X.OZ:∀x:List (List X),X.rq x x=true
 |[]=>rfl
 |x::l=>by simp[X.rq,X.vH x,X.OZ l]
end
def rj:ah->ah->Bool
 |[],[]=>true
 |(k,x)::l,(k',y)::r=>k==k' && X.eL x y && rj l r
 |_,_=>false
def OX:∀{x y:ah},rj x y=true->x=y
 |[],[],_=>rfl
 |[],_::_,h=>by simp[rj] at h
 |_::_,[],h=>by simp[rj] at h
 |(k,x)::l,(k',y)::r,h=>by simp only[rj,aq,ew] at h;rw[h.1.1,X.O0 h.1.2,OX h.2]
def same:Option ah->Option ah->Option ah
 |some a,some b=>if rj a b=true then some a else none
 |_,_=>none
def eG(C:cy)(ok:FuncId->Bool)(g:G)(s:ah):Option ah:=match g with
 |⟨none,o⟩=>cM C ok o s
 |⟨some (t,b),o⟩=>match get s t with
  |.bool v=>if v=b then cM C ok o ((t,.bool b)::s) else some (fP o.dst (.ak []) ((t,.bool (!b))::s))
  |.ak []=>some (fP o.dst (.ak []) s)
  |_=>none
def jV(C:cy)(ok:FuncId->Bool):List G->ah->Option ah
 |[],s=>some s
 |g::l,s=>(eG C ok g s).bind (jV C ok l)
def eD(C:cy)(ok:FuncId->Bool):DT->ah->Option ah
 |.nil ks,s=>some (keep ks s)
 |.step _ g t,s=>(eG C ok g s).bind (eD C ok t)
 |.alt a b,s=>same (eD C ok a s) (eD C ok b s)
 |.kp ks t,s=>eD C ok t (keep ks s)
abbrev cB:=Option (Ex×ah)
def fu(k:ah->cB):cB->cB
 |some (.normal,s)=>k s
 |some (.exit i,s)=>some (.exit i,s)
 |some (.ret,s)=>some (.ret,s)
 |none=>none
def kW(id:Nat):cB->cB
 |some (.exit i,s)=>if i=id then some (.normal,s) else some (.exit i,s)
 |some (.normal,s)=>some (.normal,s)
 |some (.ret,s)=>some (.ret,s)
 |none=>none
def lE(ks:List Nat):cB->cB
 |some (.normal,s)=>some (.normal,keep ks s)
 |some (.exit i,s)=>some (.exit i,s)
 |some (.ret,s)=>some (.ret,s)
 |none=>none
def iL:Option ah->cB
 |some s=>some (.normal,s)
 |none=>none
def iter(f:ah->cB):Nat->ah->cB
 |0,_=>none
 |n+1,s=>fu (iter f n) (f s)
def eA(C:cy)(ok:FuncId->Bool)(N:Nat):A->ah->cB
 |.skip,s=>some (.normal,s)
 |.ret,s=>some (.ret,s)
 |.exit id,s=>some (.exit id,s)
 |.ops l,s=>iL (jV C ok l s)
 |.draw t,s=>iL (eD C ok t s)
 |.seq a b,s=>fu (eA C ok N b) (eA C ok N a s)
 |.cond c a b,s=>match au s c with
  |.bool t=>if t=true then eA C ok N a s else eA C ok N b s
  |_=>none
 |.block id b,s=>kW id (eA C ok N b s)
 |.loop b,s=>iter (eA C ok N b) N s
 |.pk ks b,s=>lE ks (eA C ok N b s)
structure Fn where
 body:A
 rs:List RV
 n:Nat
abbrev iB:=FuncId->Option Fn
def fin(F:Fn):cB->Option Out
 |some (.exit _,_)=>none
 |some (_,s)=>if X.clean.cD (dW F.rs s).1=true/\(dW F.rs s).1.any X.l9=false then some (ug (dW F.rs s).1,qk 0 F.n (dW F.rs s).2) else none
 |none=>none
def eF(C:cy)(ok:FuncId->Bool)(N:Nat)(F:Fn)(xs:List X):Option Out:=
 if xs.length=F.n then fin F (eA C ok N F.body (mP xs)) else none
def av(T:iB)(f:FuncId):Bool:=(T f).isSome
def exec(L:cy)(T:iB):Nat->cy
 |0,_,_=>none
 |n+1,f,xs=>match T f with
  |some F=>eF (exec L T n) (av T) n F xs
  |none=>L f xs
section
variable [Bs]{P:Program}{C:cy}{ok:FuncId->Bool}
def OS(hC:C.Sound P)(hok:∀f,ok f=true->aA P f=true){g:G}{s s':ah}(h:eG C ok g s=some s'){K:ah->Prop}(hK:K s'):o9 P g s K:=by
 obtain⟨gg,o⟩:=g;cases gg with
 |none=>exact OU hC hok h hK
 |some tb=>
  obtain⟨t,b⟩:=tb;simp only[eG] at h;simp only[o9];split at h
  ·rename_i v hv;rw[hv];split at h;·rename_i om;exact⟨λ_=>OU hC hok h hK,λhn=>by subst om;cases v<;>simp at hn⟩
   ·rename_i om;exact⟨λhh=>(om hh).elim,λ_=>by cases h;exact hK⟩
  ·rename_i hv;rw[hv];cases h;exact hK
  ·cases h
def OW(hC:C.Sound P)(hok:∀f,ok f=true->aA P f=true):∀{l:List G} {s s':ah},jV C ok l s=some s'->∀{Q:Ex->ah->Prop},Q .normal s'->kr P l s Q
 |[],s,s',h,Q,hQ=>by cases h;exact hQ
 |g::l,s,s',h,Q,hQ=>by
  simp only[jV] at h;cases h1:eG C ok g s with
  |none=>rw[h1] at h;cases h
  |some s1=>rw[h1] at h;exact OS hC hok h1 (OW hC hok h hQ)
def zi(hC:C.Sound P)(hok:∀f,ok f=true->aA P f=true):∀{t:DT} {s s':ah},eD C ok t s=some s'->∀{Q:Ex->ah->Prop},Q .normal s'->gZ P t s Q
 |.nil ks,s,s',h,Q,hQ=>by cases h;exact hQ
 |.step i g t,s,s',h,Q,hQ=>by
  simp only[eD] at h;cases h1:eG C ok g s with
  |none=>rw[h1] at h;cases h
  |some s1=>rw[h1] at h;exact OS hC hok h1 (zi hC hok h hQ)
 |.alt a b,s,s',h,Q,hQ=>by
  simp only[eD] at h;unfold same at h;split at h
  ·rename_i x y hx hy;split at h;·rename_i he;obtain rfl:=OX he;cases h;exact⟨zi hC hok hx hQ,zi hC hok hy hQ⟩
   ·cases h
  ·cases h
 |.kp ks t,s,s',h,Q,hQ=>zi (t:=t) hC hok h hQ
def SZ{k:ah->cB}{r:cB}{e:Ex}{s:ah}(h:fu k r=some (e,s)):(∃s',r=some (.normal,s')/\k s'=some (e,s))\/(e≠.normal/\r=some (e,s)):=by
 unfold fu at h;split at h;·exact .inl ⟨_,rfl,h⟩
 ·cases h;exact .inr ⟨by simp,rfl⟩
 ·cases h;exact .inr ⟨by simp,rfl⟩
 ·cases h
def Xo(hC:C.Sound P)(hok:∀f,ok f=true->aA P f=true){N:Nat}:∀{t:A} {s s':ah} {e:Ex},eA C ok N t s=some (e,s')->∀{Q:Ex->ah->Prop},Q e s'->eH P t s Q:=by
 intro t;induction t with
 |skip=>intro s s' e h Q hQ;cases h;exact hQ
 |ret=>intro s s' e h Q hQ;cases h;exact hQ
 |exit id=>intro s s' e h Q hQ;cases h;exact hQ
 |ops l=>
  intro s s' e h Q hQ;simp only[eA] at h;unfold iL at h;split at h;·rename_i s1 h1;cases h;exact OW hC hok h1 hQ
  ·cases h
 |draw l=>
  intro s s' e h Q hQ;simp only[eA] at h;unfold iL at h;split at h;·rename_i s1 h1;cases h;exact zi hC hok h1 hQ
  ·cases h
 |seq a b iI j7=>
  intro s s' e h Q hQ;simp only[eA] at h;rcases SZ h with ⟨s1,h1,h2⟩|⟨hne,h1⟩;·exact iI h1 (j7 h2 hQ)
  ·refine iI h1 ?_;cases e with
   |normal=>exact(hne rfl).elim
   |exit i=>exact hQ
   |ret=>exact hQ
 |cond c a b iI j7=>
  intro s s' e h Q hQ;simp only[eA] at h;simp only[eH];split at h
  ·rename_i t ht;rw[ht];split at h;·rename_i h1;exact⟨λ_=>iI h hQ,λh2=>by rw[h1] at h2;cases h2⟩
   ·rename_i h1;exact⟨λh2=>(h1 h2).elim,λ_=>j7 h hQ⟩
  ·cases h
 |block id b ih=>
  intro s s' e h Q hQ;simp only[eA] at h;unfold kW at h;split at h
  ·rename_i i s1 h1;split at h;·rename_i hi;cases h;refine ih h1 ?_;subst hi;simpa using hQ
   ·rename_i hi;cases h;refine ih h1 ?_;have:(i==id)=false:=by simpa using hi
    simpa [this] using hQ
  ·rename_i s1 h1;cases h;exact ih h1 hQ
  ·rename_i s1 h1;cases h;exact ih h1 hQ
  ·cases h
 |loop b ih=>
  intro s s' e h Q hQ;simp only[eA] at h;refine⟨λn s1=>iter (eA C ok N b) n s1=some (e,s'),⟨N,h⟩,λn s1 h1=>?_⟩;cases n with
  |zero=>cases h1
  |succ n=>
   simp only[iter] at h1;rcases SZ h1 with ⟨s2,h2,h3⟩|⟨hne,h2⟩;·exact ih h2 ⟨n,Nat.lt_succ_self n,h3⟩
   ·refine ih h2 ?_;cases e with
    |normal=>exact(hne rfl).elim
    |exit i=>exact hQ
    |ret=>exact hQ
 |pk ks b ih=>
  intro s s' e h Q hQ;simp only[eA] at h;unfold lE at h;split at h;·rename_i s1 h1;cases h;exact ih h1 hQ
  ·rename_i s1 h1;cases h;exact ih h1 hQ
  ·rename_i s1 h1;cases h;exact ih h1 hQ
  ·cases h
structure iB.Ok (P:Program) (T:iB):Prop where
 told:∀f F,T f=some F->Told P f F.body F.rs F.n
 ok:∀f F,T f=some F->aA P f=true
def O3{L:cy}{T:iB}(hL:L.Sound P)(hT:T.Ok P):∀n,(exec L T n).Sound P
 |0=>λf xs o h=>by cases h
 |n+1=>λf xs o h=>by
  simp only[exec] at h;split at h
  ·rename_i F hF;unfold eF at h;split at h
   ·rename_i hn;refine(hT.told f F hF).ac hn ?_;unfold fin at h;split at h;·cases h
    ·rename_i e s' h1 h2;split at h
     ·rename_i hc;have h2:eA (exec L T n) (av T) n F.body (mP xs)=some (e,s'):=h2;cases h;refine Xo (O3 hL hT n) (λf hf=>?_) h2 ?_;·unfold av at hf;obtain⟨F',hF'⟩:=yq.1 hf;exact hT.ok f F' hF'
      ·cases e with
       |exit i=>exact(h1 i rfl).elim
       |normal=>exact⟨hc.1,λx hx=>by have:=MR.1 hc.2 x hx;simpa using this,rfl,rfl⟩
       |ret=>exact⟨hc.1,λx hx=>by have:=MR.1 hc.2 x hx;simpa using this,rfl,rfl⟩
     ·cases h
    ·cases h
   ·cases h
  ·exact hL f xs o h
end
end M
