/- A machine of values for loaded Go functions, sound for the calculus of calls; part 2; no conditions. -/
import Derived.Test.YtcibpfbfblmedaaGreatDoorMa
import Derived.Laws.IdiomCopy
import Derived.Lib.SliceRun
import Derived.Laws.Cover3
set_option linter.defProp false
set_option linter.unusedSectionVars false
set_option linter.unusedVariables false
set_option linter.unusedSimpArgs false
namespace M
open Go Go.RowKit
variable [Bs]
section
variable {P:Program}{c:Ctx}{G:Nat->C}{zl:Nat->Nat->Prop}{s:ag}{a:Act}{w:World}{o:Oper}{K:ag->Prop}
def ahA{zb:Nat->Nat->Prop}(h:Inv w zl zb G s){v:Value}{r:Nat}{p:Path}{i k:Nat}(hr:(C.aj v r p i k).rf G){l:List C}(hs:storable s r p i k (l.map C.er))(hl:∀x∈l,cN x.er=true->x.cN):
  ∃g k0 d,v=.pointer (some ⟨g,k0,none⟩)/\(G r).sub p=some d/\∀q x,l[q]?=some x->fF d i (k+q) x g (k0+q):=by
 obtain⟨d,hd,hp⟩:=hr;unfold storable look at hs;rw[<-h.er,C.gP,hd] at hs;simp only[cG] at hs;rcases hp with ⟨m,sz,g,o,len,cap,e,rfl,rfl⟩|⟨m,g,o,n,f,rfl,rfl,rfl⟩
 ·refine⟨g,o+i*sz+k,_,rfl,hd,λq x hq=>?_⟩;simp only[C.er] at hs;cases m with
  |own=>
   simp only[C.de] at hs;split at hs
   ·rename_i e0 lR;split at lR
    ·rename_i hi;injection lR with lR
     obtain⟨h1,h2⟩:=hs;have hlen:e0.length=sz:=by rw[<-lR];simp
     have pM:=(aQ.1 hq).1;simp only[cX] at h1;have:=fF.row (d:=.row .own sz (some (g,o,none)) len cap e) (i:=i) (c:=k+q) (y:=x) rfl hi (by omega) (hl x (sE hq) (HE h2 _ (kA (sE hq))));rwa [show o+i*sz+(k+q)=o+i*sz+k+q by omega] at this
    ·cases lR
   ·exact hs.elim
  |sl=>exact hs.elim
  |af=>exact hs.elim
 ·refine⟨g,o+k,_,rfl,hd,λq x hq=>?_⟩;simp only[C.er] at hs;cases m with
  |own=>have pM:=(aQ.1 hq).1;simp only[cX,uC] at hs;have:=fF.ptr (d:=.ptr .own g o n f) (i:=0) (c:=k+q) (y:=x) rfl rfl (by omega);rwa [show o+(k+q)=o+k+q by omega] at this
  |sl=>exact hs.elim
  |af=>exact hs.elim
def T9{x:C}(h:cN x.er=true):x.cN:=by cases x<;>first|trivial|(simp[C.er,cN] at h)
def agc(h:St c G zl s a w){sz:Nat}{tk:Tk}{ty:TypeId}{x y:AV}{x' y':Operand}(ho:o.op=.store ty y' x')(hsz:∃i,P.info? ty=some i/\i.size=sz)(h0:0<sz)(hd:o.dst=none)(hx:aO x' x=true)(hy:aO y' y=true)
  (hK:aR P (.store sz tk y x) s K):Good P c o a w K:=by
 obtain⟨p,e1,e2,e3⟩:=cy h hx;obtain⟨q,G1,f1,f2,f3,f4⟩:=su tk h.inv e3;obtain⟨k1,k2⟩:=hK;rw[e1] at f1 f4;have h1:=h.zI f4;obtain⟨u,u1,u2,u3⟩:=cy h1 hy;rw[<-u1] at k2;cases u with
 |aj v r pp i k=>
  simp only[C.er] at k2;obtain⟨k2,k3⟩:=k2;rw[<-f1,<-uT] at k1 k2 k3;have hsh:=HC f4.rf;have hT:=bN.flat (bN.one f4) (λx hx=>by rw[fQ] at hx;subst hx;exact hsh);simp only[kE,N8,sK] at hT;obtain⟨g,k0,d,hv,hsub,hsp⟩:=ahA h1.inv u3.rf k2 (λx _ hs=>T9 hs);have hlen:q.cells.length=sz:=by simpa using k1
  obtain⟨w',G',j1,j2,j3,j4,j5⟩:=Uh (P:=P) r pp i (k0:=k0) q.cells.length q.cells rfl k 0 h1.inv hsub (by simpa using hsp) ⟨λx hx=>⟨(xq hsh f4.ok hx).1,(xq hsh f4.ok hx).2,Jp f4.rf hx,(hT.all x hx).2.1,(hT.all x hx).2.2.1⟩,hT.apart⟩;have hcv:=Eu (by omega) hsh;refine⟨undef,w',.inr ⟨?_,rfl⟩,G',zl,_,k3,?_⟩
  ·have Kg:a.eval y'=.pointer (some ⟨g,k0,none⟩):=by rw[<-u2];exact hv
   obtain⟨ii,hi,kV⟩:=hsz;have hxv:a.eval x'=q.val:=by rw[f2,e2]
   simp[execOp,ho,Kg,hxv,Instr.storeAt,Instr.sureAddr,storeVar,hcv,Go.sizeOf,typeInfo,hi,kV,hlen,j1]
  ·rw[hd];refine h.move j2 (λt=>(j3 t).trans (f4.val t)) j5 (λb k' hs=>?_) (λt b k' hf=>?_)
   ·obtain⟨rfl,hs1,hs2⟩:=hs;simp only[nJ] at hs1 hs2;have hlt:k' - k0<q.cells.length:=by omega
    have:=(hsp (k' - k0) _ (cr hlt)).fp;rw[show k0+(k' - k0)=k' by omega] at this;exact h1.tr.dom r _ _ (C.gQ pp hsub (h1.inv.ok r) this)
   ·refine .inl ?_;rcases j4 t b k' hf with ⟨x,hx,hf⟩|hf;·exact(hT.all x hx).2.2.2 b k' hf
    ·exact⟨t,f4.mono t b k' hf⟩
 |_=>exact k2.elim
def cU(len z:Nat)(e:Nat->Nat->C):List (List C):=(List.range len).map λi=>(List.range z).map λj=>e i j
def vK(len z:Nat)(e:Nat->Nat->C):∀x∈cU len z e,x.length=z:=λx hx=>by obtain⟨i,_,rfl⟩:=aY.1 hx;simp
def Sm(len z:Nat)(e:Nat->Nat->C):(cU len z e).map (λx=>x.map C.er)=dJ z len e:=by simp only[cU,dJ,cM];refine cv λi _=>?_;show ((List.range z).map λj=>e i j).map C.er=_;rw[cM];rfl
def ow{len z:Nat}{e:Nat->Nat->C}{x:C}(hx:x∈(cU len z e).flatten):∃i j,i<len/\j<z/\x=e i j:=by obtain⟨l,hl,hx⟩:=Ic.1 hx;obtain⟨i,hi,rfl⟩:=aY.1 hl;obtain⟨j,hj,rfl⟩:=aY.1 hx;exact⟨i,j,by simpa using hi,by simpa using hj,rfl⟩
def Sl{len z:Nat}{e:Nat->Nat->C}{q:Nat}{x:C}(h0:0<z)(h:(cU len z e).flatten[q]?=some x):q / z<len/\q%z<z/\x=e (q / z) (q%z):=by
 have hq:=(aQ.1 h).1;rw[tj (vK len z e)] at hq;have hl:(cU len z e).length=len:=by simp[cU]
 rw[hl] at hq;have h1:q%z<z:=oY _ h0;have h2:q / z<len:=Ij (by rw[lC];exact hq);have Bg:q=q / z*z+q%z:=by have:=zQ q z;rw[lC] at this;omega
 have:=AN (vK len z e) (q / z) (q%z) (by rw[hl];exact h2) h1;rw[<-Bg,h] at this;simp only[cU,C.de,aq h2,jC,aq h1] at this;exact⟨h2,h1,iC this⟩
def LQ{Z:Md->Nat->Nat->Prop}{z len cap:Nat}{A:Option Ad}{e:Nat->Nat->C}(h:(C.row .own z A len cap e).ok w Z):(cU len z e).flatten.Pairwise λa b=>∀x k,a.fp x k->¬b.fp x k:=by
 obtain⟨h1,h2,h3,h4,h5⟩:=h;refine List.pairwise_flatten.2 ⟨λl hl=>?_,?_⟩
 ·obtain⟨i,hi,rfl⟩:=aY.1 hl;have hi:i<len:=by simpa using hi
  refine DM.2 (Iq (R:=λa b=>a<b) ?_ NL);intro j j' hj hj' hlt b k hf;exact(h5 i j hi (by simpa using hj) b k hf).2 i j' hi (by simpa using hj') (by simp;omega)
 ·refine DM.2 (Iq (R:=λa b=>a<b) ?_ NL);intro i i' hi hi' hlt x hx y hy b k hf;obtain⟨j,hj,rfl⟩:=aY.1 hx;obtain⟨j',hj',rfl⟩:=aY.1 hy;exact(h5 i j (by simpa using hi) (by simpa using hj) b k hf).2 i' j' (by simpa using hi') (by simpa using hj') (by simp;omega)
def JS{w1:World}{z len cap:Nat}{A:Option Ad}{e:Nat->Nat->C}(h0:0<z)(hc:∀i j,i<len->j<z->∃g o,A=some (g,o,none)/\w1.cell? ⟨g,o+i*z+j,none⟩=some (e i j).val):
  (Builtin.firstCells z len (.slice (A.map λq=>⟨q.1,q.2.1,q.2.2⟩) len cap)).run P w1=.ok ((cU len z e).flatten.map C.val).toArray w1/\(A=none->len=0):=by
 cases A with
 |none=>
  have hl:len=0:=by
   rcases Nat.eq_zero_or_pos len with h|h;·exact h
   ·obtain⟨g,o,hA,_⟩:=hc 0 0 h h0;cases hA
  subst hl;exact⟨run_firstCells_none w1 z 0 0 cap,λ_=>rfl⟩
 |some q=>
  refine⟨?_,λh=>by cases h⟩;refine run_firstCells_some w1 z len ⟨q.1,q.2.1,q.2.2⟩ len cap _ ?_ λj v hj=>?_;·rw[cX,tj (vK len z e)];simp[cU]
  ·rw[cV] at hj;cases hk:(cU len z e).flatten[j]? with
   |none=>rw[hk] at hj;cases hj
   |some x=>
    rw[hk] at hj;obtain⟨a1,a2,rfl⟩:=Sl h0 hk;injection hj with hj
    obtain⟨g,o,hA,hcl⟩:=hc _ _ a1 a2;injection hA with hA
    subst hA;have Bg:j=j / z*z+j%z:=by have:=zQ j z;rw[lC] at this;omega
    rw[sO,<-hj,<-hcl];congr 2;show o+j=_;omega
end
end M
namespace M
open Go Go.RowKit
variable [Bs]
section
variable {P:Program}
def bN.sub{w:World}{zl zb:Nat->Nat->Prop}{G G1:Nat->C}{s1:ag}{l ks:List C}(hT:bN w zl zb G l G1 s1)(hok:∀x∈ks,x.ok w (Zf zl zb))(bZ:∀x∈ks,∀b k,x.fp b k->∃y∈l,y.fp b k)
  (iq:ks.Pairwise λa b=>∀x k,a.fp x k->¬b.fp x k):bN w zl zb G ks G1 s1 where
 inv:=hT.inv
 all:=λx hx=>⟨hok x hx,λt b k hf=>by obtain⟨y,hy,hf⟩:=bZ x hx b k hf;exact(hT.all y hy).2.1 t b k hf,λb k hf=>by obtain⟨y,hy,hf⟩:=bZ x hx b k hf;exact(hT.all y hy).2.2.1 b k hf,
  λb k hf=>by obtain⟨y,hy,hf⟩:=bZ x hx b k hf;exact(hT.all y hy).2.2.2 b k hf⟩
 apart:=iq
 val:=hT.val
 mono:=hT.mono
def Ext.setCells(b:Nat):∀(vs:List Value) (o:Nat) (w:World),Ext (λg k=>g=b/\o<=k/\k<o+vs.length) w (w.setCells b o vs)
 |[],o,w=>Ext.refl _ _
 |v::vs,o,w=>by rw[World.setCells];refine((Ext.setCell w b o v).mono (S':=λg k=>g=b/\o<=k/\k<o+(v::vs).length) (λg k hs _=>⟨hs.1,by omega,by simp only[di];omega⟩)).trans (Ext.setCells b vs (o+1) _) λg k hs _=>⟨hs.1,by omega,by simp only[di];omega⟩
def ag2{w:World}{t u ty e e':TypeId}{i:TypeInfo}(ht:P.underlying t=some (.slice e))(hu:P.underlying u=some (.slice e'))(hi:P.info? e=some i){A B:Option Addr}{len cap m cap2:Nat}{news:List Value}(h:len+m<=cap)
  (hx:(Builtin.firstCells i.size m (.slice B m cap2)).run P w=.ok news.toArray w):
  (Builtin.append_ #[t,u] ty #[.slice A len cap,.slice B m cap2]).run P w=match A with
   |some a=>((storeCells (a.add (len*i.size)) news).run P w).andThen λ_ w'=>.ok (.slice (some a) (len+m) cap) w'
   |none=>.ok (.slice none (len+m) cap) w:=by
 cases A with
 |none=>simp[Builtin.append_,run_underlying ht,run_underlying hu,Go.sizeOf,typeInfo,hi,Builtin.lenOf,h,hx]
 |some a=>simp[Builtin.append_,run_underlying ht,run_underlying hu,Go.sizeOf,typeInfo,hi,Builtin.lenOf,h,hx]
def ag1{w:World}{t u ty e e':TypeId}{i:TypeInfo}{z:Value}(ht:P.underlying t=some (.slice e))(hu:P.underlying u=some (.slice e'))(hi:P.info? e=some i)(hz:i.zero=some z){A B:Option Addr}{len cap m cap2:Nat}{olds news:List Value}(h:¬len+m<=cap)
  (h63:len+m<=9223372036854775807)(hfit:Builtin.nextslicecap (len+m) cap*i.bytes<=281474976710656)
  (hx:(Builtin.firstCells i.size m (.slice B m cap2)).run P w.drew=.ok news.toArray w.drew)(hy:(Builtin.firstCells i.size len (.slice A len cap)).run P w.drew=.ok olds.toArray w.drew):
  (Builtin.append_ #[t,u] ty #[.slice A len cap,.slice B m cap2]).run P w=.ok (.slice (some ⟨w.heap.size,0,none⟩) (len+m) (grownCap w (len+m) cap e))
    (w.drew.alloc (.cells (olds.toArray++news.toArray++Builtin.zeroCells z.cells (grownCap w (len+m) cap e - (len+m))) e)):=by
 have h63':¬(9223372036854775807<((len:Int)+(m:Int))):=by omega
 have aco:¬(281474976710656<Builtin.nextslicecap (len+m) cap*i.bytes):=by omega
 simp[Builtin.append_,run_underlying ht,run_underlying hu,Go.sizeOf,typeInfo,zeroValue,hi,hz,Builtin.lenOf,h,h63',aco,Question.forced,hx,hy,newRow,grownCap];congr 2;apply qF;simp[sJ]
variable {c:Ctx}{G:Nat->C}{zl:Nat->Nat->Prop}{s:ag}{a:Act}{w:World}{o:Oper}{K:ag->Prop}
def IM(h:St c G zl s a w){G1:Nat->C}{s1:ag}{l:List C}(hT:bN w zl c.zb G l G1 s1){d z bytes:Nat}{ty ty' el EF:TypeId}{i:TypeInfo}{v:Value}{x' y':Operand}
  (ho:o.op=.call {callee:=.builtin .append,args:= #[x',y'],argTypes:= #[ty,ty']})(hu:P.underlying ty=some (.slice el))(xT:P.underlying ty'=some (.slice EF))(hi:P.info? el=some i)(hz:i.zero=some v)(hsz:i.size=z)(hb:i.bytes=bytes)(hb0:0<bytes)(h0:0<z)(hvs:v.cells.size=z)
  (hd:o.dst=some d)(hn:d<c.nt){A:Option Ad}{len cap:Nat}{e:Nat->Nat->C}(hy1:C.row .own z A len cap e∈l)(hv1:a.eval x'=(C.row .own z A len cap e).val)
  {A2:Option Ad}{m cap2:Nat}{e2:Nat->Nat->C}(Bl:a.eval y'=.slice (A2.map λq=>⟨q.1,q.2.1,q.2.2⟩) m cap2)(hc2:∀i j,i<m->j<z->∃g o,A2=some (g,o,none)/\w.cell? ⟨g,o+i*z+j,none⟩=some (e2 i j).val)
  (hk2:∀i j,i<m->j<z->(e2 i j).plain/\(e2 i j).ok w (Zf zl c.zb)/\∀b k,(e2 i j).fp b k->¬(C.row .own z A len cap e).fp b k/\∃y∈l,y.fp b k)
  (hp2:(cU m z e2).flatten.Pairwise λa b=>∀x k,a.fp x k->¬b.fp x k)(hbig:(len+m)*bytes<=140737488355328)(hpl:∀i j,i<len->j<z->(e i j).plain)
  (hK:K (put d (.row .own z (dJ z len e++dJ z m e2)) s1)):Good P c o a w K:=by
 obtain⟨y1,y2,y3,y4⟩:=hT.all _ hy1;have RY:=y1;obtain⟨r1,r2,r3,r4,r5⟩:=y1;have hk1:∀i j,i<len->j<z->∀b k,(e i j).fp b k->(C.row .own z A len cap e).fp b k:=λi j hi hj b k hf=>C.ki (r3 i j hi hj).1 (r3 i j hi hj).2.2.1 hi hj hf;have hc1:∀i j,i<len->j<z->∃g o,A=some (g,o,none)/\w.cell? ⟨g,o+i*z+j,none⟩=some (e i j).val:=λi j hi hj=>by obtain⟨g,o,q1,q2,_⟩:=r2 i j hi hj;exact⟨g,o,q1,q2⟩
 have hlen:∀x∈cU len z e++cU m z e2,x.length=z:=λx hx=>(fE.1 hx).elim (vK _ _ _ x) (vK _ _ _ x);have Rk:(cU len z e).length=len:=by simp[cU]
 have Rl:(cU m z e2).length=m:=by simp[cU]
 have E6:(cU len z e++cU m z e2).length=len+m:=by rw[gT,Rk,Rl]
 have kU:(cU len z e++cU m z e2).map (λx=>x.map C.er)=dJ z len e++dJ z m e2:=by rw[kF,Sm,Sm]
 have hall:∀x∈(cU len z e++cU m z e2).flatten,x.plain/\x.ok w (Zf zl c.zb)/\∀b k,x.fp b k->∃y∈l,y.fp b k:=λx hx=>by
  rw[zT,fE] at hx;rcases hx with hx|hx;·obtain⟨i,j,hi,hj,rfl⟩:=ow hx;exact⟨hpl i j hi hj,(r3 i j hi hj).2.2.2,λb k hf=>⟨_,hy1,hk1 i j hi hj b k hf⟩⟩
  ·obtain⟨i,j,hi,hj,rfl⟩:=ow hx;obtain⟨a1,a2,a3⟩:=hk2 i j hi hj;exact⟨a1,a2,λb k hf=>(a3 b k hf).2⟩
 have iq:(cU len z e++cU m z e2).flatten.Pairwise λa b=>∀x k,a.fp x k->¬b.fp x k:=by rw[zT];refine sF.2 ⟨LQ RY,hp2,λx hx y hy b k hf hf'=>?_⟩;obtain⟨i,j,hi,hj,rfl⟩:=ow hx;obtain⟨i',j',hi',hj',rfl⟩:=ow hy;exact((hk2 i' j' hi' hj').2.2 b k hf').1 (hk1 i j hi hj b k hf)
 have jO:bN w zl c.zb G (cU len z e++cU m z e2).flatten G1 s1:=hT.sub (λx hx=>(hall x hx).2.1) (λx hx=>(hall x hx).2.2) iq;have hfl:(cU len z e).flatten.length=len*z:=by rw[tj (vK _ _ _),Rk]
 have tC:(cU m z e2).flatten.length=m*z:=by rw[tj (vK _ _ _),Rl]
 have mZ:∀r w',(Builtin.append_ #[ty,ty'] o.type #[(C.row .own z A len cap e).val,.slice (A2.map λq=>⟨q.1,q.2.1,q.2.2⟩) m cap2]).run P w=.ok r w'->(execOp a.eval o).run P w=.ok (.value r) w':=λr w' hr=>by simp[execOp,ho,resolve,invoke,builtin,hv1,Bl,hr]
 have hmul:len+m<=(len+m)*bytes:=Nat.le_mul_of_pos_right _ hb0;subst hsz;by_cases hroom:len+m<=cap
 ·have hx:=JS (P:=P) (cap:=cap2) h0 hc2;have hr:=ag2 (P:=P) (ty:=o.type) (A:=A.map λq=>⟨q.1,q.2.1,q.2.2⟩) hu xT hi hroom hx.1;rcases r4 rfl with ⟨hA,hcap⟩|⟨g,o',arr,t,fz,hA,hh,ana,hfr⟩
  ·
   have hm:m=0:=by omega
   have hl:len=0:=by omega
   subst hm;subst hl;subst hA;subst hcap;obtain⟨G',h'⟩:=h.fresh hT (Ext.refl _ w) hn RY trivial (λb k hf=>.inr ⟨_,hy1,hf⟩);refine⟨_,w,.inl (mZ _ _ hr),G',zl,_,hK,?_⟩;rw[hd];exact h'
  ·subst hA;have Ki:(len+m)*i.size<=cap*i.size:=kC _ hroom;rw[fD] at Ki
   have hst:=run_storeCells_cells (P:=P) g (o'+len*i.size) ((cU m i.size e2).flatten.map C.val) 0 w (λj hj=>by
     rw[cX,tC] at hj;rw[cell_of_row _ _ _ _ _ fz hh];rw[DS (by omega)];rfl) (λj hj=>by
     rw[cX,tC] at hj;exact hfr _ (by omega) (by omega)) (λu hu=>by
     obtain⟨x,hx,rfl⟩:=aY.1 hu;obtain⟨i',j',hi',hj',rfl⟩:=ow hx;exact Inv.qV (C.mc (hk2 i' j' hi' hj').1))
   simp only[cG,sO,hst,nJ,Result.andThen_ok] at hr;have hE:=Ext.setCells g ((cU m i.size e2).flatten.map C.val) (o'+len*i.size) w;rw[cX,tC] at hE;have hin:=World.cell?_setCells_in g ((cU m i.size e2).flatten.map C.val) (o'+len*i.size) w;generalize hw':w.setCells g (o'+len*i.size) ((cU m i.size e2).flatten.map C.val)=w' at hr hE hin;have hg:g<w.heap.size:=(gC.1 hh).1;have xO:∀k,(C.row .own i.size (some (g,o',none)) len cap e).fp g k:=λk=>⟨rfl,.inl ⟨_,rfl⟩⟩
   obtain⟨gm,rB,hs'⟩:∃gm,w'.heap[g]?=some (.cells gm t fz)/\gm.size=arr.size:=by
    rcases hE.block g hg with e'|⟨a1,a2,t',lJ,q1,q2,q3,q4⟩;·exact⟨arr,e'.trans hh,rfl⟩
    ·rw[hh] at q1;injection q1 with q1
     injection q1 with b1 b2 b3
     subst b1;subst b2;subst b3;exact⟨a2,q2,q3⟩
   have hok:(wg g o' i.size cap (cU len i.size e++cU m i.size e2)).ok w' (Zf zl c.zb):=by
    refine TJ hlen (by rw[E6];exact hroom) rB (by omega) (λk h1 h2=>(hE.frozen hg).trans (hfr k h1 h2)) (λq x hq=>?_) (λx hx=>?_) iq (λx hx b k hf=>?_)
    ·rw[zT] at hq;by_cases hql:q<len*i.size
     ·rw[qK (by omega)] at hq;obtain⟨a1,a2,rfl⟩:=Sl h0 hq;obtain⟨g',o2,hA,hcl⟩:=hc1 _ _ a1 a2;injection hA with hA
      injection hA with b1 b2
      injection b2 with b2
      subst b1;subst b2;have Bg:q=q / i.size*i.size+q%i.size:=by have:=zQ q i.size;rw[lC] at this;omega
      refine hE.cell (λhs=>by omega) ?_;rw[<-hcl];congr 2;omega
     ·rw[nN (by omega)] at hq;rw[hfl] at hq;have Bf:=(aQ.1 hq).1;rw[tC] at Bf;have:=hin (λj hj=>by rw[cX,tC] at hj;rw[cell_of_row _ _ _ _ _ fz hh,DS (by omega)];rfl) (q - len*i.size) (by rw[cX,tC];exact Bf)
      rw[show o'+len*i.size+(q - len*i.size)=o'+q by omega] at this;rw[this,<-cr,cV,hq];rfl
    ·obtain⟨a1,a2,a3⟩:=hall x hx;refine⟨C.mc a1,C.Dc a1,hT.fits' hE (λb k hz hs=>?_) a2 (λb k hf hs=>?_)⟩;·obtain⟨rfl,_⟩:=hs;exact hz.elim (y3 b k (xO k)).1 (y3 b k (xO k)).2
     ·obtain⟨rfl,_⟩:=hs;rw[zT,fE] at hx;rcases hx with hx|hx;·obtain⟨i',j',hi',hj',rfl⟩:=ow hx;exact(r5 i' j' hi' hj' b k hf).1 rfl o' rfl
      ·obtain⟨i',j',hi',hj',rfl⟩:=ow hx;exact((hk2 i' j' hi' hj').2.2 b k hf).1 (xO k)
    ·intro hbg;subst hbg;rw[zT,fE] at hx;rcases hx with hx|hx;·obtain⟨i',j',hi',hj',rfl⟩:=ow hx;exact(r5 i' j' hi' hj' b k hf).1 rfl o' rfl
     ·obtain⟨i',j',hi',hj',rfl⟩:=ow hx;exact((hk2 i' j' hi' hj').2.2 b k hf).1 (xO k)
   obtain⟨G',h'⟩:=h.fresh' hT hE (λb k hs=>.inr ⟨_,hy1,by rw[hs.1];exact xO k⟩) hn hok trivial (λb k hf=>by
    rcases TI hlen hf with rfl|⟨x,hx,hf⟩;·exact .inr ⟨_,hy1,xO k⟩
    ·exact .inr ((hall x hx).2.2 b k hf))
   refine⟨_,w',.inl (mZ _ _ hr),G',zl,_,hK,?_⟩;rw[hd];rw[TH hlen,kU,agL,E6] at h';exact h'
 ·have hx:=JS (P:=P) (w1:=w.drew) (cap:=cap2) h0 hc2;have hy:=JS (P:=P) (w1:=w.drew) (cap:=cap) h0 hc1;have hr:=ag1 (P:=P) (ty:=o.type) hu xT hi hz hroom (by omega) (growslice_fits (by omega) (by rw[hb];exact hbig)) hx.1 hy.1;have hge:=grownCap_ge w (len+m) cap el;generalize grownCap w (len+m) cap el=cap' at hr hge;refine jY.good (good_row h (L:=cU len i.size e++cU m i.size e2) (cap:=cap') (fz:=(0,0)) hlen (by rw[E6];exact hge) jO (λx hx=>(hall x hx).1) hd hn (P4 w _) (A8 w.drew _) ?_ (λk _ hh=>by simp at hh) (λq x hq=>?_) (by rw[E6];exact mZ _ _ hr) (by rw[kU];exact hK));·simp only[NQ,nH,cX,hfl,tC,size_zeroCells,hvs];rw[<-fD,<-fD];exact kC _ (by omega)
  ·rw[zT] at hq;have Bf:=(aQ.1 hq).1;have hmap:(((cU len i.size e).flatten++(cU m i.size e2).flatten).map C.val)[q]?=some x.val:=by rw[cV,hq];rfl
   rw[N4 (by rw[NQ,nH,nH,cX,cX,<-gT];exact Bf)];rw[<-hmap,kF];simp
end
end M
namespace M
open Go Go.RowKit
variable [Bs]
namespace C
def belows(r:Nat)(p:Path):Nat->Path->Bool:=λs q=>s==r && qT p q
def CL(r:Nat)(p:Path){α:Type}(f:α->X):∀l:List α,X.rQ r p (l.map f)=l.map λa=>(f a).fk r p
 |[]=>rfl
 |a::l=>by simp only[bC,X.rQ,CL r p f l]
def yJ(r:Nat)(p:Path):∀c:C,(c.az (belows r p)).er=c.er.fk r p
 |.ref v s q=>by simp only[az,er,X.fk,belows];cases s==r && qT p q<;>rfl
 |.aj v s q i c=>by simp only[az,er,X.fk,belows];cases s==r && qT p q<;>rfl
 |.cut v s q i c=>by simp only[az,er,X.fk,belows];cases s==r && qT p q<;>rfl
 |.ptr m g o n c=>by simp only[az,er,X.fk,CL];congr 1;exact cv λj _=>yJ r p (c j)
 |.agg n c=>by simp only[az,er,X.fk,CL];congr 1;exact cv λj _=>yJ r p (c j)
 |.ak n c=>by simp only[az,er,X.fk,CL];congr 1;exact cv λj _=>yJ r p (c j)
 |.fn f n c=>by simp only[az,er,X.fk,CL];congr 1;exact cv λj _=>yJ r p (c j)
 |.dead _=>by simp only[az,er,X.fk]
 |.int _ _=>by simp only[az,er,X.fk]
 |.bool _=>by simp only[az,er,X.fk]
 |.str _=>by simp only[az,er,X.fk]
 |.row _ _ _ _ _ _=>by simp only[az,er,X.fk]
def sV(G:Nat->C):∀c:C,c.bare->c.rf G
 |.ref _ _ _,h=>h.elim
 |.aj _ _ _ _ _,h=>h.elim
 |.cut _ _ _ _ _,h=>h.elim
 |.ptr m g o n c,h=>λj hj=>sV G (c j) (h j hj)
 |.agg n c,h=>λj hj=>sV G (c j) (h j hj)
 |.ak n c,h=>λj hj=>sV G (c j) (h j hj)
 |.fn f n c,h=>λj hj=>sV G (c j) (h j hj)
 |.dead _,_=>trivial
 |.int _ _,_=>trivial
 |.bool _,_=>trivial
 |.str _,_=>trivial
 |.row _ _ _ _ _ _,_=>trivial
def xh{l:List X}:X.bare.jj l=true↔∀x∈l,x.bare=true:=by
 induction l with
 |nil=>simp[X.bare.jj]
 |cons a l ih=>simp[X.bare.jj,ih]
def mL:∀c:C,c.er.bare=true↔c.bare
 |.ref _ _ _=>by simp[er,X.bare,bare]
 |.aj _ _ _ _ _=>by simp[er,X.bare,bare]
 |.cut _ _ _ _ _=>by simp[er,X.bare,bare]
 |.ptr m g o n c=>by simp only[er,X.bare,bare,xh,aY,oX];exact⟨λh j hj=>(mL (c j)).1 (h _ ⟨j,hj,rfl⟩),λh x ⟨j,hj,e⟩=>e▸(mL (c j)).2 (h j hj)⟩
 |.agg n c=>by simp only[er,X.bare,bare,xh,aY,oX];exact⟨λh j hj=>(mL (c j)).1 (h _ ⟨j,hj,rfl⟩),λh x ⟨j,hj,e⟩=>e▸(mL (c j)).2 (h j hj)⟩
 |.ak n c=>by simp only[er,X.bare,bare,xh,aY,oX];exact⟨λh j hj=>(mL (c j)).1 (h _ ⟨j,hj,rfl⟩),λh x ⟨j,hj,e⟩=>e▸(mL (c j)).2 (h j hj)⟩
 |.fn f n c=>by simp only[er,X.bare,bare,xh,aY,oX];exact⟨λh j hj=>(mL (c j)).1 (h _ ⟨j,hj,rfl⟩),λh x ⟨j,hj,e⟩=>e▸(mL (c j)).2 (h j hj)⟩
 |.dead _=>by simp[er,X.bare,bare]
 |.int _ _=>by simp[er,X.bare,bare]
 |.bool _=>by simp[er,X.bare,bare]
 |.str _=>by simp[er,X.bare,bare]
 |.row _ _ _ _ _ _=>by simp[er,X.bare,bare]
def Th:∀{p q:Path},X.pfx p q=true->¬p.length<q.length->q=p
 |[],[],_,_=>rfl
 |[],_::_,_,h=>by simp at h
 |_::_,[],h,_=>by simp[X.pfx] at h
 |x::p,y::q,h,hl=>by simp only[X.pfx,av,ey] at h;obtain⟨⟨h1,h2⟩,h3⟩:=h;rw[Th h3 (by simpa using hl)];congr 1;cases x;cases y;simp only at h1 h2;rw[h1,h2]
end C
def Q7(r:Nat)(p:Path)(t:Nat):∀s:ag,get (tX r p s) t=(get s t).fk r p
 |[]=>by simp[tX,get,X.fk]
 |(k,v)::s=>by
  simp only[tX,get];cases k==t;·exact Q7 r p t s
  ·rfl
namespace Inv
variable {w w':World}{zl aH zb:Nat->Nat->Prop}{G:Nat->C}{s:ag}{S:Nat->Nat->Prop}
def fk(h:Inv w zl zb G s)(r:Nat)(p:Path):Inv w zl zb (λt=>(G t).az (C.belows r p)) (tX r p s):=
 h.off _ λt=>by rw[C.yJ,Q7,h.er]
def I0(h:Inv w zl zb G s)(r:Nat)(p:Path)(hfree:∀t,(G t).free (C.belows r p)){d d':C}(hsub:(G r).sub p=some d)(hF:C.gD d d')(hl:C.iF d d')(Rt:d'.rf G/\d'.free (C.belows r p))(hE:Ext S w w')
  (hS:∀b k,S b k->d.fp b k\/((∀t,¬(G t).fp b k)/\¬zl b k/\¬zb b k))(hok:d'.ok w' (Zf aH zb))(hz1:∀b k,zl b k->aH b k)(hz2:∀b k,aH b k->¬d'.fp b k/\b<w'.heap.size/\∀t,(G t).fp b k->d.fp b k)
  (bZ:∀b k,d'.fp b k->d.fp b k\/((∀t,¬(G t).fp b k)/\¬zb b k)):
  Inv w' aH zb (fP G r (C.putAt p (G r) d')) ((r,X.putAt p (get s r) d'.er)::s)/\(∀t,(fP G r (C.putAt p (G r) d') t).val=(G t).val)/\
   ∀t b k,(fP G r (C.putAt p (G r) d') t).fp b k->d'.fp b k\/((G t).fp b k/\¬d.fp b k):=by
 have ck:∀{b k},d.fp b k->(G r).fp b k:=λhf=>C.gQ p hsub (h.ok r) hf
 have hZ:∀m b k,Zf zl zb m b k->¬S b k:=λm b k hz hs=>by
  rcases hS b k hs with hs|hs;·exact h.zY r m b k hz (ck hs)
  ·cases m with
   |own=>exact hz.elim
   |sl=>exact hs.2.1 hz
   |af=>exact hz.elim hs.2.1 hs.2.2
 have hM:∀m b k,Zf zl zb m b k->Zf aH zb m b k:=λm b k hz=>by
  cases m with
  |own=>exact hz
  |sl=>exact hz1 b k hz
  |af=>exact hz.imp (hz1 b k) id
 obtain⟨i1,i2,i3⟩:=C.C5 hM hE hZ p (G r) d d' (h.ok r) hsub hok hl (λb k hs=>(hS b k hs).imp id λhn=>hn.1 r) (λb k hf=>(bZ b k hf).imp id λhn=>hn.1 r)
 have hr':∀t,t≠r->∀b k,(C.putAt p (G r) d').fp b k->¬(G t).fp b k:=λt e b k hf=>by
  rcases i2 b k hf with hf|hf
  ·rcases bZ b k hf with hf|hf;·exact h.sep r t (λe'=>e e'.symm) b k (ck hf)
   ·exact hf.1 t
  ·exact h.sep r t (λe'=>e e'.symm) b k hf.1
 have key:∀c':C,c'.free (C.belows r p)->c'.rf G->c'.rf (fP G r (C.putAt p (G r) d')):=λc' hf hr=>C.mh (C.belows r p) (λs' q' y' hk hs=>by
  by_cases e:s'=r
  ·subst e;rw[dG];cases hp:X.pfx p q' with
   |false=>exact C.HL p q' (G s') d' y' hp hs
   |true=>
    have hlen:¬p.length<q'.length:=by simpa [C.belows,qT,hp] using hk
    have he:=C.Th hp hlen;subst he;rw[hsub] at hs;injection hs with hs
    subst hs;exact .inl ⟨d',hF,C.HM _ hsub⟩
  ·rw[dr _ _ e];exact C.self y' _ q' hs) c' hf hr
 refine⟨⟨λt=>?_,λt=>?_,λt u hne b k hf=>?_,λt b k hf=>?_,λt=>?_,λb k hz=>?_⟩,λt=>?_,λt b k hf=>?_⟩
 ·rw[xK];by_cases e:t=r;·subst e;rw[dG,aq rfl,C.MB,h.er]
  ·rw[dr _ _ e,ay e];exact h.er t
 ·by_cases e:t=r;·subst e;rw[dG];exact i1
  ·rw[dr _ _ e];refine C.gL hM _ (C.fu hE hZ _ (λb k hf hs=>?_) (h.ok t));rcases hS b k hs with hs|hs;·exact h.sep t r e b k hf (ck hs)
   ·exact hs.1 t hf
 ·by_cases e:t=r;·subst e;rw[dG] at hf;rw[dr _ _ (λe=>hne e.symm)];exact hr' u (λe=>hne e.symm) b k hf
  ·rw[dr _ _ e] at hf;by_cases e':u=r;·subst e';rw[dG];exact λhc=>hr' t e b k hc hf
   ·rw[dr _ _ e'];exact h.sep t u hne b k hf
 ·by_cases e:t=r
  ·subst e;rw[dG] at hf;rcases i2 b k hf with hf|⟨hf,hn⟩
   ·refine⟨λhz=>(hz2 b k hz).1 hf,λhz=>?_⟩;rcases bZ b k hf with hf|hf;·exact(h.fz t b k (ck hf)).2 hz
    ·exact hf.2 hz
   ·exact⟨λhz=>hn ((hz2 b k hz).2.2 t hf),(h.fz t b k hf).2⟩
  ·rw[dr _ _ e] at hf;exact⟨λhz=>h.sep t r e b k hf (ck ((hz2 b k hz).2.2 t hf)),(h.fz t b k hf).2⟩
 ·by_cases e:t=r
  ·subst e;rw[dG]
   have inner:∀(p':Path) (c':C),c'.free (C.belows t p)->c'.rf G->(C.putAt p' c' d').rf (fP G t (C.putAt p (G t) d')):=by
    intro p';induction p' with
    |nil=>intro c' _ _;exact key d' Rt.2 Rt.1
    |cons x p' ih=>
     intro c' jl jP;simp only[C.putAt];cases hst:c'.step x with
     |none=>exact key c' jl jP
     |some z=>
      cases c' with
      |row m sz A len cap e=>trivial
      |ptr m g o n c=>
       simp only[C.step] at hst;split at hst
       ·rename_i hq;injection hst with hst
        intro j hj;simp only[C.cg];split;·exact ih z (by rw[<-hst];exact jl _ hq.2) (by rw[<-hst];exact jP _ hq.2)
        ·exact key _ (jl j hj) (jP j hj)
       ·cases hst
      |agg n c=>
       simp only[C.step] at hst;split at hst
       ·rename_i hq;injection hst with hst
        intro j hj;simp only[C.cg];split;·exact ih z (by rw[<-hst];exact jl _ hq.2) (by rw[<-hst];exact jP _ hq.2)
        ·exact key _ (jl j hj) (jP j hj)
       ·cases hst
      |ak n c=>
       simp only[C.step] at hst;split at hst
       ·rename_i hq;injection hst with hst
        intro j hj;simp only[C.cg];split;·exact ih z (by rw[<-hst];exact jl _ hq.2) (by rw[<-hst];exact jP _ hq.2)
        ·exact key _ (jl j hj) (jP j hj)
       ·cases hst
      |_=>simp[C.step] at hst
   exact inner p (G t) (hfree t) (h.rf t)
  ·rw[dr _ _ e];exact key _ (hfree t) (h.rf t)
 ·exact hz.elim (λhz=>(hz2 b k hz).2.1) λhz=>jd (h.cC b k (.inr hz)) hE.size
 ·by_cases e:t=r;·subst e;rw[dG];exact i3.val
  ·rw[dr _ _ e]
 ·by_cases e:t=r;·subst e;rw[dG] at hf;exact i2 b k hf
  ·rw[dr _ _ e] at hf;exact .inr ⟨hf,λhd=>h.sep t r e b k hf (ck hd)⟩
def OL(h:Inv w zl zb G s)(hE:Ext S w w')(hS:∀b k,S b k->(∀t,¬(G t).fp b k)/\¬zl b k/\¬zb b k)(hz1:∀b k,zl b k->aH b k)(hz2:∀b k,aH b k->b<w'.heap.size/\∀t,¬(G t).fp b k):Inv w' aH zb G s:=by
 have h1:=h.ext hE (λt b k hf hs=>(hS b k hs).1 t hf) (λb k hz hs=>hz.elim (hS b k hs).2.1 (hS b k hs).2.2);refine⟨h1.er,λt=>C.gL (λm b k hz=>?_) _ (h1.ok t),h1.sep,λt b k hf=>⟨λhz=>(hz2 b k hz).2 t hf,(h1.fz t b k hf).2⟩,h1.rf,λb k hz=>hz.elim (λhz=>(hz2 b k hz).1) λhz=>h1.cC b k (.inr hz)⟩;cases m with
 |own=>exact hz
 |sl=>exact hz1 b k hz
 |af=>exact hz.imp (hz1 b k) id
end Inv
end M
namespace M
open Go Go.RowKit
variable [Bs]
section
variable {P:Program}{c:Ctx}{G:Nat->C}{zl:Nat->Nat->Prop}{s:ag}{a:Act}{w:World}{o:Oper}{K:ag->Prop}
def afS(h:St c G zl s a w){sz:Nat}{z:List X}{ty el:TypeId}{ii:TypeInfo}{v:Value}{x:AV}{x':Operand}(ho:o.op=.call {callee:=.builtin .clear,args:= #[x'],argTypes:= #[ty]})(hu:P.underlying ty=some (.slice el))(hi:P.info? el=some ii)(hz:ii.zero=some v)
  (Ki:nU v.cells.toList z=true)(hzs:z.length=sz)(h0:0<sz)(hd:o.dst=none)(hx:aO x' x=true)(hK:aR P (.uX sz z x) s K):Good P c o a w K:=by
 obtain⟨q,q1,q2,q3⟩:=cy h hx;simp only[aR] at hK;rw[<-q1] at hK;cases q with
 |cut vv r p lo hi'=>
  simp only[C.er] at hK;obtain⟨m,bQ,A,len,cap,e,A',cap',hs,hv,hlo,hhi,hcap,jk,-,-⟩:=q3.rf;unfold look at hK;rw[<-h.inv.er,C.gP,hs] at hK;cases m with
  |own=>
   simp only[cG,C.er] at hK;obtain⟨rfl,hK⟩:=hK;obtain⟨zs,Z⟩:=DU w zl c.zb Ki;have hzl:zs.length=z.length:=by rw[<-Z.er];simp
   have hvs:v.cells.size=z.length:=by rw[<-hzl,<-DL,<-Z.val];simp
   have hok:=C.iB p hs (h.inv.ok r);have hin:∀b k,(C.row .own bQ A len cap e).fp b k->(G r).fp b k:=λb k hf=>C.gQ p hs (h.inv.ok r) hf;obtain⟨h1,h2,h3,h4,h5⟩:=hok;let e':Nat->Nat->C:=λi j=>if lo<=i/\i<hi' then zs.getD j (.dead undef) else e i j
   have he:∀i j,(lo<=i/\i<hi')->e' i j=zs.getD j (.dead undef):=λi j hh=>aq hh;have hne:∀i j,¬(lo<=i/\i<hi')->e' i j=e i j:=λi j hh=>ay hh;have Bu:∀j,j<bQ->zs.getD j (.dead undef)∈zs:=λj hj=>cT (by omega) _;have kW:∀i j,i<len->j<bQ->∀b k,(e i j).fp b k->(C.row .own bQ A len cap e).fp b k:=λi j hi hj b k hf=>⟨rfl,.inr ⟨i,j,hi,hj,hf⟩⟩
   have vg:∀b k,(C.row .own bQ A len cap e').fp b k->(C.row .own bQ A len cap e).fp b k:=λb k hf=>by
    obtain⟨_,hA|⟨i,j,hi2,hj,hf⟩⟩:=hf;·exact⟨rfl,.inl hA⟩
    ·by_cases hh:lo<=i/\i<hi';·rw[he i j hh] at hf;exact((Z.all _ (Bu j hj)).2.2 b k hf).elim
     ·rw[hne i j hh] at hf;exact kW i j hi2 hj b k hf
   have run:∃w',(execOp a.eval o).run P w=.ok (.value (.tuple #[])) w'/\Ext (λb k=>∃o',A=some (b,o',none)) w w'/\∀i j,i<len->j<bQ->∃g o',A=some (g,o',none)/\w'.cell? ⟨g,o'+i*bQ+j,none⟩=some (e' i j).val:=by
    have mZ:∀n' A2 c2 r w',a.eval x'=.slice A2 n' c2->(Builtin.clear_ #[ty] o.type #[.slice A2 n' c2]).run P w=.ok r w'->(execOp a.eval o).run P w=.ok (.value r) w':=by intro n' A2 c2 r w' hh hr;simp[execOp,ho,hh,resolve,invoke,builtin,hr]
    by_cases hn0:hi' - lo=0
    ·refine⟨w,?_,Ext.refl _ _,λi j ng hj=>?_⟩
     ·have Bl:a.eval x'=.slice (Option.map (λq:Ad=>⟨q.1,q.2.1,q.2.2⟩) A') 0 cap':=by rw[<-q2,C.val,hv,hn0]
      refine mZ _ _ _ _ _ Bl ?_;cases A'<;>simp[Builtin.clear_,run_underlying hu]
     ·obtain⟨g,o',b1,b2,_⟩:=h2 i j ng hj;exact⟨g,o',b1,by rw[b2,hne i j (by omega)]⟩
    ·obtain⟨g,o',b1,_,_⟩:=h2 lo 0 (by omega) h0;have hAs:A'=some (g,o'+lo*bQ,none):=by rw[jk (by omega),b1,cG,qQ]
     have hall:∀i j,i<len->j<bQ->w.cell? ⟨g,o'+i*bQ+j,none⟩=some (e i j).val:=λi j ng hj=>by
      obtain⟨g2,o2,c1,c2,_⟩:=h2 i j ng hj;rw[b1] at c1;injection c1 with c1
      injection c1 with c3 c4
      injection c4 with c4
      subst c3;subst c4;exact c2
     have Kn:∀k,o'<=k->k<o'+cap*bQ->w.frozen? ⟨g,k,none⟩=false:=by
      rcases h4 rfl with ⟨d1,_⟩|⟨g2,o2,arr,t,fz,d1,d2,d3,d4⟩;·rw[b1] at d1;cases d1
      ·rw[b1] at d1;injection d1 with d1
       injection d1 with d5 d6
       injection d6 with d6
       subst d5;subst d6;exact d4
     let vs:List Value:=(Builtin.zeroCells v.cells (hi' - lo)).toList;have hvl:vs.length=(hi' - lo)*bQ:=by simp[vs,Builtin.zeroCells,hvs,hzs]
     have RW:∀k (hk:k<vs.length),vs[k]=(zs.getD (k%bQ) (.dead undef)).val:=by
      intro k hk;have hm:k%bQ<zs.length:=by rw[hzl,hzs];exact oY _ h0
      have hm2:k%bQ<v.cells.size:=by omega
      have e1:vs[k]=v.cells[k%v.cells.size]!:=by simp[vs,Builtin.zeroCells]
      rw[e1,hvs,hzs,getElem!_pos v.cells (k%bQ) hm2];have:=dB (λt:List Value=>t[k%bQ]?) Z.val;simp only[cV] at this;rw[cr hm] at this;rw[lE,cr hm];simp only[cG,Array.getElem?_toList,DS hm2,dH] at this;exact this.symm
     have hidx:∀k,k<(hi' - lo)*bQ->k / bQ<hi' - lo/\k=k / bQ*bQ+k%bQ:=λk hk=>by refine⟨(Nat.div_lt_iff_lt_mul h0).2 hk,?_⟩;have:=zQ k bQ;rw[lC] at this;omega
     have RN:∀k,k<(hi' - lo)*bQ->o'+lo*bQ+k=o'+(lo+k / bQ)*bQ+k%bQ:=λk hk=>by have:=(hidx k hk).2;rw[fD];omega
     have hsome:∀j,j<vs.length->(w.cell? ⟨g,o'+lo*bQ+j,none⟩).isSome=true:=λj hj=>by rw[hvl] at hj;rw[RN j hj,hall _ _ (by have:=(hidx j hj).1;omega) (oY _ h0)];rfl
     have hst:=run_storeCells_cells (P:=P) g (o'+lo*bQ) vs 0 w (by simpa using hsome) (λj hj=>by
      rw[hvl] at hj;refine Kn _ (by omega) ?_;rw[nJ,RN j hj];have h7:=(hidx j hj).1;have h8:(lo+j / bQ+1)*bQ<=cap*bQ:=kC _ (by omega);have h9:=oY j h0;rw[fD,wM] at h8;omega) (λu hu=>by
      obtain⟨k,hk,rfl⟩:=nO hu;rw[RW k hk];exact Inv.qV (C.mc (Z.all _ (Bu _ (oY _ h0))).1))
     have hE:=Ext.setCells g vs (o'+lo*bQ) w;have acA:=World.cell?_setCells_in g vs (o'+lo*bQ) w hsome;simp only[nJ] at hst;refine⟨w.setCells g (o'+lo*bQ) vs,?_,hE.mono λb k hh _=>⟨o',by rw[b1,hh.1]⟩,λi j ng hj=>⟨g,o',b1,?_⟩⟩
     ·have Bl:a.eval x'=.slice (some ⟨g,o'+lo*bQ,none⟩) (hi' - lo) cap':=by rw[<-q2,C.val,hv,hAs];rfl
      refine mZ _ _ _ _ _ Bl ?_;obtain⟨m,hm⟩:∃m,hi' - lo=m+1:=⟨hi' - lo - 1,by omega⟩;have KP:∀w,(zeroValue el).run P w=.ok v w:=by intro w;simp[zeroValue,typeInfo,hi,hz]
      simp only[vs,hm] at hst⊢;simp[Builtin.clear_,run_underlying hu,KP,hst]
     ·by_cases hh:lo<=i/\i<hi'
      ·have hk:(i - lo)*bQ+j<vs.length:=by rw[hvl];have:(i - lo+1)*bQ<=(hi' - lo)*bQ:=kC _ (by omega);rw[fD,wM] at this;omega
       have:=acA _ hk;rw[RW _ hk,Nat.mul_add_mod_self_right,NU hj] at this;have hq:lo*bQ+(i - lo)*bQ=i*bQ:=by rw[<-fD];congr 1;omega
       rw[show o'+lo*bQ+((i - lo)*bQ+j)=o'+i*bQ+j by omega] at this;rw[he i j hh];exact this
      ·rw[hne i j hh,World.cell?_setCells_out,hall i j ng hj];intro _ _;simp only;rw[hvl];by_cases hl:i<lo;·left;have:(i+1)*bQ<=lo*bQ:=kC _ (by omega);rw[fD,wM] at this;omega
       ·right;have t1:hi'*bQ<=i*bQ:=kC _ (by omega);have t2:lo*bQ+(hi' - lo)*bQ=hi'*bQ:=by rw[<-fD];congr 1;omega
        omega
   obtain⟨w',hrun,hE,hcell⟩:=run;have tu:∀b k,(∃o',A=some (b,o',none))->(C.row .own bQ A len cap e).fp b k:=λb k hh=>⟨rfl,.inl hh⟩;have Rn:∀m b k,Zf zl c.zb m b k->¬(∃o',A=some (b,o',none)):=λm b k hz hh=>h.inv.zY r m b k hz (hin b k (tu b k hh))
   have Kj:(C.row .own bQ A len cap e').ok w' (Zf zl c.zb):=by
    refine⟨h1,λi j ng hj=>?_,λi j ng hj=>?_,λhm=>?_,λi j ng hj b k hf=>?_⟩;·obtain⟨g,o',c1,c2⟩:=hcell i j ng hj;exact⟨g,o',c1,c2,λhm=>(hm rfl).elim⟩
    ·obtain⟨a1,a2,a3,a4⟩:=h3 i j ng hj;by_cases hh:lo<=i/\i<hi';·rw[he i j hh];obtain⟨b1,b2,b3⟩:=Z.all _ (Bu j hj);exact⟨C.mc b1,C.Dc b1,by cases hq:zs.getD j (.dead undef)<;>first|trivial|exact .inl rfl,C.fu hE Rn _ (λb k hf=>(b3 b k hf).elim) b2⟩
     ·rw[hne i j hh];exact⟨a1,a2,a3,C.fu hE Rn _ (λb k hf hS=>by obtain⟨o',hA⟩:=hS;exact(h5 i j ng hj b k hf).1 rfl o' hA) a4⟩
    ·rcases h4 hm with hh|⟨g,o',arr,t,fz,d1,d2,d3,d4⟩;·exact .inl hh
     ·have hg:g<w.heap.size:=(gC.1 d2).1
      obtain⟨gm,rB,hs'⟩:∃gm,w'.heap[g]?=some (.cells gm t fz)/\gm.size=arr.size:=by
       rcases hE.block g hg with e'|⟨a1,a2,t',lJ,q1,q2,q3,q4⟩;·exact⟨arr,e'.trans d2,rfl⟩
       ·rw[d2] at q1;injection q1 with q1
        injection q1 with b1 b2 b3
        subst b1;subst b2;subst b3;exact⟨a2,q2,q3⟩
      exact .inr ⟨g,o',gm,t,fz,d1,rB,by omega,λk k1 k2=>(hE.frozen hg).trans (d4 k k1 k2)⟩
    ·by_cases hh:lo<=i/\i<hi';·rw[he i j hh] at hf;exact((Z.all _ (Bu j hj)).2.2 b k hf).elim
     ·rw[hne i j hh] at hf;obtain⟨a1,a2⟩:=h5 i j ng hj b k hf;refine⟨a1,λi' j' hi2 hj2 vn hf'=>?_⟩;by_cases rB:lo<=i'/\i'<hi';·rw[he i' j' rB] at hf';exact(Z.all _ (Bu j' hj2)).2.2 b k hf'
      ·rw[hne i' j' rB] at hf';exact a2 i' j' hi2 hj2 vn hf'
   have hk0:=h.inv.fk r p;have hs0:((G r).az (C.belows r p)).sub p=some (C.row .own bQ A len cap e):=C.jr _ p _ _ (h.inv.ok r) hs
   obtain⟨i1,i2,i3⟩:=hk0.I0 r p (λt=>C.gK _ _) hs0 (C.gD.row .own .own bQ A len cap e e') ⟨rfl,λh=>h,λh=>h,λh=>h,λm h=>h⟩ ⟨trivial,trivial⟩ hE (λb k hs=>.inl (tu b k hs)) Kj (λb k hz=>hz)
    (λb k hz=>⟨λhf=>(h.inv.fz r b k (hin b k (vg b k hf))).1 hz,jd (h.inv.cC b k (.inl hz)) hE.size,λt hf=>by rw[C.cP] at hf;exact((h.inv.fz t b k hf).1 hz).elim⟩) (λb k hf=>.inl (vg b k hf))
   have kU:(C.row .own bQ A len cap e').er=.row .own bQ (tf lo hi' z ((List.range len).map λi=>(List.range bQ).map λj=>(e i j).er)):=by
    simp only[C.er,tf];congr 1;apply iE;intro i;rw[Oa,C.de,C.de];split
    ·simp only[cG,dH];by_cases hh:lo<=i/\i<hi';·rw[aq hh,<-Z.er,<-nE zs (.dead undef) C.er,hzl,hzs];exact cv λj _=>by rw[he i j hh]
     ·rw[ay hh];exact cv λj _=>by rw[hne i j hh]
    ·rfl
   rw[kU] at i1
   have hst:St c _ zl _ a w':=h.move i1 (λt=>(i2 t).trans (C.js _ _)) hE (λb k hs=>h.tr.dom r b k (hin b k (tu b k hs))) (λt b k hf=>by
    rcases i3 t b k hf with hd|⟨hh,_⟩;·exact .inl ⟨r,hin b k (vg b k hd)⟩
    ·rw[C.cP] at hh;exact .inl ⟨t,hh⟩)
   exact⟨.tuple #[],w',.inl hrun,_,zl,_,hK,by rw[hd];exact hst⟩
  |sl=>exact hK.elim
  |af=>exact hK.elim
 |_=>exact hK.elim
end
end M
namespace M
open Go Go.RowKit
variable [Bs]
section
variable {P:Program}{c:Ctx}{G:Nat->C}{zl:Nat->Nat->Prop}{s:ag}{a:Act}{w:World}{o:Oper}{K:ag->Prop}
def Mx{x:C}(hc:x.cell)(hs:x.cN):x.plain:=by cases x<;>first|exact hc|exact hs.elim|trivial
def AJ{x:C}{m:Md}{z:Nat}{xs:List (List X)}(h:x.er=.row m z xs):∃A len cap e,x=.row m z A len cap e/\xs=dJ z len e:=by
 cases x with
 |row m' z' A len cap e=>
  simp only[C.er] at h;injection h with h1 h2 h3
  subst h1;subst h2;exact⟨A,len,cap,e,rfl,h3.symm⟩
 |_=>simp[C.er] at h
def TX{z len:Nat}{e:Nat->Nat->C}(h:scalars (dJ z len e)){i j:Nat}(hi:i<len)(hj:j<z):scalar (e i j).er=true:=
 h _ (aY.2 ⟨i,by simpa using hi,rfl⟩) _ (aY.2 ⟨j,by simpa using hj,rfl⟩)
def TY{x:C}(h:scalar x.er=true):x.plain/\∀b k,¬x.fp b k:=by cases x<;>first|exact⟨trivial,λ_ _ h=>h⟩|(simp[C.er,scalar] at h)
def ahJ{w:World}{zl zb:Nat->Nat->Prop}{G:Nat->C}{s:ag}(h:Inv w zl zb G s){v:Value}{r:Nat}{p:Path}{lo hi:Nat}(hr:(C.cut v r p lo hi).rf G){z:Nat}{xs:List (List X)}(hl:look s r p=some (.row .own z xs)):
  ∃A' cap' e2 G',v=.slice (Option.map (λq:Ad=>⟨q.1,q.2.1,q.2.2⟩) A') (hi - lo) cap'/\((xs.take hi).drop lo)=dJ z (hi - lo) e2/\(∀i j,i<hi - lo->j<z->∃g o,A'=some (g,o,none)/\w.cell? ⟨g,o+i*z+j,none⟩=some (e2 i j).val)/\
   (∀i j,i<hi - lo->j<z->(e2 i j).plain)/\bN w zl zb G (cU (hi - lo) z e2).flatten G' (iN r p (.row .own z (EC lo hi xs)) s):=by
 obtain⟨m,sz,A,len,cap,e,A',cap',hs,hv,hlo,hhi,hcap,jk,-,-⟩:=hr;unfold look at hl;rw[<-h.er,C.gP,hs] at hl;simp only[cG,C.er,dH,X.row.injEq] at hl;obtain⟨rfl,rfl,rfl⟩:=hl;have hok:=C.iB p hs (h.ok r);have hin:∀b k,(C.row .own sz A len cap e).fp b k->(G r).fp b k:=λb k hf=>C.gQ p hs (h.ok r) hf;obtain⟨h1,h2,h3,h4,h5⟩:=hok;let e':Nat->Nat->C:=λi j=>if lo<=i/\i<hi then .dead (e i j).val else e i j
 have he:∀i j,(lo<=i/\i<hi)->e' i j=.dead (e i j).val:=λi j hh=>aq hh;have hne:∀i j,¬(lo<=i/\i<hi)->e' i j=e i j:=λi j hh=>ay hh;have kW:∀i j,i<len->j<sz->∀b k,(e i j).fp b k->(C.row .own sz A len cap e).fp b k:=λi j hi hj b k hf=>⟨rfl,.inr ⟨i,j,hi,hj,hf⟩⟩
 have vg:∀b k,(C.row .own sz A len cap e').fp b k->(C.row .own sz A len cap e).fp b k:=λb k hf=>by
  obtain⟨_,hA|⟨i,j,hi',hj,hf⟩⟩:=hf;·exact⟨rfl,.inl hA⟩
  ·by_cases hh:lo<=i/\i<hi;·rw[he i j hh] at hf;exact hf.elim
   ·rw[hne i j hh] at hf;exact kW i j hi' hj b k hf
 have Kj:(C.row .own sz A len cap e').ok w (Zf zl zb):=by
  refine⟨h1,λi j hi' hj=>?_,λi j hi' hj=>?_,h4,λi j hi' hj b k hf=>?_⟩
  ·obtain⟨g,o,a1,a2,a3⟩:=h2 i j hi' hj;refine⟨g,o,a1,?_,a3⟩;rw[a2];by_cases hh:lo<=i/\i<hi;·rw[he i j hh];rfl
   ·rw[hne i j hh]
  ·obtain⟨a1,a2,a3,a4⟩:=h3 i j hi' hj;by_cases hh:lo<=i/\i<hi;·rw[he i j hh];exact⟨Inv.qV a1,trivial,trivial,trivial⟩
   ·rw[hne i j hh];exact⟨a1,a2,a3,a4⟩
  ·by_cases hh:lo<=i/\i<hi;·rw[he i j hh] at hf;exact hf.elim
   ·rw[hne i j hh] at hf;obtain⟨a1,a2⟩:=h5 i j hi' hj b k hf;refine⟨a1,λi' j' hi2 hj2 vn hf'=>?_⟩;by_cases rB:lo<=i'/\i'<hi;·rw[he i' j' rB] at hf';exact hf'
    ·rw[hne i' j' rB] at hf';exact a2 i' j' hi2 hj2 vn hf'
 have h0:=h.fk r p;have hs0:((G r).az (C.belows r p)).sub p=some (C.row .own sz A len cap e):=C.jr _ p _ _ (h.ok r) hs
 obtain⟨i1,i2,i3⟩:=h0.I0 r p (λt=>C.gK _ _) hs0 (C.gD.row .own .own sz A len cap e e') ⟨rfl,λh=>h,λh=>h,λh=>h,λm h=>h⟩ ⟨trivial,trivial⟩ (Ext.refl (λ_ _=>False) w) (λb k hs=>hs.elim) Kj (λb k hz=>hz)
  (λb k hz=>⟨λhf=>(h.fz r b k (hin b k (vg b k hf))).1 hz,h.cC b k (.inl hz),λt hf=>by rw[C.cP] at hf;exact((h.fz t b k hf).1 hz).elim⟩) (λb k hf=>.inl (vg b k hf))
 have kU:(C.row .own sz A len cap e').er=.row .own sz (EC lo hi ((List.range len).map λi=>(List.range sz).map λj=>(e i j).er)):=by
  simp only[C.er,EC];congr 1;apply iE;intro i;rw[Oa,C.de,C.de];split
  ·simp only[cG,dH];by_cases hh:lo<=i/\i<hi;·rw[aq hh,cM];exact cv λj _=>by rw[he i j hh];rfl
   ·rw[ay hh];exact cv λj _=>by rw[hne i j hh]
  ·rfl
 rw[kU] at i1;have hmem:∀x∈(cU (hi - lo) sz λi j=>e (i+lo) j).flatten,∃i j,i<hi - lo/\j<sz/\x=e (i+lo) j:=λx hx=>by obtain⟨i,j,hi',hj,rfl⟩:=ow hx;exact⟨i,j,hi',hj,rfl⟩
 have hlt:hi - lo≠0->A'=A.map λq=>jG (lo*sz) q:=λhne=>jk (by omega)
 have hrow:(((List.range len).map λi=>(List.range sz).map λj=>(e i j).er).take hi).drop lo=dJ sz (hi - lo) λi j=>e (i+lo) j:=by
  unfold dJ;rw[<-qM,<-mJ,wK,nK hhi];apply iE;intro i;rw[C.de,cV,zV];by_cases hh:i<hi - lo;·rw[aq hh,qL (by omega),sG];rfl
  ·rw[ay hh,jD (by simp;omega)];rfl
 have E4:∀i j,i<hi - lo->j<sz->(e (i+lo) j).plain:=λi j hi' hj=>Mx (h3 (i+lo) j (by omega) hj).1 (h3 (i+lo) j (by omega) hj).2.1;refine⟨A',cap',λi j=>e (i+lo) j,_,hv,hrow,λi j hi' hj=>?_,E4,⟨i1,λx hx=>?_,?_,λt=>(i2 t).trans (C.js _ _),λt b k hf=>?_⟩⟩;·obtain⟨g,o,a1,a2,a3⟩:=h2 (i+lo) j (by omega) hj;refine⟨g,o+lo*sz,by rw[hlt (by omega),a1,cG,qQ],?_⟩;rw[show o+lo*sz+i*sz+j=o+(i+lo)*sz+j by rw[fD];omega];exact a2
 ·obtain⟨i,j,hi',hj,rfl⟩:=hmem x hx;have hj2:i+lo<len:=by omega
  refine⟨(h3 (i+lo) j hj2 hj).2.2.2,λt b k hf hf'=>?_,λb k hf=>h.fz r b k (hin b k (kW _ _ hj2 hj b k hf)),λb k hf=>⟨r,hin b k (kW _ _ hj2 hj b k hf)⟩⟩;rcases i3 t b k hf' with hd|⟨_,hn⟩
  ·obtain⟨_,⟨o,hA⟩|⟨i',j',hi2,ac7,iI⟩⟩:=hd;·exact(h5 _ j hj2 hj b k hf).1 rfl o hA
   ·by_cases hh:lo<=i'/\i'<hi;·rw[he i' j' hh] at iI;exact iI
    ·rw[hne i' j' hh] at iI;refine(h5 _ j hj2 hj b k hf).2 i' j' hi2 ac7 (λe=>hh ?_) iI;injection e with e1 e2
     omega
  ·exact hn (kW _ _ hj2 hj b k hf)
 ·have hsub:(C.row .own sz (A.map λq=>jG (lo*sz) q) (hi - lo) (cap - lo) λi j=>e (i+lo) j).ok w (Zf zl zb):=(PY ⟨h1,h2,h3,h4,h5⟩ hlo hhi (by omega) (by omega) (.inr rfl)).1;exact LQ hsub
 ·by_cases ht:t=r
  ·subst ht;rcases i3 t b k hf with hd|⟨hh,_⟩;·exact hin b k (vg b k hd)
   ·rwa [C.cP] at hh
  ·rw[dr _ _ ht,C.cP] at hf;exact hf
def afH(h:St c G zl s a w){d sz bytes:Nat}{tk:Tk}{ty ty' el EF:TypeId}{i:TypeInfo}{v:Value}{x y:AV}{x' y':Operand}
  (ho:o.op=.call {callee:=.builtin .append,args:= #[x',y'],argTypes:= #[ty,ty']})(hu:P.underlying ty=some (.slice el))(xT:P.underlying ty'=some (.slice EF))(hi:P.info? el=some i)(hz:i.zero=some v)(hsz:i.size=sz)(hb:i.bytes=bytes)(hb0:0<bytes)(h0:0<sz)(hvs:v.cells.size=sz)
  (hd:o.dst=some d)(hn:d<c.nt)(hx:aO x' x=true)(hy:aO y' y=true)(hK:aR P (.app d tk sz bytes x y) s K):Good P c o a w K:=by
 obtain⟨p,e1,e2,e3⟩:=cy h hx;obtain⟨y1,G1,f1,f2,f3,f4⟩:=su .mv h.inv e3;simp only[aR] at hK;rw[e1] at f1 f4;rw[<-f1] at hK;have h1:=h.zI f4;have KJ:=(f2.trans e2).symm;cases hE:y1.er with
 |row m z xs=>
  rw[hE] at hK;cases m with
  |own=>
   obtain⟨A,len,cap,e,rfl,rfl⟩:=AJ hE;obtain⟨rfl,hK⟩:=hK;obtain⟨q,q1,q2,q3⟩:=cy h1 hy;have hk1:∀i j,i<len->j<z->(e i j).plain:=λi j hi hj=>Mx (f4.ok.2.2.1 i j hi hj).1 (f4.ok.2.2.1 i j hi hj).2.1;have hxl:(dJ z len e).length=len:=by simp[dJ]
   have other:(∃ys,rowAt (take .mv (ax s x) s).2 (ax (take .mv (ax s x) s).2 y)=some (z,ys)/\((dJ z len e).length+ys.length)*bytes<=140737488355328/\scalars ys/\K (put d (.row .own z (dJ z len e++ys)) (take .mv (ax s x) s).2))->Good P c o a w K:=by
    rintro ⟨ys,k1,k2,k3,k4⟩;rw[<-q1] at k1;obtain⟨A2,m,cap2,e2,rfl,hv⟩:=MK h1.inv q3 k1;have pN:(dJ z m e2).length=m:=by simp[dJ]
    refine IM h (bN.one f4) ho hu xT hi hz hsz hb hb0 h0 hvs hd hn (fQ.2 rfl) KJ (by rw[<-q2];exact hv.val) (λi j hi hj=>hv.cell i j hi hj) (λi j hi hj=>?_) (sR λx hx=>?_) (by rw[hxl,pN] at k2;exact k2) hk1 k4;·obtain⟨s1,s2⟩:=TY (TX k3 hi hj);exact⟨s1,(hv.kid i j hi hj).2.2,λb k hf=>(s2 b k hf).elim⟩
    ·obtain⟨i,j,hi,hj,rfl⟩:=ow hx;exact(TY (TX k3 hi hj)).2
   cases tk with
   |al=>exact other hK
   |bO=>exact other hK
   |mv=>
    simp only at hK;by_cases hcut:∃v r p lo hi,q=.cut v r p lo hi
    ·obtain⟨vv,r,pp,lo,hi',rfl⟩:=hcut;rw[<-q1] at hK;simp only[C.er,cZ] at hK;split at hK
     ·rename_i hh;split at hh
      ·rename_i z2 xs hl;simp only[X.row.injEq,uB] at hh;obtain⟨rfl,rfl⟩:=hh;obtain⟨rfl,k2,k4⟩:=hK;obtain⟨A2,cap2,e3,G3,c1,c2,c3,c4,c5⟩:=ahJ h1.inv q3.rf hl;rw[c2] at k2 k4;have pN:(dJ z2 (hi' - lo) e3).length=hi' - lo:=by simp[dJ]
       simp only[hl] at k4;refine IM h (bN.cons f4 c5) ho hu xT hi hz hsz hb hb0 h0 hvs hd hn (bE ..) KJ (A2:=A2) (m:=hi' - lo) (cap2:=cap2) (e2:=e3) (by rw[<-q2];exact c1) c3 (λi j hi hj=>?_) c5.apart (by rw[hxl,pN] at k2;exact k2) hk1 k4;have hm:e3 i j∈(cU (hi' - lo) z2 e3).flatten:=Ic.2 ⟨_,aY.2 ⟨i,by simpa using hi,rfl⟩,aY.2 ⟨j,by simpa using hj,rfl⟩⟩;refine⟨c4 i j hi hj,(c5.all _ hm).1,λb k hf=>⟨λhf'=>?_,_,cI _ hm,hf⟩⟩;obtain⟨t,ht⟩:=(c5.all _ hm).2.2.2 b k hf;exact f4.sep t b k hf' ht
      ·cases hh
     ·exact hK.elim
    have hte:cZ q.er (take .mv (ax s x) s).2=take .mv q.er (take .mv (ax s x) s).2:=by
     cases q with
     |cut v r p lo hi=>exact(hcut ⟨v,r,p,lo,hi,rfl⟩).elim
     |_=>rfl
    rw[<-q1,hte,q1] at hK;obtain⟨y2,G2,g1,g2,g3,g4⟩:=su .mv h1.inv q3;rw[q1] at g1 g4;rw[<-g1] at hK;cases rz:y2.er with
    |row m2 z2 xs2=>
     rw[rz] at hK;cases m2 with
     |own=>
      obtain⟨A2,m,cap2,e2,rfl,rfl⟩:=AJ rz;obtain⟨rfl,k2,k4⟩:=hK;have pN:(dJ z2 m e2).length=m:=by simp[dJ]
      obtain⟨r1,r2,r3,r4,r5⟩:=g4.ok;refine IM h (bN.cons f4 (bN.one g4)) ho hu xT hi hz hsz hb hb0 h0 hvs hd hn (bE ..) KJ (A2:=A2) (m:=m) (cap2:=cap2) (e2:=e2) (by rw[<-q2,<-g2];rfl) (λi j hi hj=>?_) (λi j hi hj=>?_) (LQ g4.ok) (by rw[hxl,pN] at k2;exact k2) hk1 k4;·obtain⟨g,o2,a1,a2,_⟩:=r2 i j hi hj;exact⟨g,o2,a1,a2⟩
      ·obtain⟨a1,a2,a3,a4⟩:=r3 i j hi hj;refine⟨Mx a1 a2,a4,λb k hf=>?_⟩;have hin:(C.row .own z2 A2 m cap2 e2).fp b k:=C.ki a1 a3 hi hj hf;refine⟨λhf'=>?_,_,cI _ (fQ.2 rfl),hin⟩;obtain⟨t,ht⟩:=g4.dom b k hin;exact f4.sep t b k hf' ht
     |_=>exact hK.elim
    |_=>rw[rz] at hK;exact hK.elim
  |_=>exact hK.elim
 |_=>rw[hE] at hK;exact hK.elim
end
end M
namespace M
open Go Go.RowKit
variable [Bs]
namespace X
def oy(m:Md){α:Type}(f:α->X):∀l:List α,dU m (l.map f)=l.map λa=>(f a).md m
 |[]=>rfl
 |a::l=>by simp only[bC,dU,oy m f l]
def G6(m:Md){α β:Type}(g:α->List β)(f:α->β->X):∀l:List α,cl m (l.map λa=>(g a).map (f a))=l.map λa=>(g a).map λb=>(f a b).md m
 |[]=>rfl
 |a::l=>by simp only[bC,cl,oy,G6 m g f l]
end X
namespace C
def dO:C->C
 |.row _ sz A len cap e=>.row .af sz A len cap λi j=>(e i j).dO
 |.ptr _ g o n c=>.ptr .af g o n λj=>(c j).dO
 |.agg n c=>.agg n λj=>(c j).dO
 |.ak n c=>.ak n λj=>(c j).dO
 |.fn f n c=>.fn f n λj=>(c j).dO
 |.ref v _ _=>.dead v
 |.aj v _ _ _ _=>.dead v
 |.cut v _ _ _ _=>.dead v
 |.dead v=>.dead v
 |.int k n=>.int k n
 |.bool b=>.bool b
 |.str s=>.str s
def ua:∀c:C,c.dO.er=c.er.md .af
 |.row m sz A len cap e=>by simp only[dO,er,X.md];rw[X.G6 .af (λ_=>List.range sz) (λi j=>(e i j).er)];congr 1;exact cv λi _=>cv λj _=>ua (e i j)
 |.ptr m g o n c=>by simp only[dO,er,X.md,X.oy];congr 1;exact cv λj _=>ua (c j)
 |.agg n c=>by simp only[dO,er,X.md,X.oy];congr 1;exact cv λj _=>ua (c j)
 |.ak n c=>by simp only[dO,er,X.md,X.oy];congr 1;exact cv λj _=>ua (c j)
 |.fn f n c=>by simp only[dO,er,X.md,X.oy];congr 1;exact cv λj _=>ua (c j)
 |.ref _ _ _=>by simp only[dO,er,X.md]
 |.aj _ _ _ _ _=>by simp only[dO,er,X.md]
 |.cut _ _ _ _ _=>by simp only[dO,er,X.md]
 |.dead _=>by simp only[dO,er,X.md]
 |.int _ _=>by simp only[dO,er,X.md]
 |.bool _=>by simp only[dO,er,X.md]
 |.str _=>by simp only[dO,er,X.md]
def vP:∀c:C,c.dO.val=c.val
 |.row m sz A len cap e=>rfl
 |.ptr m g o n c=>rfl
 |.agg n c=>by simp only[dO,val];congr 2;exact cv λj _=>vP (c j)
 |.ak n c=>by simp only[dO,val];congr 2;exact cv λj _=>vP (c j)
 |.fn f n c=>by simp only[dO,val];congr 2;exact cv λj _=>vP (c j)
 |.ref _ _ _=>rfl
 |.aj _ _ _ _ _=>rfl
 |.cut _ _ _ _ _=>rfl
 |.dead _=>rfl
 |.int _ _=>rfl
 |.bool _=>rfl
 |.str _=>rfl
def CX:∀c:C,c.dO.bare
 |.row m sz A len cap e=>trivial
 |.ptr m g o n c=>λj _=>CX (c j)
 |.agg n c=>λj _=>CX (c j)
 |.ak n c=>λj _=>CX (c j)
 |.fn f n c=>λj _=>CX (c j)
 |.ref _ _ _=>trivial
 |.aj _ _ _ _ _=>trivial
 |.cut _ _ _ _ _=>trivial
 |.dead _=>trivial
 |.int _ _=>trivial
 |.bool _=>trivial
 |.str _=>trivial
def rU:∀(c:C) (b k:Nat),¬c.dO.fp b k
 |.row m sz A len cap e,b,k=>λh=>by cases h.1
 |.ptr m g o n c,b,k=>λh=>by cases h.1
 |.agg n c,b,k=>λ⟨j,_,hf⟩=>rU (c j) b k hf
 |.ak n c,b,k=>λ⟨j,_,hf⟩=>rU (c j) b k hf
 |.fn f n c,b,k=>λh=>h
 |.ref _ _ _,b,k=>λh=>h
 |.aj _ _ _ _ _,b,k=>λh=>h
 |.cut _ _ _ _ _,b,k=>λh=>h
 |.dead _,b,k=>λh=>h
 |.int _ _,b,k=>λh=>h
 |.bool _,b,k=>λh=>h
 |.str _,b,k=>λh=>h
def G7{c:C}(h:c.cell):c.dO.cell:=by cases c<;>first|exact h|exact h.elim|trivial
def SM{c:C}(h:c.fX):c.dO.fX:=by cases c<;>first|exact h|exact h.elim|trivial
def aeE{c:C}(h:c.cN):c.dO.cN:=by cases c<;>first|exact h|exact h.elim|trivial
def Mi(c:C):c.dO.fits .af:=by cases c<;>first|trivial|exact .inr (.inl rfl)
variable {w:World}{zl zb bG:Nat->Nat->Prop}
def yS(hb:∀b k,zb b k->bG b k):∀c:C,(∀b k,c.fp b k->bG b k)->c.ok w (Zf zl zb)->c.dO.ok w (Zf zl bG)
 |.row m sz A len cap e,hf,h=>by
  obtain⟨h1,h2,h3,h4,h5⟩:=h;refine⟨h1,λi j hi hj=>?_,λi j hi hj=>?_,λhm=>by (cases hm),λi j hi hj b k hh=>(rU _ b k hh).elim⟩
  ·obtain⟨g,o,hA,hc,hz⟩:=h2 i j hi hj;refine⟨g,o,hA,by rw[vP];exact hc,λ_=>?_⟩;cases m with
   |own=>exact .inr (hf _ _ ⟨rfl,.inl ⟨o,hA⟩⟩)
   |sl=>exact .inl (hz (by simp))
   |af=>exact(hz (by simp)).imp id (hb _ _)
  ·obtain⟨a1,a2,a3,a4⟩:=h3 i j hi hj;exact⟨G7 a1,aeE a2,Mi _,yS hb (e i j) (λb k hk=>hf b k (ki a1 a3 hi hj hk)) a4⟩
 |.ptr m g o n c,hf,h=>by
  obtain⟨h1,h2,h3,h4⟩:=h;refine⟨λj hj=>?_,h2,λj hj=>?_,λj hj b k hh=>(rU _ b k hh).elim⟩
  ·obtain⟨a1,a2,a3⟩:=h1 j hj;refine⟨by rw[vP];exact a1,λ_=>?_,λhm=>by (cases hm)⟩;cases m with
   |own=>exact .inr (hf _ _ ⟨rfl,.inl ⟨rfl,by omega,by omega⟩⟩)
   |sl=>exact .inl (a2 (by simp))
   |af=>exact(a2 (by simp)).imp id (hb _ _)
  ·obtain⟨a1,a2,a3⟩:=h3 j hj;exact⟨G7 a1,Mi _,yS hb (c j) (λb k hk=>hf b k (k7 a1 a2 hj hk)) a3⟩
 |.agg n c,hf,h=>⟨λj hj=>⟨G7 (h.1 j hj).1,yS hb (c j) (λb k hk=>hf b k ⟨j,hj,hk⟩) (h.1 j hj).2⟩,λj hj b k hh=>(rU _ b k hh).elim⟩
 |.ak n c,hf,h=>⟨λj hj=>⟨SM (h.1 j hj).1,yS hb (c j) (λb k hk=>hf b k ⟨j,hj,hk⟩) (h.1 j hj).2⟩,λj hj b k hh=>(rU _ b k hh).elim⟩
 |.fn f n c,hf,h=>λj hj=>⟨yS hb (c j) (λb k hk=>((h j hj).2 b k hk).elim) (h j hj).1,λb k hh=>rU _ b k hh⟩
 |.ref _ _ _,_,_=>trivial
 |.aj _ _ _ _ _,_,_=>trivial
 |.cut _ _ _ _ _,_,_=>trivial
 |.dead _,_,_=>trivial
 |.int _ _,_,_=>trivial
 |.bool _,_,_=>trivial
 |.str _,_,h=>h
end C
structure gi (w:World) (zl zb:Nat->Nat->Prop) (x:C):Prop where
 ok:x.ok w (Zf zl zb)
 bare:x.bare
 cW:∀b k,¬x.fp b k
section
variable {w:World}{zl zb bG:Nat->Nat->Prop}{G:Nat->C}{s:ag}
def L9(hb:∀b k,zb b k->bG b k){y:C}(hy:y.ok w (Zf zl zb))(hf:∀b k,y.fp b k->bG b k):gi w zl bG y.dO:=⟨C.yS hb y hf hy,C.CX y,C.rU y⟩
def CQ(v:Value):gi w zl bG (.dead v):=⟨trivial,trivial,λ_ _ h=>h⟩
def Hw(h:Inv w zl zb G s)(hb:∀b k,zb b k->bG b k)(hG:∀t b k,(G t).fp b k->bG b k){y:C}(hy:ez w zl zb G y):∃x:C,x.er=mg s y.er/\x.val=y.val/\gi w zl bG x/\(y.cell->x.cell)/\(y.fX->x.fX)/\x.fits .af:=by
 have jt:mg s y.er=y.er.md .af->∃x:C,x.er=mg s y.er/\x.val=y.val/\gi w zl bG x/\(y.cell->x.cell)/\(y.fX->x.fX)/\x.fits .af:=λe=>
  ⟨y.dO,by rw[C.ua,e],C.vP y,L9 hb hy.ok λb k hf=>(hy.cW b k hf).elim,C.G7,C.SM,C.Mi _⟩
 cases y with
 |ref v r p=>
  obtain⟨y',z',hs,hF,hv,m,z1,A,len,cap,e,rfl⟩:=hy.rf;cases hF with
  |row m m' sz' A len cap e e'=>refine⟨(C.row m' z1 A len cap e').dO,?_,by rw[C.vP];exact hv,L9 hb (C.iB p hs (h.ok r)) λb k hf=>hG r b k (C.gQ p hs (h.ok r) hf),λ_=>trivial,λ_=>trivial,.inr (.inl rfl)⟩;rw[C.ua];simp only[C.er,mg,look];rw[<-h.er,C.gP,hs];rfl
 |cut v r p lo hi=>
  obtain⟨m,sz,A,len,cap,e,A',cap',hs,hv,hlo,hhi,hcap,jk,-,-⟩:=hy.rf;have hok:=C.iB p hs (h.ok r);obtain⟨h1,h2,h3,h4,h5⟩:=(L9 hb hok λb k hf=>hG r b k (C.gQ p hs (h.ok r) hf)).ok;refine⟨.row .af sz A' (hi - lo) cap' λi j=>(e (i+lo) j).dO,?_,hv.symm,⟨⟨hcap,λi j hi' hj=>?_,λi j hi' hj=>h3 (i+lo) j (by omega) hj,λhm=>by (cases hm),λi j hi' hj b k hh=>(C.rU _ b k hh).elim⟩,trivial,λb k hh=>by cases hh.1⟩,λ_=>trivial,λ_=>trivial,.inr (.inl rfl)⟩;·simp only[C.er,mg,look];rw[<-h.er,C.gP,hs];simp only[cG,C.er,X.md];rw[<-qM,<-mJ,wK,nK hhi,qw,cM];show _=X.row .af sz (X.cl .af ((List.range (hi - lo)).map λi=>(List.range sz).map λj=>(e (i+lo) j).er));rw[X.G6 .af (λ_=>List.range sz) (λi j=>(e (i+lo) j).er) (List.range (hi - lo))];congr 1;exact cv λi _=>cv λj _=>C.ua _
  ·obtain⟨g,o,q1,q2,q3⟩:=h2 (i+lo) j (by omega) hj;refine⟨g,o+lo*sz,by rw[jk (by omega),q1,cG,qQ],?_,λhm=>?_⟩;·rw[show o+lo*sz+i*sz+j=o+(i+lo)*sz+j by rw[fD];omega];exact q2
   ·rw[show o+lo*sz+i*sz+j=o+(i+lo)*sz+j by rw[fD];omega];exact q3 hm
 |_=>exact jt rfl
def aem(h:Inv w zl zb G s){y:C}(hy:ez w zl zb G y){cs:List X}(hc:gF s y.er=some cs):∃g k,y.val=.pointer (some ⟨g,k,none⟩)/\∀j,j<cs.length->zl g (k+j)\/zb g (k+j)\/∃t,(G t).fp g (k+j):=by
 have zs:∀{m:Md} {b k:Nat},m≠.own->Zf zl zb m b k->zl b k\/zb b k\/∃t,(G t).fp b k:=λ{m b k} hm hz=>by
  cases m with
  |own=>exact(hm rfl).elim
  |sl=>exact .inl hz
  |af=>exact hz.imp id .inl
 cases y with
 |ptr m g o n f=>
  simp only[C.er,gF] at hc;injection hc with hc
  refine⟨g,o,rfl,λj hj=>?_⟩;have hj:j<n:=by rw[<-hc] at hj;simpa using hj
  obtain⟨h1,h2,h3,h4⟩:=hy.ok;by_cases hm:m=.own;·exact(hy.cW g (o+j) ⟨hm,.inl ⟨rfl,by omega,by omega⟩⟩).elim
  ·exact zs hm ((h1 j hj).2.1 hm)
 |aj v r p i k0=>
  obtain⟨z,hz,hp⟩:=hy.rf;have tI:=C.iB p hz (h.ok r);simp only[C.er,gF,look] at hc;rw[<-h.er,C.gP,hz] at hc;simp only[cG] at hc;rcases hp with ⟨m,sz,g,o,len,cap,e,rfl,rfl⟩|⟨m,g,o,n,f,rfl,rfl,rfl⟩
  ·simp only[C.er,C.de] at hc;by_cases hi:i<len
   ·rw[aq hi] at hc;simp only[cG,dH] at hc;refine⟨g,o+i*sz+k0,rfl,λj hj=>?_⟩;have hj:k0+j<sz:=by rw[<-hc] at hj;rw[<-mJ,qw,C.xb r p i ((List.range (sz - k0)).map (· +k0)) k0 (λj=>e i j) (by simp)] at hj;simp at hj;omega
    by_cases hm:m=.own;·subst hm;exact .inr (.inr ⟨r,C.gQ p hz (h.ok r) ⟨rfl,.inl ⟨o,rfl⟩⟩⟩)
    ·obtain⟨g',o',hA,hcell,pP⟩:=tI.2.1 i (k0+j) hi hj;injection hA with hA
     injection hA with e1 e2
     injection e2 with e2
     subst e1;subst e2;rw[nI];exact zs hm (pP hm)
   ·rw[ay hi] at hc;cases hc
  ·simp only[C.er,dH] at hc;refine⟨g,o+k0,rfl,λj hj=>?_⟩;have hj:k0+j<n:=by rw[<-hc] at hj;rw[<-mJ,qw,C.xb r p 0 ((List.range (n - k0)).map (· +k0)) k0 f (by simp)] at hj;simp at hj;omega
   by_cases hm:m=.own;·subst hm;exact .inr (.inr ⟨r,C.gQ p hz (h.ok r) ⟨rfl,.inl ⟨rfl,by omega,by omega⟩⟩⟩)
   ·have:=(tI.1 (k0+j) hj).2.1 hm;rw[nI];exact zs hm this
 |_=>simp[C.er,gF] at hc
def MH(h:Inv w zl zb G s)(hb:∀b k,zb b k->bG b k)(hG:∀t b k,(G t).fp b k->bG b k):∀l:List C,(∀x∈l,ez w zl zb G x/\x.cell)->∃l':List C,l'.map C.er=qx s (l.map C.er)/\l'.map C.val=l.map C.val/\∀x∈l',gi w zl bG x/\x.cell/\x.fits .af
 |[],hl=>⟨[],rfl,rfl,λ_ hx=>(by cases hx)⟩
 |y::l,hl=>by
  obtain⟨x,x1,x2,x3,x4,_,x6⟩:=Hw h hb hG (hl y (bE ..)).1;obtain⟨l',l1,l2,l3⟩:=MH h hb hG l λx hx=>hl x (cI _ hx);refine⟨x::l',by simp[qx,x1,l1],by simp[x2,l2],λz hz=>?_⟩;rcases bM.1 hz with rfl|hz;·exact⟨x3,x4 (hl y (bE ..)).2,x6⟩
  ·exact l3 z hz
def TB(F:List X->List X)(hF:∀l:List C,(∀x∈l,ez w zl zb G x/\x.cell)->∃l':List C,l'.map C.er=F (l.map C.er)/\l'.map C.val=l.map C.val/\∀x∈l',gi w zl bG x/\x.cell/\x.fits .af)(h:Inv w zl zb G s)(hb:∀b k,zb b k->bG b k)(hG:∀t b k,(G t).fp b k->bG b k){y:C}(hy:ez w zl zb G y){cs:List X}(hc:gF s y.er=some cs)(hne:cs≠[])(n:Nat)(hn:0<n):
  ∃x:C,x.er=.ptr .af (F (cs.take n))/\x.val=y.val/\gi w zl bG x:=by
 obtain⟨l,l1,⟨g,k,hv,hcell⟩,l3⟩:=Sv h hy hc;obtain⟨g',k',eZ,hmem⟩:=aem h hy hc;rw[hv] at eZ;injection eZ with eZ;injection eZ with eZ;injection eZ with e1 e2 e3
 subst e1;subst e2;have vj:l.length=cs.length:=by rw[<-l1];simp
 obtain⟨l',m1,m2,m3⟩:=hF (l.take n) λx hx=>l3 x (NJ hx);have hl':l'.length=min n l.length:=by have:=dB List.length m2;simpa using this
 have hpos:0<l.length:=by rw[vj];exact List.length_pos_iff.2 hne
 refine⟨.ptr .af g k l'.length λj=>l'.getD j (.dead undef),?_,hv.symm,⟨⟨λj hj=>⟨?_,λ_=>?_,λhm=>by (cases hm)⟩,?_,λj hj=>⟨(m3 _ (cT hj _)).2.1,(m3 _ (cT hj _)).2.2,(m3 _ (cT hj _)).1.ok⟩,λj hj b k hh=>((m3 _ (cT hj _)).1.cW b k hh).elim⟩,λj hj=>(m3 _ (cT hj _)).1.bare,λb k hh=>by cases hh.1⟩⟩;·simp only[C.er,nE];rw[m1,qM,l1]
 ·have hj':j<l.length:=by omega
  have vm:(l'.getD j (.dead undef)).val=(l[j]).val:=by have:=dB (λt:List Value=>t[j]?) m2;simp only[cV,cr hj,cG] at this;rw[Oe (by omega),cr hj'] at this;rw[rq (cr hj)];simpa using this
  rw[vm];exact hcell j hj'
 ·rcases hmem j (by omega) with hz|hz|⟨t,ht⟩;·exact .inl hz
  ·exact .inr (hb _ _ hz)
  ·exact .inr (hG t _ _ ht)
 ·have:=hcell 0 hpos;rcases gb g w.heap.size with hg|hg;·exact hg
  ·simp[World.cell?,jW hg] at this
def TC(h:Inv w zl zb G s)(hb:∀b k,zb b k->bG b k)(hG:∀t b k,(G t).fp b k->bG b k){y:C}(hy:ez w zl zb G y){cs:List X}(hc:gF s y.er=some cs)(hne:cs≠[])(n:Nat)(hn:0<n):
  ∃x:C,x.er=.ptr .af (qx s (cs.take n))/\x.val=y.val/\gi w zl bG x:=TB (qx s) (MH h hb hG) h hb hG hy hc hne n hn
def agE(h:Inv w zl zb G s)(hb:∀b k,zb b k->bG b k)(hG:∀t b k,(G t).fp b k->bG b k){y:C}(hy:ez w zl zb G y)(ni:y.cell):∃x:C,x.er=fy s y.er/\x.val=y.val/\gi w zl bG x/\x.cell/\x.fits .af:=by
 have jt:fy s y.er=mg s y.er->∃x:C,x.er=fy s y.er/\x.val=y.val/\gi w zl bG x/\x.cell/\x.fits .af:=λe=>by obtain⟨x,x1,x2,x3,x4,_,x6⟩:=Hw h hb hG hy;exact⟨x,by rw[e,x1],x2,x3,x4 ni,x6⟩
 cases y with
 |aj v r p i k=>
  have dead:fy s (C.aj v r p i k).er=.dead->∃x:C,x.er=fy s (C.aj v r p i k).er/\x.val=(C.aj v r p i k).val/\gi w zl bG x/\x.cell/\x.fits .af:=λe=>⟨.dead v,e.symm,rfl,CQ v,ni,trivial⟩;cases hc:gF s (.aj r p i k) with
  |none=>exact dead (by simp only[C.er,fy,hc])
  |some cs=>
   cases cs with
   |nil=>exact dead (by simp only[C.er,fy,hc])
   |cons a cs=>
    obtain⟨x,x1,x2,x3⟩:=TC h hb hG hy hc (by simp) (a::cs).length (by simp);rw[qG] at x1;have he:fy s (C.aj v r p i k).er=.ptr .af (qx s (a::cs)):=by simp only[C.er,fy,hc]
    rw[he];refine⟨x,x1,x2,x3,?_,?_⟩;·cases x<;>first|trivial|(simp[C.er] at x1)
    ·cases x with
     |ptr m g o n f=>simp only[C.er,X.ptr.injEq] at x1;exact .inr (.inl x1.1)
     |_=>simp[C.er] at x1
 |_=>exact jt rfl
def TA(h:Inv w zl zb G s)(hb:∀b k,zb b k->bG b k)(hG:∀t b k,(G t).fp b k->bG b k):∀l:List C,(∀x∈l,ez w zl zb G x/\x.cell)->∃l':List C,l'.map C.er=gN s (l.map C.er)/\l'.map C.val=l.map C.val/\∀x∈l',gi w zl bG x/\x.cell/\x.fits .af
 |[],hl=>⟨[],rfl,rfl,λ_ hx=>(by cases hx)⟩
 |y::l,hl=>by
  obtain⟨x,x1,x2,x3⟩:=agE h hb hG (hl y (bE ..)).1 (hl y (bE ..)).2;obtain⟨l',l1,l2,l3⟩:=TA h hb hG l λx hx=>hl x (cI _ hx);refine⟨x::l',by simp[gN,x1,l1],by simp[x2,l2],λz hz=>?_⟩;rcases bM.1 hz with rfl|hz;·exact x3
  ·exact l3 z hz
end
end M
namespace M
open Go Go.RowKit
variable [Bs]
section
variable {w:World}{zl zb bG:Nat->Nat->Prop}{G:Nat->C}{s:ag}
def MG(h:Inv w zl zb G s)(hb:∀b k,zb b k->bG b k)(hG:∀t b k,(G t).fp b k->bG b k):∀l:List C,(∀x∈l,ez w zl zb G x)->∃l':List C,l'.map C.er=e9 s (l.map C.er)/\l'.map C.val=l.map C.val/\∀x∈l',gi w zl bG x
 |[],hl=>⟨[],rfl,rfl,λ_ hx=>(by cases hx)⟩
 |y::l,hl=>by
  obtain⟨l',l1,l2,l3⟩:=MG h hb hG l λx hx=>hl x (cI _ hx);have hy:=hl y (bE ..)
  have done:∀x:C,x.val=y.val->gi w zl bG x->(e9 s ((y::l).map C.er))=x.er::e9 s (l.map C.er)->∃l':List C,l'.map C.er=e9 s ((y::l).map C.er)/\l'.map C.val=(y::l).map C.val/\∀x∈l',gi w zl bG x:=λx x1 x2 x3=>
   ⟨x::l',by rw[x3,bC,l1],by simp[x1,l2],λz hz=>(bM.1 hz).elim (λe=>e▸x2) (l3 z)⟩
  have jt:(e9 s ((y::l).map C.er))=mg s y.er::e9 s (l.map C.er)->∃l':List C,l'.map C.er=e9 s ((y::l).map C.er)/\l'.map C.val=(y::l).map C.val/\∀x∈l',gi w zl bG x:=λe=>by obtain⟨x,x1,x2,x3,_⟩:=Hw h hb hG hy;exact done x x2 x3 (by rw[e,x1])
  cases y with
  |aj v r p i k=>
   cases hc:gF s (.aj r p i k) with
   |none=>exact done (.dead v) rfl (CQ v) (by simp only[bC,C.er,e9,hc])
   |some cs=>
    cases cs with
    |nil=>exact done (.dead v) rfl (CQ v) (by simp only[bC,C.er,e9,hc])
    |cons a cs=>obtain⟨x,x1,x2,x3⟩:=TB (gN s) (TA h hb hG) h hb hG hy hc (by simp) (a::cs).length (by simp);refine done x x2 x3 ?_;rw[x1,qG];simp only[bC,C.er,e9,hc]
  |_=>exact jt rfl
def agG(h:Inv w zl zb G s)(hb:∀b k,zb b k->bG b k)(hG:∀t b k,(G t).fp b k->bG b k){y:C}(hy:ez w zl zb G y):∃x:C,x.er=res s y.er/\x.val=y.val/\gi w zl bG x:=by
 have jt:res s y.er=mg s y.er->∃x:C,x.er=res s y.er/\x.val=y.val/\gi w zl bG x:=λe=>by obtain⟨x,x1,x2,x3,_⟩:=Hw h hb hG hy;exact⟨x,by rw[x1,e],x2,x3⟩
 cases y with
 |agg n f=>
  obtain⟨l',l1,l2,l3⟩:=MH h hb hG ((List.range n).map f) λx hx=>by
   obtain⟨j,hj,rfl⟩:=aY.1 hx;have hj':j<n:=by simpa using hj
   exact⟨OD hy hj',(hy.ok.1 j hj').1⟩
  refine⟨gV l',?_,?_,⟨⟨λj hj=>⟨(l3 _ (cT hj _)).2.1,(l3 _ (cT hj _)).1.ok⟩,λj hj b k hf=>((l3 _ (cT hj _)).1.cW b k hf).elim⟩,λj hj=>(l3 _ (cT hj _)).1.bare,λb k hf=>?_⟩⟩;·rw[w9,l1,cM];rfl
  ·rw[Ae,l2,cM];rfl
  ·obtain⟨x,hx,hf⟩:=(sP _ _ _).1 hf;exact(l3 x hx).1.cW b k hf
 |fn g n f=>
  obtain⟨l',l1,l2,l3⟩:=MG h hb hG ((List.range n).map f) λx hx=>by
   obtain⟨j,hj,rfl⟩:=aY.1 hx;have hj':j<n:=by simpa using hj
   exact⟨(hy.ok j hj').1,hy.rf j hj',(hy.ok j hj').2⟩
  refine⟨.fn g l'.length λj=>l'.getD j (.dead undef),?_,?_,⟨λj hj=>⟨(l3 _ (cT hj _)).ok,(l3 _ (cT hj _)).cW⟩,λj hj=>(l3 _ (cT hj _)).bare,λb k hf=>hf⟩⟩;·show X.fn _ _=_;rw[nE l' _ C.er,l1,cM];rfl
  ·show Value.func _ _ _=_;rw[nE l' _ C.val,l2,cM];rfl
 |_=>exact jt rfl
def agF(h:Inv w zl zb G s)(hb:∀b k,zb b k->bG b k)(hG:∀t b k,(G t).fp b k->bG b k){y:C}(hy:ez w zl zb G y)(n:Nat)(hn:0<n):∃x:C,x.er=zm n s y.er/\x.val=y.val/\gi w zl bG x:=by
 cases hc:gF s y.er with
 |none=>exact⟨.dead y.val,by simp only[zm,hc,C.er],rfl,CQ _⟩
 |some cs=>
  cases cs with
  |nil=>exact⟨.dead y.val,by simp only[zm,hc,C.er],rfl,CQ _⟩
  |cons a cs=>obtain⟨x,x1,x2,x3⟩:=TC h hb hG hy hc (by simp) n hn;exact⟨x,by rw[x1];simp only[zm,hc],x2,x3⟩
end
section
variable {P:Program}{c:Ctx}{G:Nat->C}{zl:Nat->Nat->Prop}{s:ag}{a:Act}{w:World}{o:Oper}{K:ag->Prop}
def gZ:List Operand->List (AV×PM)->Bool
 |[],[]=>true
 |x'::l',(x,m)::l=>aO x' x && (match m with|.fM n=>decide (0<n)|.mut _=>(dV l).isNone|_=>true) && gZ l' l
 |_,_=>false
def MV(a:Act):List Operand->List (AV×PM)->List C->Prop
 |[],[],[]=>True
 |x'::l',(_,.mv)::l,m::ms=>m.val=a.eval x'/\MV a l' l ms
 |_::l',(_,.af)::l,_::ms=>MV a l' l ms
 |_::l',(_,.fM _)::l,_::ms=>MV a l' l ms
 |_::l',(_,.mut _)::l,_::ms=>MV a l' l ms
 |_,_,_=>False
def G9:∀{l':List Operand} {l:List (AV×PM)},gZ l' l=true->∀{G:Nat->C} {s:ag},St c G zl s a w->
  ∃ms G',ms.map C.er=(bU l s).1/\MV a l' l ms/\bN w zl c.zb G ms G' (bU l s).2
 |[],[],_,G,s,h=>⟨[],G,rfl,trivial,bN.nil h.inv⟩
 |x'::l',(x,pm)::l,hc,G,s,h=>by
  simp only[gZ,av] at hc;have other:(bU ((x,pm)::l) s=(.dead::(bU l s).1,(bU l s).2))->(∀m ms,MV a l' l ms->MV a (x'::l') ((x,pm)::l) (m::ms))->∃ms G',ms.map C.er=(bU ((x,pm)::l) s).1/\MV a (x'::l') ((x,pm)::l) ms/\bN w zl c.zb G ms G' (bU ((x,pm)::l) s).2:=λe hm=>by obtain⟨ms,G',g1,g2,g3⟩:=G9 hc.2 h;rw[e];exact⟨.dead undef::ms,G',by simp[C.er,g1],hm _ _ g2,bN.cons (fL.self h.inv trivial trivial λ_ _ h=>h) g3⟩
  cases pm with
  |mv=>obtain⟨p,p1,p2,p3⟩:=cy h hc.1.1;obtain⟨y,G1,f1,f2,f3,f4⟩:=su .mv h.inv p3;obtain⟨ms,G',g1,g2,g3⟩:=G9 hc.2 (h.zI f4);rw[p1] at f1 g1 g3 f4;exact⟨y::ms,G',by simp[bU,f1,g1],⟨by rw[f2,p2],g2⟩,bN.cons f4 g3⟩
  |af=>exact other rfl λ_ _ h=>h
  |fM n=>exact other rfl λ_ _ h=>h
  | «mut» n=>exact other rfl λ_ _ h=>h
 |[],_::_,hc,_,_,_=>by cases hc
 |_::_,[],hc,_,_,_=>by cases hc
def Eb{G2:Nat->C}{s2:ag}{bG:Nat->Nat->Prop}(h:St c G2 zl s2 a w)(hb:∀b k,c.zb b k->bG b k)(hG:∀t b k,(G2 t).fp b k->bG b k){y:C}(hy:y.ok w (Zf zl bG))(Ft:y.bare):∀{l':List Operand} {l:List (AV×PM)},gZ l' l=true->∀{ms:List C},MV a l' l ms->
  (∀x∈ms,x.ok w (Zf zl bG)/\x.bare/\∀b k,x.fp b k->¬y.fp b k)->(ms.Pairwise λa b=>∀x k,a.fp x k->¬b.fp x k)->(∀(i:Nat) (x:AV) (n:Nat) (x':Operand),l[i]?=some (x,PM.mut n)->l'[i]?=some x'->y.val=a.eval x')->
  ∃cs:List C,cs.map C.er=gE s2 y.er l (ms.map C.er)/\cs.map C.val=l'.map a.eval/\(∀x∈cs,x.ok w (Zf zl bG)/\x.bare/\∀b k,x.fp b k->(∃m∈ms,m.fp b k)\/((dV l).isSome=true/\y.fp b k))/\cs.Pairwise λa b=>∀x k,a.fp x k->¬b.fp x k
 |[],[],_,[],_,_,_,_=>⟨[],rfl,rfl,λ_ hx=>(by cases hx),List.Pairwise.nil⟩
 |x'::l',(x,pm)::l,hc,[],hm,_,_,_=>by cases pm<;>exact hm.elim
 |x'::l',(x,pm)::l,hc,m::ms,hm,vl,iq,pL=>by
  simp only[gZ,av] at hc;have xR:=ew.1 iq;have ih:=λ(hm:MV a l' l ms)=>Eb h hb hG hy Ft hc.2 hm (λx hx=>vl x (cI _ hx)) xR.2 (λi x n x' h1 h2=>pL (i+1) x n x' (by simpa using h1) (by simpa using h2))
  have Su:∀z:C,z.val=a.eval x'->gi w zl bG z->MV a l' l ms->gE s2 y.er ((x,pm)::l) ((m::ms).map C.er)=z.er::gE s2 y.er l (ms.map C.er)->((dV l).isSome=true->(dV ((x,pm)::l)).isSome=true)->∃cs:List C,cs.map C.er=gE s2 y.er ((x,pm)::l) ((m::ms).map C.er)/\cs.map C.val=(x'::l').map a.eval/\
    (∀z∈cs,z.ok w (Zf zl bG)/\z.bare/\∀b k,z.fp b k->(∃m'∈m::ms,m'.fp b k)\/((dV ((x,pm)::l)).isSome=true/\y.fp b k))/\cs.Pairwise λa b=>∀x k,a.fp x k->¬b.fp x k:=λz z1 z2 hm' he hmo=>by
   obtain⟨cs,c1,c2,c3,c4⟩:=ih hm';refine⟨z::cs,by rw[he,bC,c1],by simp[z1,c2],λu hu=>?_,ew.2 ⟨λu _ b k hf=>(z2.cW b k hf).elim,c4⟩⟩;rcases bM.1 hu with rfl|hu;·exact⟨z2.ok,z2.bare,λb k hf=>(z2.cW b k hf).elim⟩
   ·obtain⟨u1,u2,u3⟩:=c3 u hu;exact⟨u1,u2,λb k hf=>(u3 b k hf).imp (λ⟨m',hm',hf⟩=>⟨m',cI _ hm',hf⟩) λhh=>⟨hmo hh.1,hh.2⟩⟩
  obtain⟨p,p1,p2,p3⟩:=cy h hc.1.1;cases pm with
  |af=>obtain⟨z,z1,z2,z3⟩:=agG h.inv hb hG p3;rw[p1] at z1;exact Su z (by rw[z2,p2]) z3 hm (by simp only[bC,gE,z1]) λhh=>hh
  |fM n=>obtain⟨z,z1,z2,z3⟩:=agF h.inv hb hG p3 n (by simpa using hc.1.2);rw[p1] at z1;exact Su z (by rw[z2,p2]) z3 hm (by simp only[bC,gE,z1]) λhh=>hh
  |mv=>
   obtain⟨hv,hm⟩:=hm;obtain⟨cs,c1,c2,c3,c4⟩:=ih hm;obtain⟨m1,m2,m3⟩:=vl m (bE ..);refine⟨m::cs,by simp only[bC,gE,c1],by simp[hv,c2],λu hu=>?_,ew.2 ⟨λu hu b k hf hf'=>?_,c4⟩⟩
   ·rcases bM.1 hu with rfl|hu;·exact⟨m1,m2,λb k hf=>.inl ⟨u,bE ..,hf⟩⟩
    ·obtain⟨u1,u2,u3⟩:=c3 u hu;exact⟨u1,u2,λb k hf=>(u3 b k hf).imp (λ⟨m',hm',hf⟩=>⟨m',cI _ hm',hf⟩) id⟩
   ·rcases(c3 u hu).2.2 b k hf' with ⟨m',hm',iI⟩|⟨_,iI⟩;·exact xR.1 m' hm' b k hf iI
    ·exact m3 b k hf iI
  | «mut» n=>
   obtain⟨cs,c1,c2,c3,c4⟩:=ih hm;have hno:dV l=none:=by simpa using hc.1.2
   have hv:=pL 0 x n x' rfl rfl;refine⟨y::cs,by simp only[bC,gE,c1],by simp[hv,c2],λu hu=>?_,ew.2 ⟨λu hu b k hf hf'=>?_,c4⟩⟩
   ·rcases bM.1 hu with rfl|hu;·exact⟨hy,Ft,λb k hf=>.inr ⟨rfl,hf⟩⟩
    ·obtain⟨u1,u2,u3⟩:=c3 u hu;refine⟨u1,u2,λb k hf=>(u3 b k hf).imp (λ⟨m',hm',hf⟩=>⟨m',cI _ hm',hf⟩) λhh=>⟨rfl,hh.2⟩⟩
   ·rcases(c3 u hu).2.2 b k hf' with ⟨m',hm',iI⟩|⟨hh,_⟩;·exact(vl m' (cI _ hm')).2.2 b k iI hf
    ·rw[hno] at hh;cases hh
 |[],_::_,hc,_,_,_,_,_=>by cases hc
 |_::_,[],hc,_,_,_,_,_=>by cases hc
 |[],[],_,_::_,hm,_,_,_=>hm.elim
def YK{G2:Nat->C}{s2:ag}{bG:Nat->Nat->Prop}(h:St c G2 zl s2 a w)(hb:∀b k,c.zb b k->bG b k)(hG:∀t b k,(G2 t).fp b k->bG b k){x:AV}{x':Operand}(hx:aO x' x=true){f:FuncId}{cs:List X}(he:ax s2 x=.fn f cs):
  ∃l:List C,l.map C.er=pz s2 (some x)/\a.eval x'=.func (.func f) #[] (l.map C.val).toArray/\∀x∈l,gi w zl bG x:=by
 obtain⟨p,p1,p2,p3⟩:=cy h hx;rw[he] at p1;cases p with
 |fn g n fc=>
  simp only[C.er,X.fn.injEq] at p1;obtain⟨rfl,p1⟩:=p1
  obtain⟨l',l1,l2,l3⟩:=MG h.inv hb hG ((List.range n).map fc) λx hx=>by
   obtain⟨j,hj,rfl⟩:=aY.1 hx;have hj':j<n:=by simpa using hj
   exact⟨(p3.ok j hj').1,p3.rf j hj',(p3.ok j hj').2⟩
  refine⟨l',?_,?_,l3⟩;·rw[l1,pz,he,<-p1,cM];rfl
  ·rw[<-p2,l2,cM];rfl
 |_=>simp[C.er] at p1
end
end M
namespace M
open Go Go.RowKit
variable [Bs]
def j6{l:List X}:X.clean.cD l=true↔∀x∈l,x.clean=true:=by
 induction l with
 |nil=>simp[X.clean.cD]
 |cons a l ih=>simp[X.clean.cD,ih]
def PG{l:List (List X)}:X.clean.bw l=true↔∀x∈l,∀y∈x,y.clean=true:=by
 induction l with
 |nil=>simp[X.clean.bw]
 |cons a l ih=>simp[X.clean.bw,ih,j6]
namespace C
def ef:C->C
 |.row _ sz A len cap e=>.row .sl sz A len cap λi j=>(e i j).ef
 |.ptr _ g o n c=>.ptr .sl g o n λj=>(c j).ef
 |.agg n c=>.agg n λj=>(c j).ef
 |.ak n c=>.ak n λj=>(c j).ef
 |.fn f n c=>.fn f n λj=>(c j).ef
 |.ref v _ _=>.dead v
 |.aj v _ _ _ _=>.dead v
 |.cut v _ _ _ _=>.dead v
 |.dead v=>.dead v
 |.int k n=>.int k n
 |.bool b=>.bool b
 |.str s=>.str s
def yT:∀c:C,c.ef.er=c.er.md .sl
 |.row m sz A len cap e=>by simp only[ef,er,X.md];rw[X.G6 .sl (λ_=>List.range sz) (λi j=>(e i j).er)];congr 1;exact cv λi _=>cv λj _=>yT (e i j)
 |.ptr m g o n c=>by simp only[ef,er,X.md,X.oy];congr 1;exact cv λj _=>yT (c j)
 |.agg n c=>by simp only[ef,er,X.md,X.oy];congr 1;exact cv λj _=>yT (c j)
 |.ak n c=>by simp only[ef,er,X.md,X.oy];congr 1;exact cv λj _=>yT (c j)
 |.fn f n c=>by simp only[ef,er,X.md,X.oy];congr 1;exact cv λj _=>yT (c j)
 |.ref _ _ _=>by simp only[ef,er,X.md]
 |.aj _ _ _ _ _=>by simp only[ef,er,X.md]
 |.cut _ _ _ _ _=>by simp only[ef,er,X.md]
 |.dead _=>by simp only[ef,er,X.md]
 |.int _ _=>by simp only[ef,er,X.md]
 |.bool _=>by simp only[ef,er,X.md]
 |.str _=>by simp only[ef,er,X.md]
def yV:∀c:C,c.ef.val=c.val
 |.row m sz A len cap e=>rfl
 |.ptr m g o n c=>rfl
 |.agg n c=>by simp only[ef,val];congr 2;exact cv λj _=>yV (c j)
 |.ak n c=>by simp only[ef,val];congr 2;exact cv λj _=>yV (c j)
 |.fn f n c=>by simp only[ef,val];congr 2;exact cv λj _=>yV (c j)
 |.ref _ _ _=>rfl
 |.aj _ _ _ _ _=>rfl
 |.cut _ _ _ _ _=>rfl
 |.dead _=>rfl
 |.int _ _=>rfl
 |.bool _=>rfl
 |.str _=>rfl
def uc:∀(c:C) (b k:Nat),¬c.ef.fp b k
 |.row m sz A len cap e,b,k=>λh=>by cases h.1
 |.ptr m g o n c,b,k=>λh=>by cases h.1
 |.agg n c,b,k=>λ⟨j,_,hf⟩=>uc (c j) b k hf
 |.ak n c,b,k=>λ⟨j,_,hf⟩=>uc (c j) b k hf
 |.fn f n c,b,k=>λh=>h
 |.ref _ _ _,b,k=>λh=>h
 |.aj _ _ _ _ _,b,k=>λh=>h
 |.cut _ _ _ _ _,b,k=>λh=>h
 |.dead _,b,k=>λh=>h
 |.int _ _,b,k=>λh=>h
 |.bool _,b,k=>λh=>h
 |.str _,b,k=>λh=>h
def Mj{c:C}(h:c.cell):c.ef.cell:=by cases c<;>first|exact h|exact h.elim|trivial
def aeF{c:C}(h:c.fX):c.ef.fX:=by cases c<;>first|exact h|exact h.elim|trivial
def aeH{c:C}(h:c.cN):c.ef.cN:=by cases c<;>first|exact h|exact h.elim|trivial
def SN(c:C):c.ef.fits .sl:=by cases c<;>first|trivial|exact .inr (.inl rfl)
def aeG{c:C}(h:c.plain):c.ef.plain:=by cases c<;>first|exact h|exact h.elim|trivial
variable {w:World}{zl aH zb:Nat->Nat->Prop}
def yU(hz:∀b k,zl b k->aH b k):∀c:C,c.er.clean=true->(∀b k,c.fp b k->aH b k)->c.ok w (Zf zl zb)->c.ef.ok w (Zf aH zb)
 |.row m sz A len cap e,hcl,hf,h=>by
  obtain⟨h1,h2,h3,h4,h5⟩:=h;simp only[er,X.clean,av] at hcl;refine⟨h1,λi j hi hj=>?_,λi j hi hj=>?_,λhm=>by (cases hm),λi j hi hj b k hh=>(uc _ b k hh).elim⟩
  ·obtain⟨g,o,hA,hc,pP⟩:=h2 i j hi hj;refine⟨g,o,hA,by rw[yV];exact hc,λ_=>?_⟩;cases m with
   |own=>exact hf _ _ ⟨rfl,.inl ⟨o,hA⟩⟩
   |sl=>exact hz _ _ (pP (by simp))
   |af=>simp at hcl
  ·obtain⟨a1,a2,a3,a4⟩:=h3 i j hi hj;exact⟨Mj a1,aeH a2,SN _,yU hz (e i j) (PG.1 hcl.2 _ (aY.2 ⟨i,by simpa using hi,rfl⟩) _ (aY.2 ⟨j,by simpa using hj,rfl⟩)) (λb k hk=>hf b k (ki a1 a3 hi hj hk)) a4⟩
 |.ptr m g o n c,hcl,hf,h=>by
  obtain⟨h1,h2,h3,h4⟩:=h;simp only[er,X.clean,av] at hcl;refine⟨λj hj=>?_,h2,λj hj=>?_,λj hj b k hh=>(uc _ b k hh).elim⟩
  ·obtain⟨a1,a2,a3⟩:=h1 j hj;refine⟨by rw[yV];exact a1,λ_=>?_,λhm=>by (cases hm)⟩;cases m with
   |own=>exact hf _ _ ⟨rfl,.inl ⟨rfl,by omega,by omega⟩⟩
   |sl=>exact hz _ _ (a2 (by simp))
   |af=>simp at hcl
  ·obtain⟨a1,a2,a3⟩:=h3 j hj;exact⟨Mj a1,SN _,yU hz (c j) (j6.1 hcl.2 _ (aY.2 ⟨j,by simpa using hj,rfl⟩)) (λb k hk=>hf b k (k7 a1 a2 hj hk)) a3⟩
 |.agg n c,hcl,hf,h=>by simp only[er,X.clean] at hcl;exact⟨λj hj=>⟨Mj (h.1 j hj).1,yU hz (c j) (j6.1 hcl _ (aY.2 ⟨j,by simpa using hj,rfl⟩)) (λb k hk=>hf b k ⟨j,hj,hk⟩) (h.1 j hj).2⟩,λj hj b k hh=>(uc _ b k hh).elim⟩
 |.ak n c,hcl,hf,h=>by simp only[er,X.clean] at hcl;exact⟨λj hj=>⟨aeF (h.1 j hj).1,yU hz (c j) (j6.1 hcl _ (aY.2 ⟨j,by simpa using hj,rfl⟩)) (λb k hk=>hf b k ⟨j,hj,hk⟩) (h.1 j hj).2⟩,λj hj b k hh=>(uc _ b k hh).elim⟩
 |.fn f n c,hcl,hf,h=>by simp only[er,X.clean] at hcl;exact λj hj=>⟨yU hz (c j) (j6.1 hcl _ (aY.2 ⟨j,by simpa using hj,rfl⟩)) (λb k hk=>((h j hj).2 b k hk).elim) (h j hj).1,λb k hh=>uc _ b k hh⟩
 |.ref _ _ _,_,_,_=>trivial
 |.aj _ _ _ _ _,_,_,_=>trivial
 |.cut _ _ _ _ _,_,_,_=>trivial
 |.dead _,_,_,_=>trivial
 |.int _ _,_,_,_=>trivial
 |.bool _,_,_,_=>trivial
 |.str _,_,_,h=>h
end C
variable {w:World}{zl zb:Nat->Nat->Prop}{G:Nat->C}{s:ag}
def Inv.more{aH:Nat->Nat->Prop}(h:Inv w zl zb G s)(h1:∀b k,zl b k->aH b k)(h2:∀b k,aH b k->(zl b k\/∀t,¬(G t).fp b k)/\b<w.heap.size):Inv w aH zb G s where
 er:=h.er
 ok:=λt=>C.gL (λm b k hz=>by
  cases m with
  |own=>exact hz
  |sl=>exact h1 b k hz
  |af=>exact hz.imp (h1 b k) id) _ (h.ok t)
 sep:=h.sep
 fz:=λt b k hf=>⟨λhz=>by
  rcases(h2 b k hz).1 with hh|hh;·exact(h.fz t b k hf).1 hh
  ·exact hh t hf,(h.fz t b k hf).2⟩
 rf:=h.rf
 cC:=λb k hz=>hz.elim (λhz=>(h2 b k hz).2) λhz=>h.cC b k (.inr hz)
section
variable {P:Program}{c:Ctx}{a:Act}{o:Oper}{K:ag->Prop}
def St.more{aH:Nat->Nat->Prop}(h:St c G zl s a w)(h1:∀b k,zl b k->aH b k)(h2:∀b k,aH b k->(zl b k\/∀t,¬(G t).fp b k)/\b<w.heap.size)(h3:∀b k,aH b k->zl b k\/c.F0 b k\/c.w0.heap.size<=b):St c G aH s a w where
 inv:=h.inv.more h1 h2
 val:=h.val
 size:=h.size
 small:=h.small
 defers:=h.defers
 tr:=⟨h.tr.ext,h.tr.dom,λb k hz=>h1 b k (h.tr.qN b k hz),λb k hz=>(h3 b k hz).elim (h.tr.zl b k) .inr,h.tr.gl,h.tr.AU⟩
 args:=h.args
def Tq{d:Nat}{v:Value}(hd:a.tmps.getD d undef=v)(hn:d<a.tmps.size):a.put (some d) v=a:=by
 unfold Act.put;simp only;congr 1;apply Io;intro i;by_cases e:d=i;·subst e;rw[Vg hn,<-hd,wU,DS hn];rfl
 ·rw[On e]
def Q2{d:Nat}{s':ag}(h:St c G zl s a w)(hn:d<c.nt)(cs:List C)(hcs:∀x∈cs,Ac w zl c.zb G x)(k:List C->C)(kx:List X->X)(hk:∀l:List C,l.length=cs.length->(k l).er=kx (l.map C.er))
  (hkv:∀l:List C,l.map C.val=cs.map C.val->(k l).val=a.tmps.getD d undef)(Ff:∀{aH:Nat->Nat->Prop},∀l:List C,l.length=cs.length->(∀x∈l,x.plain/\x.ok w (Zf aH c.zb)/\∀b k,¬x.fp b k)->(k l).ok w (Zf aH c.zb)/\(∀b q,¬(k l).fp b q)/\∀G,(k l).rf G)
  (hg:kR d (cs.map C.er) kx s=some s'):∃G' aH,St c G' aH s' a w:=by
 obtain⟨l,G1,e1,e2,e3,e4,e5⟩:=Dr cs G s h.inv hcs;unfold kR at hg;rw[<-e1] at hg;cases hcl:X.clean.cD (l.map C.er) with
 |false=>rw[hcl] at hg;cases hg
 |true=>
  rw[hcl,mH] at hg;have hlen:l.length=cs.length:=by have:=dB List.length e2;simpa using this
  let aH:Nat->Nat->Prop:=λb k=>zl b k\/∃y∈l,y.fp b k;have h1:St c G1 zl (bW (cs.map C.er) s).2 a w:=h.move e4.inv e4.val (Ext.refl (λ_ _=>False) w) (λ_ _ hs=>hs.elim) (λt b k hf=>.inl ⟨t,e4.mono t b k hf⟩)
  have h2:St c G1 aH (bW (cs.map C.er) s).2 a w:=h1.more (λb k hz=>.inl hz) (λb k hz=>by
   rcases hz with hz|⟨y,hy,hf⟩;·exact⟨.inl hz,h1.inv.cC b k (.inl hz)⟩
   ·exact⟨.inr λt=>(e4.all y hy).2.1 t b k hf,C.fN _ (e4.all y hy).1 b k hf⟩) (λb k hz=>by
   rcases hz with hz|⟨y,hy,hf⟩;·exact .inl hz
   ·obtain⟨t,ht⟩:=(e4.all y hy).2.2.2 b k hf;exact .inr (h.tr.dom t b k ht))
  let m:=l.map C.ef;have hml:m.length=cs.length:=by simp[m,hlen]
  have adg:m.map C.er=X.dU .sl (l.map C.er):=by rw[X.oy];simp only[m,cM];exact cv λx _=>C.yT x
  have RL:m.map C.val=cs.map C.val:=by rw[<-e2];simp only[m,cM];exact cv λx _=>C.yV x
  have hmem:∀x∈m,x.plain/\x.ok w (Zf aH c.zb)/\∀b k,¬x.fp b k:=λx hx=>by obtain⟨y,hy,rfl⟩:=aY.1 hx;exact⟨C.aeG (e3 y hy),C.yU (λb k hz=>.inl hz) y (j6.1 hcl _ (kA hy)) (λb k hf=>.inr ⟨y,hy,hf⟩) (e4.all y hy).1,C.uc y⟩
  rw[<-adg] at hg;cases hb:gX (cs.map C.er) (m.map C.er) (bW (cs.map C.er) s).2 with
  |none=>rw[hb] at hg;cases hg
  |some s3=>
   rw[hb] at hg;simp only[cG,dH] at hg;subst hg;obtain⟨G2,g1,g2,g3⟩:=Ed cs m h2.inv hml (λv r p hm=>e5 v r p ((hcs _ hm).weak v r p rfl)) (λi x y hx hy=>by have hy':=hmem y (sE hy);refine⟨hy'.1,?_,hy'.2.1⟩;have:=dB (λt:List Value=>t[i]?) RL;simpa [cV,hx,hy] using this) (λy hy=>⟨λt b k hf=>((hmem y hy).2.2 b k hf).elim,λb k hf=>((hmem y hy).2.2 b k hf).elim⟩) (sR λx hx=>(hmem x hx).2.2) hb
   have h3:St c G2 aH s3 a w:=h2.move g1 g2 (Ext.refl (λ_ _=>False) w) (λ_ _ hs=>hs.elim) (λt b k hf=>by
    rcases g3 t b k hf with hh|⟨y,hy,hh⟩;·exact .inl ⟨t,hh⟩
    ·exact((hmem y hy).2.2 b k hh).elim)
   obtain⟨o1,o2,o3⟩:=Ff m hml hmem;obtain⟨G3,h4⟩:=h3.put hn o1 (λt _ b k hf=>(o2 b k hf).elim) (λb k hf=>(o2 b k hf).elim) (o3 G2) (λb k hf=>(o2 b k hf).elim);rw[hk m hml,Tq (hkv m RL).symm (by rw[h.size];exact hn)] at h4;exact⟨G3,aH,h4⟩
def ace{fz:Bool}{d:Nat}{s':ag}(h:St c G zl s a w)(hn:d<c.nt)(hg:ghost fz d s=some s'):∃G' aH,St c G' aH s' a w:=by
 obtain⟨e1,e2,e3⟩:=S9 h d;have hd:d<base:=jd hn h.small;have hval:a.tmps.getD d undef=(G d).val:=(h.val d hd).symm;unfold ghost at hg;cases fz with
 |false=>
  obtain⟨y,G1,f1,f2,f3,f4⟩:=su .mv h.inv e3;rw[e1] at f1 f4;have pO:y.val=a.tmps.getD d undef:=by rw[f2,e2,hval]
  simp only[sH,dH] at hg;subst hg;obtain⟨G2,h2⟩:=h.Nd f4 hn;rw[f1,Tq pO.symm (by rw[h.size];exact hn)] at h2;exact⟨G2,zl,h2⟩
 |true=>
  simp only[mH] at hg;rw[<-e1] at hg;cases hx:(G d).alias d [] with
  |agg n f=>
   rw[hx] at hg e2 e3;have er:(C.agg n f).er=.agg (((List.range n).map f).map C.er):=by simp only[C.er,cM];rfl
   rw[er] at hg;have hlen:((List.range n).map f).length=n:=by simp
   refine Q2 h hn ((List.range n).map f) (λx hx=>?_) gV .agg (λl _=>w9 l) (λl hl=>?_) (λl hl hm=>⟨⟨λj hj=>⟨C.mc (hm _ (cT hj _)).1,(hm _ (cT hj _)).2.1⟩,λj hj b q hf=>((hm _ (cT hj _)).2.2 b q hf).elim⟩,λb q hf=>?_,λG j hj=>C.qv (hm _ (cT hj _)).1 G⟩) hg
   ·obtain⟨j,hj,rfl⟩:=aY.1 hx;have hj':j<n:=by simpa using hj
    exact⟨(e3.ok.1 j hj').1,(e3.ok.1 j hj').2,λb k hf=>e3.cW b k ⟨j,hj',hf⟩,λv r p e=>Dw (by rw[<-e];exact e3.rf j hj')⟩
   ·rw[Ae,hl,hval,<-e2];simp only[C.val,cM];rfl
   ·obtain⟨x,hx,hf⟩:=(sP _ _ _).1 hf;exact(hm x hx).2.2 b q hf
  |ref v r p=>
   rw[hx] at hg e2 e3;refine Q2 h hn [.ref v r p] (λx hx=>?_) (λl=>l.headD (.dead undef)) (λl=>l.headD .dead) (λl hl=>?_) (λl hl=>?_) (λl hl hm=>?_) hg;·obtain rfl:=fQ.1 hx;exact⟨MJ e3.rf,trivial,λb k hf=>hf,λv' r' p' e=>by cases e;exact Dw e3.rf⟩
   ·cases l with
    |nil=>simp at hl
    |cons x l=>rfl
   ·cases l with
    |nil=>simp at hl
    |cons x l=>
     have:x.val=v:=by have:=dB List.head? hl;simpa [C.val] using this
     show x.val=_;rw[this,hval,<-e2];rfl
   ·cases l with
    |nil=>simp at hl
    |cons x l=>obtain⟨a1,a2,a3⟩:=hm x (bE ..);exact⟨a2,a3,λG=>C.qv a1 G⟩
  |_=>rw[hx] at hg;simp only[C.er,dH] at hg;subst hg;exact⟨G,zl,h⟩
def af0(h:St c G zl s a w){d sz:Nat}{fz agg:Bool}{ty:TypeId}{x:AV}{x':Operand}(ho:o.op=.load ty x')(hsz:∃i,P.info? ty=some i/\i.size=sz)(nY:∃dd,P.underlying ty=some dd/\(match dd with|.struct _=>true|.array _ _=>true|_=>false)=agg)
  (h1:agg=true\/sz=1)(hd:o.dst=some d)(hn:d<c.nt)(hx:aO x' x=true)
  (hK:aR P (.iL d fz sz agg x) s K):dL P c o a w K:=by obtain⟨cs,k1,k2,s',k3,k4⟩:=hK;obtain⟨v,hr,G1,uD,s1,q1,q2⟩:=S7 (K:=λt=>t=put d (bif agg then .agg (cs.take sz) else cs.headD .dead) s) h ho hsz nY h1 hd hn hx ⟨cs,k1,k2,rfl⟩;subst q1;obtain⟨G2,uE,h2⟩:=ace q2 hn k3;exact⟨v,hr,G2,uE,s',k4,h2⟩
end
end M
namespace M
open Go Go.RowKit
variable [Bs]
section
variable {P:Program}{c:Ctx}{G:Nat->C}{zl:Nat->Nat->Prop}{s:ag}{a:Act}{w:World}{o:Oper}{K:ag->Prop}
def sN(P:Program)(c:Ctx)(o:Oper)(a:Act)(w:World)(K:ag->Prop)(q:Bool):Prop:=
 ∃f args,(execOp a.eval o).run P w=.ok (.enter f args) w/\Calls P f args w λe w'=>∃v,e=.returned v/\Rel q w w'/\∃G' aH s',K s'/\St c G' aH s' (a.put o.dst v) w'
def ML{f:FuncId}{fn:Func}(hf:P.funcs[f]?=some fn)(hname:(fn.name== "runtime.NumGoroutine")=false) (hb:fn.body.isNone=false) (args:Array Value) (w:World):(callFunc f args).run P w=.ok (.enter f args) w:=by simp only[callFunc,Sem.run_bind,run_program,Result.andThen_ok,hf,hname,hb,iP,iD,Sem.run_pure]
def St.result{aH:Nat->Nat->Prop}(h:St c G aH s a w){x:C}(d:Option Nat)(hn:∀n,d=some n->n<c.nt)(hok:x.ok w (Zf aH λ_ _=>False))(hb:x.bare)(hsep:∀t b k,x.fp b k->¬(G t).fp b k)(hfz:∀b k,x.fp b k->¬aH b k/\¬c.zb b k)
  (hdom:∀b k,x.fp b k->c.F0 b k\/c.w0.heap.size<=b):∃G',St c G' aH (fY d x.er s) (a.put d x.val) w:=by
 cases d with
 |none=>exact⟨G,h⟩
 |some n=>
  refine h.put (hn n rfl) (C.gL (λm b k hz=>?_) _ hok) (λt _=>hsep t) hfz (C.sV G _ hb) hdom;cases m with
  |own=>exact hz
  |sl=>exact hz
  |af=>exact hz.imp id λh=>h.elim
def St.after{aH:Nat->Nat->Prop}{w':World}{G1:Nat->C}{s1:ag}{S:Nat->Nat->Prop}(h:St c G zl s a w)(hi:Inv w' aH c.zb G1 s1)(hv:∀t,(G1 t).val=(G t).val)(hE:Ext S w w')(hS:∀b k,S b k->∃t,(G t).fp b k)
  (hd:∀t b k,(G1 t).fp b k->(∃u,(G u).fp b k)\/w.heap.size<=b)(hz1:∀b k,zl b k->aH b k)(hz2:∀b k,aH b k->zl b k\/(∃t,(G t).fp b k)\/w.heap.size<=b):St c G1 aH s1 a w' where
 inv:=hi
 val:=λt ht=>(hv t).trans (h.val t ht)
 size:=h.size
 small:=h.small
 defers:=h.defers
 tr:=⟨h.tr.ext.trans hE (λb k hs hb=>by
   obtain⟨t,ht⟩:=hS b k hs;rcases h.tr.dom t b k ht with hh|hh;·exact hh
   ·omega),λt b k hf=>by
   rcases hd t b k hf with ⟨u,hu⟩|hb;·exact h.tr.dom u b k hu
   ·exact .inr (jB h.tr.ext.size hb),λb k hz=>hz1 b k (h.tr.qN b k hz),λb k hz=>by
   rcases hz2 b k hz with hz|⟨t,ht⟩|hb;·exact h.tr.zl b k hz
   ·exact .inr (h.tr.dom t b k ht)
   ·exact .inr (.inr (jB h.tr.ext.size hb)),h.tr.gl,h.tr.AU⟩
 args:=λi v hi=>(hv _).trans (h.args i v hi)
def St.J2(h:St c G zl s a w)(bG:Nat->Nat->Prop)(hz:∀b k,c.zb b k->bG b k):qP w zl bG:=λb hb=>by
 obtain⟨h1,h2⟩:=h.tr.gl b hb;refine⟨?_,λk=>(h2 k).imp (h.tr.qN b k) (hz b k)⟩;rw[<-h1]
 have hlt:b<c.w0.heap.size:=by
  rcases gb b c.w0.heap.size with h|h;·exact h
  ·rw[jW h] at h1;have:=Array.getElem?_eq_none_iff.1 h1.symm;omega
 rcases h.tr.ext.block b hlt with e|⟨arr,gm,t,fz,e1,e2,e3,e4⟩;·exact e
 ·have:gm=arr:=by apply Io;intro i;exact e4 i (h.tr.AU b i hb)
  rw[e1,e2,this]
def HQ{G1:Nat->C}{s1:ag}{l:List C}(h:St c G zl s a w)(hT:bN w zl c.zb G l G1 s1):St c G1 zl s1 a w:=
 h.move hT.inv hT.val (Ext.refl (λ_ _=>False) w) (λ_ _ hs=>hs.elim) (λt b k hf=>.inl ⟨t,hT.mono t b k hf⟩)
structure uF (P:Program) (c:Ctx) (zl:Nat->Nat->Prop) (o:Oper) (a:Act) (w:World) (l':List Operand) (f:FuncId) (fv:Option AV):Prop where
 run:∃qU:List Value,(execOp a.eval o).run P w=.ok (.enter f ((l'.map a.eval)++qU).toArray) w/\
  ∀{G2:Nat->C} {s2:ag} {bG:Nat->Nat->Prop},St c G2 zl s2 a w->(∀b k,c.zb b k->bG b k)->(∀t b k,(G2 t).fp b k->bG b k)->sY s2 fv f->∃l:List C,l.map C.er=pz s2 fv/\l.map C.val=qU/\∀x∈l,gi w zl bG x
def ju:List (AV×PM)->Bool
 |[]=>true
 |(_,.af)::l=>ju l
 |(_,.fM _)::l=>ju l
 |_::_=>false
def Mn:∀{l:List (AV×PM)} (s:ag),ju l=true->∀x∈(bU l s).1,x=.dead
 |[],s,_,x,hx=>by cases hx
 |(_,.af)::l,s,h,x,hx=>(bM.1 hx).elim id (Mn (l:=l) s h x)
 |(_,.fM _)::l,s,h,x,hx=>(bM.1 hx).elim id (Mn (l:=l) s h x)
 |(_,.mv)::l,s,h,x,hx=>by cases h
 |(_,.mut _)::l,s,h,x,hx=>by cases h
def yY:∀{l:List (AV×PM)},ju l=true->dV l=none
 |[],_=>rfl
 |(_,.af)::l,h=>yY (l:=l) h
 |(_,.fM _)::l,h=>yY (l:=l) h
 |(_,.mv)::l,h=>by cases h
 |(_,.mut _)::l,h=>by cases h
def Px(q:Bool)(h:St c G zl s a w){l':List Operand}{as:List (AV×PM)}(hc:gZ l' as=true)(hno:dV as=none){f:FuncId}{fv:Option AV}(hop:uF P c zl o a w l' f fv)(hq:q=true->ju as=true)(hn:∀n,o.dst=some n->n<c.nt)(hK:uS P f o.dst as fv s K):sN P c o a w K q:=by
 obtain⟨k1,k2⟩:=hK;rw[hno] at k2;obtain⟨k2,k3⟩:=k2;obtain⟨ms,G1,g1,g2,hT⟩:=G9 hc h;obtain⟨qU,hrun,A5⟩:=hop.run;have h1:=HQ h hT;rw[<-g1] at k1 k3;have jQ:∀b k,c.zb b k->(c.zb b k\/∃t,(G1 t).fp b k):=λb k hz=>.inl hz;have tH:∀t b k,(G1 t).fp b k->(c.zb b k\/∃t,(G1 t).fp b k):=λt b k hf=>.inr ⟨t,hf⟩;obtain⟨l,l1,l2,l3⟩:=A5 (bG:=λb k=>c.zb b k\/∃t,(G1 t).fp b k) h1 jQ tH k2
 have adh:∀x∈ms,x.ok w (Zf zl λb k=>c.zb b k\/∃t,(G1 t).fp b k)/\x.bare/\∀b k,x.fp b k->¬(C.dead undef).fp b k:=λx hx=>by
  refine⟨C.gL (λm b k hz=>?_) _ (hT.all x hx).1,(C.mL x).1 (C.xh.1 k1 _ (kA hx)),λ_ _ _ h=>h⟩;cases m with
  |own=>exact hz
  |sl=>exact hz
  |af=>exact hz.imp id .inl
 obtain⟨cs,c1,c2,c3,c4⟩:=Eb (bG:=λb k=>c.zb b k\/∃t,(G1 t).fp b k) h1 jQ tH (y:=.dead undef) trivial trivial hc g2 adh hT.apart (λi x n x' hi _=>by
  exfalso
  have:∀{l:List (AV×PM)} {i:Nat},l[i]?=some (x,PM.mut n)->dV l≠none:=by
   intro l;induction l with
   |nil=>intro i hi;simp at hi
   |cons p l ih=>
    intro i hi;obtain⟨y,pm⟩:=p;cases i with
    |zero=>simp only[zU,dH,jV] at hi;obtain⟨_,rfl⟩:=hi;simp[dV]
    |succ i=>have:=ih (by simpa using hi);cases pm<;>simp[dV]<;>first|exact this|skip
  exact this hi hno)
 have bZ:∀x∈cs++l,∀b k,x.fp b k->∃m∈ms,m.fp b k:=λx hx b k hf=>by
  rcases fE.1 hx with hx|hx
  ·rcases(c3 x hx).2.2 b k hf with hh|hh;·exact hh
   ·exact hh.2.elim
  ·exact((l3 x hx).cW b k hf).elim
 have hA:nQ w zl (λb k=>c.zb b k\/∃t,(G1 t).fp b k) (cs++l):={
  ok:=λx hx=>(fE.1 hx).elim (λhx=>(c3 x hx).1) λhx=>(l3 x hx).ok
  bare:=λx hx=>(fE.1 hx).elim (λhx=>(c3 x hx).2.1) λhx=>(l3 x hx).bare
  fz:=λx hx b k hf=>by obtain⟨m,hm,hf⟩:=bZ x hx b k hf;exact⟨((hT.all m hm).2.2.1 b k hf).1,λhz=>hz.elim ((hT.all m hm).2.2.1 b k hf).2 λ⟨t,ht⟩=>(hT.all m hm).2.1 t b k hf ht⟩
  cC:=λb k hz=>by
   rcases hz with hz|hz|⟨t,ht⟩;·exact hT.inv.cC b k (.inl hz)
   ·exact hT.inv.cC b k (.inr hz)
   ·exact C.fN _ (hT.inv.ok t) b k ht
  apart:=sF.2 ⟨c4,sR λx hx=>(l3 x hx).cW,λx _ y hy b k _ hf=>(l3 y hy).cW b k hf⟩}
 have tB:=k3 w zl _ (cs++l) (by rw[kF,c1,l1];rfl) hA (h.J2 _ λb k hz=>.inl hz);have vt:(cs++l).map C.val=l'.map a.eval++qU:=by rw[kF,c2,l2]
 rw[vt] at tB;refine⟨f,_,hrun,tB.mono ?_⟩;rintro e w' ⟨r,ps,aH,hD,hk⟩;have hin:∀b k,aH b k->b<w'.heap.size:=λb k hz=>hD.all.cC b k (.inl hz);have kX:∀b k,(∃m∈ms,m.fp b k)->(∀t,¬(G1 t).fp b k)/\¬zl b k/\¬c.zb b k:=λb k ⟨m,hm,hf⟩=>⟨λt=>(hT.all m hm).2.1 t b k hf,(hT.all m hm).2.2.1 b k hf⟩;have lM:∀b k,(∃x∈cs++l,x.fp b k)->∃m∈ms,m.fp b k:=λb k ⟨x,hx,hf⟩=>bZ x hx b k hf;have Bt:∀b k,aH b k->zl b k\/(∃m∈ms,m.fp b k)\/w.heap.size<=b:=λb k hz=>(hD.uE b k hz).imp id λhh=>hh.imp (lM b k) id
 have hi:=hT.inv.OL hD.ext (λb k hs=>kX b k (lM b k hs)) hD.uD (λb k hz=>⟨hin b k hz,λt hf=>by
  rcases Bt b k hz with hz|hm|hb;·exact(hT.inv.fz t b k hf).1 hz
  ·exact(kX b k hm).1 t hf
  ·have:=C.fN _ (hT.inv.ok t) b k hf;omega⟩)
 have kY:∀b k,(∃m∈ms,m.fp b k)->∃t,(G t).fp b k:=λb k ⟨m,hm,hf⟩=>(hT.all m hm).2.2.2 b k hf;have h2:St c G1 aH (bU as s).2 a w':=h.after hi hT.val hD.ext (λb k hs=>kY b k (lM b k hs)) (λt b k hf=>.inl ⟨t,hT.mono t b k hf⟩) hD.uD (λb k hz=>(Bt b k hz).imp id λhh=>hh.imp (kY b k) id);have hrd:∀b k,r.fp b k->(∃m∈ms,m.fp b k)\/w.heap.size<=b:=λb k hf=>(hD.dom r (bE ..) b k hf).imp (lM b k) id
 obtain⟨G3,h3⟩:=h2.result (x:=r) o.dst hn (hD.all.ok r (bE ..)) (hD.all.bare r (bE ..)) (λt b k hf hf'=>by
   rcases hrd b k hf with hm|hb;·exact(kX b k hm).1 t hf'
   ·have:=C.fN _ (hT.inv.ok t) b k hf';omega) (λb k hf=>⟨(hD.all.fz r (bE ..) b k hf).1,λhz=>by
   rcases hrd b k hf with hm|hb;·exact(kX b k hm).2.2 hz
   ·have:=hT.inv.cC b k (.inr hz);omega⟩) (λb k hf=>by
   rcases hrd b k hf with hm|hb;·obtain⟨t,ht⟩:=kY b k hm;exact h.tr.dom t b k ht
   ·exact .inr (jB h.tr.ext.size hb))
 refine⟨r.val,hD.ends,λKG=>hD.ext.mono λb k hs _=>?_,G3,aH,_,hk,h3⟩;obtain⟨m,hm,hf⟩:=lM b k hs;have hd:=Mn s (hq KG) m.er (by rw[<-g1];exact kA hm);cases m<;>first|exact hf|(simp[C.er] at hd)
end
end M
namespace M
open Go Go.RowKit
variable [Bs]
structure fe (w w':World) (zl aH zb:Nat->Nat->Prop) (G:Nat->C) (r:Nat) (p:Path) (D y q:C) (S M:Nat->Nat->Prop):Prop where
 sub:(G r).sub p=some D
 yD:∀b k,y.fp b k->D.fp b k
 ext:Ext S w w'
 tW:∀b k,S b k->M b k\/y.fp b k
 zh:∀b k,M b k->(∀t,¬(G t).fp b k)/\¬zl b k/\¬zb b k
 Hu:q.ok w' (Zf aH zb)
 bare:q.bare
 val:q.val=y.val
 fp:∀b k,q.fp b k->S b k\/w.heap.size<=b
 qz:∀b k,q.fp b k->¬aH b k
 z1:∀b k,zl b k->aH b k
 z2:∀b k,aH b k->zl b k\/S b k\/w.heap.size<=b
 cC:∀b k,aH b k->b<w'.heap.size
section
variable {w w':World}{zl aH zb:Nat->Nat->Prop}{G:Nat->C}{s:ag}{r:Nat}{p:Path}{D y q:C}{S M:Nat->Nat->Prop}
def fe.DG(h:fe w w' zl aH zb G r p D y q S M)(hi:Inv w zl zb G s){b k:Nat}(hf:D.fp b k):(G r).fp b k:=C.gQ p h.sub (hi.ok r) hf
def fe.notM(h:fe w w' zl aH zb G r p D y q S M)(hi:Inv w zl zb G s){b k:Nat}(hf:D.fp b k):¬M b k:=λhm=>(h.zh b k hm).1 r (h.DG hi hf)
def fe.SV(h:fe w w' zl aH zb G r p D y q S M)(hi:Inv w zl zb G s){b k:Nat}(hf:D.fp b k):¬w.heap.size<=b:=λhb=>by have:=C.fN _ (hi.ok r) b k (h.DG hi hf);omega
def fe.qD(h:fe w w' zl aH zb G r p D y q S M)(hi:Inv w zl zb G s){b k:Nat}(hq:q.fp b k)(hf:D.fp b k):y.fp b k:=by
 rcases h.fp b k hq with hs|hb;·exact(h.tW b k hs).resolve_left (h.notM hi hf)
 ·exact(h.SV hi hf hb).elim
def fe.zD(h:fe w w' zl aH zb G r p D y q S M)(hi:Inv w zl zb G s){b k:Nat}(hz:aH b k)(hf:D.fp b k):y.fp b k:=by
 rcases h.z2 b k hz with hz|hs|hb;·exact((hi.fz r b k (h.DG hi hf)).1 hz).elim
 ·exact(h.tW b k hs).resolve_left (h.notM hi hf)
 ·exact(h.SV hi hf hb).elim
def fe.SD(h:fe w w' zl aH zb G r p D y q S M)(hi:Inv w zl zb G s){b k:Nat}(hs:S b k)(hf:D.fp b k):y.fp b k:=(h.tW b k hs).resolve_left (h.notM hi hf)
def fe.Z(h:fe w w' zl aH zb G r p D y q S M)(hi:Inv w zl zb G s):∀m b k,Zf zl zb m b k->¬S b k:=λm b k hz hs=>by
 rcases h.tW b k hs with hm|hy
 ·obtain⟨_,a1,a2⟩:=h.zh b k hm;cases m with
  |own=>exact hz
  |sl=>exact a1 hz
  |af=>exact hz.elim a1 a2
 ·exact hi.zY r m b k hz (h.DG hi (h.yD b k hy))
def fe.mono(h:fe w w' zl aH zb G r p D y q S M):∀m b k,Zf zl zb m b k->Zf aH zb m b k:=λm b k hz=>by
 cases m with
 |own=>exact hz
 |sl=>exact h.z1 b k hz
 |af=>exact hz.imp (h.z1 b k) id
def fe.back(h:fe w w' zl aH zb G r p D y q S M)(hi:Inv w zl zb G s){d0:C}(hok:d0.ok w' (Zf aH zb))(hF:C.gD D d0)(hl:C.iF D d0)(hrf:(d0.az (C.belows r p)).rf λt=>(G t).az (C.belows r p))(bZ:∀b k,d0.fp b k->q.fp b k\/(D.fp b k/\¬y.fp b k))(hz:∀b k,d0.fp b k->¬aH b k):
  ∃G',Inv w' aH zb G' (iN r p d0.er s)/\(∀t,(G' t).val=(G t).val)/\∀t b k,(G' t).fp b k->q.fp b k\/((∃u,(G u).fp b k)/\¬y.fp b k):=by
 have h1:=hi.fk r p;have hs1:((G r).az (C.belows r p)).sub p=some (D.az (C.belows r p)):=C.jr _ p _ _ (hi.ok r) h.sub;have Bd:∀t b k,((G t).az (C.belows r p)).fp b k↔(G t).fp b k:=λt b k=>C.cP _ _ b k
 have hFB:C.gD (D.az (C.belows r p)) (d0.az (C.belows r p)):=by
  cases hF with
  |row=>exact .row ..
  |ptr=>exact .ptr ..
 have tD:C.iF (D.az (C.belows r p)) (d0.az (C.belows r p)):=by
  cases hF with
  |row m m' sz A len cap e e'=>exact⟨rfl,λh=>h,λh=>h,λh=>h,hl.fits⟩
  |ptr m m' g o n c c'=>exact⟨rfl,λh=>h,λh=>h,λh=>h,hl.fits⟩
 obtain⟨i1,i2,i3⟩:=h1.I0 r p (λt=>C.gK _ _) hs1 hFB tD ⟨hrf,C.gK _ _⟩ h.ext (λb k hs=>by
   rcases h.tW b k hs with hm|hy;·obtain⟨a1,a2,a3⟩:=h.zh b k hm;exact .inr ⟨λt hf=>a1 t ((Bd t b k).1 hf),a2,a3⟩
   ·exact .inl ((C.cP _ D b k).2 (h.yD b k hy))) (C.nB _ _ hok) h.z1 (λb k pP=>⟨λhf=>hz b k ((C.cP _ d0 b k).1 hf) pP,h.cC b k pP,λt hf=>by
   refine(C.cP _ D b k).2 ?_;have hf:=(Bd t b k).1 hf;rcases h.z2 b k pP with gy|hs|hb;·exact((hi.fz t b k hf).1 gy).elim
   ·rcases h.tW b k hs with hm|hy;·exact((h.zh b k hm).1 t hf).elim
    ·exact h.yD b k hy
   ·have:=C.fN _ (hi.ok t) b k hf;omega⟩) (λb k hf=>by
   rcases(bZ b k ((C.cP _ d0 b k).1 hf)).symm with hf|hf;·exact .inl ((C.cP _ D b k).2 hf.1)
   ·rcases h.fp b k hf with hs|hb
    ·rcases h.tW b k hs with hm|hy;·obtain⟨a1,a2,a3⟩:=h.zh b k hm;exact .inr ⟨λt hf=>a1 t ((Bd t b k).1 hf),a3⟩
     ·exact .inl ((C.cP _ D b k).2 (h.yD b k hy))
    ·exact .inr ⟨λt hf=>by have:=C.fN _ (hi.ok t) b k ((Bd t b k).1 hf);omega,λhz=>by have:=hi.cC b k (.inr hz);omega⟩)
 rw[C.yJ] at i1;refine⟨_,i1,λt=>(i2 t).trans (C.js _ _),λt b k hf=>?_⟩;rcases i3 t b k hf with hf|hf
 ·rcases bZ b k ((C.cP _ d0 b k).1 hf) with hf|hf;·exact .inl hf
  ·exact .inr ⟨⟨r,h.DG hi hf.1⟩,hf.2⟩
 ·exact .inr ⟨⟨t,(Bd t b k).1 hf.1⟩,λhy=>hf.2 ((C.cP _ D b k).2 (h.yD b k hy))⟩
end
end M
namespace M
open Go Go.RowKit
variable [Bs]
def Ua{α:Type}(f g:Nat->α){nn c n:Nat}(h:c+n<=nn):((List.range nn).map λj=>if c<=j/\j<c+n then g (j - c) else f j)=((List.range nn).map f).take c++(List.range n).map g++((List.range nn).map f).drop (c+n):=by
 apply iE;intro i;rw[C.de];have Ks:(((List.range nn).map f).take c).length=c:=by simp;omega
 have jm:(((List.range nn).map f).take c++(List.range n).map g).length=c+n:=by rw[gT,Ks];simp
 by_cases h0:i<nn
 ·rw[aq h0];by_cases h1:i<c;·rw[ay (by omega),qK (by omega),qK (by omega),Oe h1,C.de,aq h0]
  ·by_cases h2:i<c+n;·rw[aq ⟨by omega,h2⟩,qK (by omega),nN (by omega),Ks,C.de,aq (by omega)]
   ·rw[ay (by omega),nN (by omega),jm,zV,C.de,show c+n+(i - (c+n))=i by omega,aq h0]
 ·rw[ay h0,nN (by omega),jm,zV,C.de,ay (by omega)]
section
variable {w w':World}{zl aH zb:Nat->Nat->Prop}{G:Nat->C}{s:ag}{r:Nat}{p:Path}{S M:Nat->Nat->Prop}
def fe.ptr{g o nn n c:Nat}{f qf:Nat->C}(h:fe w w' zl aH zb G r p (.ptr .own g o nn f) (.ptr .own g (o+c) n λj=>f (j+c)) (.ptr .own g (o+c) n qf) S M)(hi:Inv w zl zb G s)(hn:c+n<=nn):
  ∃G',Inv w' aH zb G' (iN r p (.ptr .own (((List.range nn).map λj=>(f j).er).take c++((List.range n).map λj=>(qf j).er)++((List.range nn).map λj=>(f j).er).drop (c+n))) s)/\(∀t,(G' t).val=(G t).val)/\∀t b k,(G' t).fp b k->(C.ptr .own g (o+c) n qf).fp b k\/((∃u,(G u).fp b k)/\¬(C.ptr .own g (o+c) n λj=>f (j+c)).fp b k):=by
 obtain⟨D1,D2,D3,D4⟩:=C.iB p h.sub (hi.ok r);obtain⟨q1,q2,q3,q4⟩:=h.Hu;have n9:∀j,j<n->∀b k,(qf j).fp b k->(C.ptr .own g (o+c) n qf).fp b k:=λj hj b k hf=>C.k7 (q3 j hj).1 (q3 j hj).2.1 hj hf;have nX:∀j,j<nn->∀b k,(f j).fp b k->(C.ptr .own g o nn f).fp b k:=λj hj b k hf=>C.k7 (D3 j hj).1 (D3 j hj).2.1 hj hf;have ry:∀k,o<=k->k<o+nn->(C.ptr .own g o nn f).fp g k:=λk h1 h2=>⟨rfl,.inl ⟨rfl,h1,h2⟩⟩
 have ni:∀k,o<=k->k<o+nn->(C.ptr .own g (o+c) n λj=>f (j+c)).fp g k->o+c<=k/\k<o+c+n:=λk h1 h2 ⟨_,hf⟩=>by
  rcases hf with hf|⟨j,hj,hf⟩;·exact hf.2
  ·exact((D4 (j+c) (by omega) g k hf).1 rfl ⟨rfl,h1,h2⟩).elim
 have oc:∀j,j<nn->¬(c<=j/\j<c+n)->∀b k,(f j).fp b k->¬(C.ptr .own g (o+c) n λj=>f (j+c)).fp b k:=λj hj hne b k hf ⟨_,hf'⟩=>by
  rcases hf' with hf'|⟨j',hj',hf'⟩;·exact(D4 j hj b k hf).1 rfl ⟨hf'.1,by omega,by omega⟩
  ·exact(D4 j hj b k hf).2 (j'+c) (by omega) (by omega) hf'
 let d:Nat->C:=λj=>if c<=j/\j<c+n then qf (j - c) else f j
 have iR:∀j,c<=j/\j<c+n->d j=qf (j - c):=λj hj=>aq hj;have iS:∀j,¬(c<=j/\j<c+n)->d j=f j:=λj hj=>ay hj
 have hok:(C.ptr .own g o nn d).ok w' (Zf aH zb):=by
  refine⟨λj hj=>⟨?_,λhm=>(hm rfl).elim,λ_=>(h.ext.frozen D2).trans ((D1 j hj).2.2 rfl)⟩,jd D2 h.ext.size,λj hj=>?_,λj hj b k hf=>⟨λ_ hb=>?_,λj' hj' hne=>?_⟩⟩
  ·by_cases hr:c<=j/\j<c+n;·rw[iR j hr];have:=(q1 (j - c) (by omega)).1;rwa [show o+c+(j - c)=o+j by omega] at this
   ·rw[iS j hr];exact h.ext.cell (λhs=>hr (by have:=ni (o+j) (by omega) (by omega) (h.SD hi hs (ry _ (by omega) (by omega)));omega)) (D1 j hj).1
  ·by_cases hr:c<=j/\j<c+n;·rw[iR j hr];obtain⟨a1,a2,a3⟩:=q3 (j - c) (by omega);exact⟨a1,a2,a3⟩
   ·rw[iS j hr];obtain⟨a1,a2,a3⟩:=D3 j hj;exact⟨a1,a2,C.gL h.mono _ (C.fu h.ext (h.Z hi) _ (λb k hf hs=>oc j hj hr b k hf (h.SD hi hs (nX j hj b k hf))) a3)⟩
  ·obtain⟨rfl,fG,fH⟩:=hb;by_cases hr:c<=j/\j<c+n;·rw[iR j hr] at hf;have:=ni k fG fH (h.qD hi (n9 _ (by omega) _ _ hf) (ry k fG fH));exact(q4 (j - c) (by omega) _ k hf).1 rfl ⟨rfl,this.1,this.2⟩
   ·rw[iS j hr] at hf;exact(D4 j hj _ k hf).1 rfl ⟨rfl,fG,fH⟩
  ·by_cases hr:c<=j/\j<c+n
   ·rw[iR j hr] at hf;by_cases hr':c<=j'/\j'<c+n;·rw[iR j' hr'];exact(q4 (j - c) (by omega) b k hf).2 (j' - c) (by omega) (by omega)
    ·rw[iS j' hr'];exact λhf'=>oc j' hj' hr' b k hf' (h.qD hi (n9 _ (by omega) _ _ hf) (nX j' hj' b k hf'))
   ·rw[iS j hr] at hf;by_cases hr':c<=j'/\j'<c+n;·rw[iR j' hr'];exact λhf'=>oc j hj hr b k hf (h.qD hi (n9 _ (by omega) _ _ hf') (nX j hj b k hf))
    ·rw[iS j' hr'];exact(D4 j hj b k hf).2 j' hj' hne
 have acu:=Inv.wv.Dp p ((hi.fk r p).ok r) (C.jr (C.belows r p) p _ _ (hi.ok r) h.sub) ((hi.fk r p).rf r)
 obtain⟨G',i1,i2,i3⟩:=h.back hi (d0:=.ptr .own g o nn d) hok (.ptr ..) ⟨rfl,λh=>h,λh=>h,λh=>h,λ_ h=>h⟩ (λj hj=>by
   by_cases hr:c<=j/\j<c+n;·show ((d j).az _).rf _;rw[iR j hr];exact C.oz _ _ (C.sV _ _ (h.bare (j - c) (by omega)))
   ·show ((d j).az _).rf _;rw[iS j hr];exact acu j hj) (λb k hf=>by
   obtain⟨_,hf|⟨j,hj,hf⟩⟩:=hf
   ·obtain⟨rfl,h1,h2⟩:=hf;by_cases hr:o+c<=k/\k<o+c+n;·exact .inl ⟨rfl,.inl ⟨rfl,hr.1,hr.2⟩⟩
    ·exact .inr ⟨ry k h1 h2,λhy=>hr (ni k h1 h2 hy)⟩
   ·by_cases hr:c<=j/\j<c+n;·rw[iR j hr] at hf;exact .inl (n9 _ (by omega) _ _ hf)
    ·rw[iS j hr] at hf;exact .inr ⟨nX j hj b k hf,oc j hj hr b k hf⟩) (λb k hf hz=>by
   obtain⟨_,hf|⟨j,hj,hf⟩⟩:=hf;·obtain⟨rfl,h1,h2⟩:=hf;have:=ni k h1 h2 (h.zD hi hz (ry k h1 h2));exact h.qz _ k ⟨rfl,.inl ⟨rfl,this.1,this.2⟩⟩ hz
   ·by_cases hr:c<=j/\j<c+n;·rw[iR j hr] at hf;exact h.qz b k (n9 _ (by omega) _ _ hf) hz
    ·rw[iS j hr] at hf;exact oc j hj hr b k hf (h.zD hi hz (nX j hj b k hf)))
 have kU:(C.ptr .own g o nn d).er=.ptr .own (((List.range nn).map λj=>(f j).er).take c++((List.range n).map λj=>(qf j).er)++((List.range nn).map λj=>(f j).er).drop (c+n)):=by rw[<-Ua (λj=>(f j).er) (λj=>(qf j).er) hn];simp only[C.er];congr 1;refine cv λj _=>?_;show (if _ then _ else _:C).er=_;split<;>rfl
 rw[kU] at i1;exact⟨G',i1,i2,i3⟩
def fe.row{z len cap:Nat}{A:Option Ad}{e qe:Nat->Nat->C}(h:fe w w' zl aH zb G r p (.row .own z A len cap e) (.row .own z A len cap e) (.row .own z A len cap qe) S M)(hi:Inv w zl zb G s):
  ∃G',Inv w' aH zb G' (iN r p (.row .own z (dJ z len qe)) s)/\(∀t,(G' t).val=(G t).val)/\∀t b k,(G' t).fp b k->(C.row .own z A len cap qe).fp b k\/((∃u,(G u).fp b k)/\¬(C.row .own z A len cap e).fp b k):=
 h.back hi (d0:=.row .own z A len cap qe) h.Hu (.row ..) ⟨rfl,λh=>h,λh=>h,λh=>h,λ_ h=>h⟩ trivial (λb k hf=>.inl hf) (λb k hf=>h.qz b k hf)
def fe.elem{z g o len cap n c i:Nat}{e:Nat->Nat->C}{qf:Nat->C}(h:fe w w' zl aH zb G r p (.row .own z (some (g,o,none)) len cap e) (.ptr .own g (o+i*z+c) n λj=>e i (j+c)) (.ptr .own g (o+i*z+c) n qf) S M)(hi:Inv w zl zb G s)(n8:i<len)(hn:c+n<=z)(hqs:∀j,j<n->(qf j).cN):
  ∃G',Inv w' aH zb G' (iN r p (.row .own z ((dJ z len e).set i (((List.range z).map λj=>(e i j).er).take c++((List.range n).map λj=>(qf j).er)++((List.range z).map λj=>(e i j).er).drop (c+n)))) s)/\(∀t,(G' t).val=(G t).val)/\∀t b k,(G' t).fp b k->(C.ptr .own g (o+i*z+c) n qf).fp b k\/((∃u,(G u).fp b k)/\¬(C.ptr .own g (o+i*z+c) n λj=>e i (j+c)).fp b k):=by
 obtain⟨D1,D2,D3,D4,D5⟩:=C.iB p h.sub (hi.ok r);obtain⟨q1,q2,q3,q4⟩:=h.Hu;have n9:∀j,j<n->∀b k,(qf j).fp b k->(C.ptr .own g (o+i*z+c) n qf).fp b k:=λj hj b k hf=>C.k7 (q3 j hj).1 (q3 j hj).2.1 hj hf;have nX:∀i' j,i'<len->j<z->∀b k,(e i' j).fp b k->(C.row .own z (some (g,o,none)) len cap e).fp b k:=λi' j hi' hj b k hf=>C.ki (D3 i' j hi' hj).1 (D3 i' j hi' hj).2.2.1 hi' hj hf;have ry:∀k,(C.row .own z (some (g,o,none)) len cap e).fp g k:=λk=>⟨rfl,.inl ⟨o,rfl⟩⟩
 have ni:∀k,(C.ptr .own g (o+i*z+c) n λj=>e i (j+c)).fp g k->o+i*z+c<=k/\k<o+i*z+c+n:=λk ⟨_,hf⟩=>by
  rcases hf with hf|⟨j,hj,hf⟩;·exact hf.2
  ·exact((D5 i (j+c) n8 (by omega) g k hf).1 rfl o rfl).elim
 have oc:∀i' j,i'<len->j<z->¬(i'=i/\c<=j/\j<c+n)->∀b k,(e i' j).fp b k->¬(C.ptr .own g (o+i*z+c) n λj=>e i (j+c)).fp b k:=λi' j hi' hj hne b k hf ⟨_,hf'⟩=>by
  rcases hf' with hf'|⟨j',hj',hf'⟩;·exact(D5 i' j hi' hj b k hf).1 rfl o (by rw[hf'.1])
  ·exact(D5 i' j hi' hj b k hf).2 i (j'+c) n8 (by omega) (λe=>by simp only[jV] at e;exact hne ⟨e.1,by omega,by omega⟩) hf'
 let d:Nat->Nat->C:=λi' j=>if i'=i/\c<=j/\j<c+n then qf (j - c) else e i' j
 have iR:∀i' j,i'=i/\c<=j/\j<c+n->d i' j=qf (j - c):=λi' j hj=>aq hj;have iS:∀i' j,¬(i'=i/\c<=j/\j<c+n)->d i' j=e i' j:=λi' j hj=>ay hj
 have hok:(C.row .own z (some (g,o,none)) len cap d).ok w' (Zf aH zb):=by
  refine⟨D1,λi' j hi' hj=>⟨g,o,rfl,?_,λhm=>(hm rfl).elim⟩,λi' j hi' hj=>?_,λ_=>?_,λi' j hi' hj b k hf=>⟨λ_ o' hA=>?_,λi2 j2 hi2 hj2 hne=>?_⟩⟩
  ·by_cases hr:i'=i/\c<=j/\j<c+n;·rw[iR i' j hr];obtain⟨rfl,h1,h2⟩:=hr;have:=(q1 (j - c) (by omega)).1;rwa [show o+i'*z+c+(j - c)=o+i'*z+j by omega] at this
   ·rw[iS i' j hr];obtain⟨g',o',hA,hcl,_⟩:=D2 i' j hi' hj;injection hA with hA
    injection hA with e1 e2
    injection e2 with e2
    subst e1;subst e2;refine h.ext.cell (λhs=>hr ?_) hcl;have:=ni _ (h.SD hi hs (ry _));have hj0:o+i'*z+j - (o+i*z)<z:=by omega
    have:=Mw hj hj0 (show i'*z+j=i*z+(o+i'*z+j - (o+i*z)) by omega);exact⟨this.1,by omega,by omega⟩
  ·by_cases hr:i'=i/\c<=j/\j<c+n;·rw[iR i' j hr];obtain⟨a1,a2,a3⟩:=q3 (j - c) (by omega);exact⟨a1,hqs _ (by omega),a2,a3⟩
   ·rw[iS i' j hr];obtain⟨a1,a2,a3,a4⟩:=D3 i' j hi' hj;exact⟨a1,a2,a3,C.gL h.mono _ (C.fu h.ext (h.Z hi) _ (λb k hf hs=>oc i' j hi' hj hr b k hf (h.SD hi hs (nX i' j hi' hj b k hf))) a4)⟩
  ·rcases D4 rfl with ⟨hA,_⟩|⟨g',o',arr,t,fz,hA,hh,hsz,hfr⟩;·cases hA
   ·injection hA with hA
    injection hA with e1 e2
    injection e2 with e2
    subst e1;subst e2;have hg:g<w.heap.size:=(gC.1 hh).1;rcases h.ext.block g hg with e'|⟨a1,a2,t',lJ,r1,r2,r3,r4⟩;·exact .inr ⟨g,o,arr,t,fz,rfl,e'.trans hh,hsz,λk hk hk'=>(h.ext.frozen hg).trans (hfr k hk hk')⟩
    ·rw[hh] at r1;injection r1 with r1
     injection r1 with s1 s2 s3
     subst s1;exact .inr ⟨g,o,a2,t',lJ,rfl,r2,by omega,λk hk hk'=>(h.ext.frozen hg).trans (hfr k hk hk')⟩
  ·injection hA with hA
   injection hA with e1 e2
   subst e1;by_cases hr:i'=i/\c<=j/\j<c+n;·rw[iR i' j hr] at hf;have:=ni k (h.qD hi (n9 _ (by omega) _ _ hf) (ry k));exact(q4 (j - c) (by omega) _ k hf).1 rfl ⟨rfl,this.1,this.2⟩
   ·rw[iS i' j hr] at hf;exact(D5 i' j hi' hj _ k hf).1 rfl o rfl
  ·by_cases hr:i'=i/\c<=j/\j<c+n
   ·rw[iR i' j hr] at hf;by_cases hr':i2=i/\c<=j2/\j2<c+n;·rw[iR i2 j2 hr'];exact(q4 (j - c) (by omega) b k hf).2 (j2 - c) (by omega) (λe=>hne (by simp only[jV];exact⟨by rw[hr.1,hr'.1],by omega⟩))
    ·rw[iS i2 j2 hr'];exact λhf'=>oc i2 j2 hi2 hj2 hr' b k hf' (h.qD hi (n9 _ (by omega) _ _ hf) (nX i2 j2 hi2 hj2 b k hf'))
   ·rw[iS i' j hr] at hf;by_cases hr':i2=i/\c<=j2/\j2<c+n;·rw[iR i2 j2 hr'];exact λhf'=>oc i' j hi' hj hr b k hf (h.qD hi (n9 _ (by omega) _ _ hf') (nX i' j hi' hj b k hf))
    ·rw[iS i2 j2 hr'];exact(D5 i' j hi' hj b k hf).2 i2 j2 hi2 hj2 hne
 obtain⟨G',i1,i2,i3⟩:=h.back hi (d0:=.row .own z (some (g,o,none)) len cap d) hok (.row ..) ⟨rfl,λh=>h,λh=>h,λh=>h,λ_ h=>h⟩ trivial (λb k hf=>by
   obtain⟨_,hf|⟨i',j,hi',hj,hf⟩⟩:=hf
   ·obtain⟨o',hA⟩:=hf;injection hA with hA
    injection hA with e1 e2
    subst e1;by_cases hr:o+i*z+c<=k/\k<o+i*z+c+n;·exact .inl ⟨rfl,.inl ⟨rfl,hr.1,hr.2⟩⟩
    ·exact .inr ⟨ry k,λhy=>hr (ni k hy)⟩
   ·by_cases hr:i'=i/\c<=j/\j<c+n;·rw[iR i' j hr] at hf;exact .inl (n9 _ (by omega) _ _ hf)
    ·rw[iS i' j hr] at hf;exact .inr ⟨nX i' j hi' hj b k hf,oc i' j hi' hj hr b k hf⟩) (λb k hf hz=>by
   obtain⟨_,⟨o',hA⟩|⟨i',j,hi',hj,hf⟩⟩:=hf
   ·injection hA with hA
    injection hA with e1 e2
    subst e1;have:=ni k (h.zD hi hz (ry k));exact h.qz _ k ⟨rfl,.inl ⟨rfl,this.1,this.2⟩⟩ hz
   ·by_cases hr:i'=i/\c<=j/\j<c+n;·rw[iR i' j hr] at hf;exact h.qz b k (n9 _ (by omega) _ _ hf) hz
    ·rw[iS i' j hr] at hf;exact oc i' j hi' hj hr b k hf (h.zD hi hz (nX i' j hi' hj b k hf)))
 have kU:(C.row .own z (some (g,o,none)) len cap d).er=.row .own z ((dJ z len e).set i (((List.range z).map λj=>(e i j).er).take c++((List.range n).map λj=>(qf j).er)++((List.range z).map λj=>(e i j).er).drop (c+n))):=by
  rw[<-Ua (λj=>(e i j).er) (λj=>(qf j).er) hn];simp only[C.er];congr 1;symm;refine C.CT _ _ len i _ λi' hi'=>?_;split;·rename_i hii;subst hii;refine cv λj _=>?_;show (if _ then _ else _:C).er=_;simp only[uB];split<;>rfl
  ·rename_i hii;refine cv λj _=>?_;show (if _ then _ else _:C).er=_;rw[ay (λhh=>hii hh.1)]
 rw[kU] at i1;exact⟨G',i1,i2,i3⟩
end
end M
namespace M
open Go Go.RowKit
variable [Bs]
section
variable {P:Program}{c:Ctx}{G:Nat->C}{zl:Nat->Nat->Prop}{s:ag}{a:Act}{w:World}{o:Oper}{K:ag->Prop}
def Mo:∀{l':List Operand} {l:List (AV×PM)} {x:AV} {n:Nat},gZ l' l=true->dV l=some (x,n)->∃i x',l[i]?=some (x,PM.mut n)/\l'[i]?=some x'/\aO x' x=true/\(∀(j:Nat) (x2:AV) (n2:Nat),l[j]?=some (x2,PM.mut n2)->j=i)/\∀ps:List X,k9 l ps=ps.getD i .dead
 |[],[],x,n,_,h=>by cases h
 |UQ::l',(x0,pm)::l,x,n,hc,h=>by
  simp only[gZ,av] at hc
  have other:dV l=some (x,n)->(∀n2,pm≠PM.mut n2)->(∀(y:X) ps,k9 ((x0,pm)::l) (y::ps)=k9 l ps)->(k9 ((x0,pm)::l) []=.dead)->∃i x',((x0,pm)::l)[i]?=some (x,PM.mut n)/\(UQ::l')[i]?=some x'/\aO x' x=true/\(∀(j:Nat) (x2:AV) (n2:Nat),((x0,pm)::l)[j]?=some (x2,PM.mut n2)->j=i)/\∀ps:List X,k9 ((x0,pm)::l) ps=ps.getD i .dead:=λhm hpm h1 h2=>by
   obtain⟨i,x',i1,i2,i3,i4,i5⟩:=Mo hc.2 hm;refine⟨i+1,x',by simpa using i1,by simpa using i2,i3,λj x2 n2 hj=>?_,λps=>?_⟩
   ·cases j with
    |zero=>simp only[zU,dH,jV] at hj;exact(hpm n2 hj.2).elim
    |succ j=>rw[i4 j x2 n2 (by simpa using hj)]
   ·cases ps with
    |nil=>rw[h2];rfl
    |cons y ps=>rw[h1,i5];rfl
  cases pm with
  |mv=>exact other h (λ_ e=>by cases e) (λ_ _=>rfl) rfl
  |af=>exact other h (λ_ e=>by cases e) (λ_ _=>rfl) rfl
  |fM m=>exact other h (λ_ e=>by cases e) (λ_ _=>rfl) rfl
  | «mut» m=>
   simp only[dV,dH,jV] at h;obtain⟨rfl,rfl⟩:=h;refine⟨0,UQ,rfl,rfl,hc.1.1,λj x2 n2 hj=>?_,λps=>?_⟩
   ·cases j with
    |zero=>rfl
    |succ j=>
     exfalso;have hno:dV l=none:=by simpa using hc.1.2
     have:∀{l:List (AV×PM)} {i:Nat},l[i]?=some (x2,PM.mut n2)->dV l≠none:=by
      intro l;induction l with
      |nil=>intro i hi;simp at hi
      |cons p l ih=>
       intro i hi;obtain⟨y,pm⟩:=p;cases i with
       |zero=>simp only[zU,dH,jV] at hi;obtain⟨_,rfl⟩:=hi;simp[dV]
       |succ i=>have:=ih (by simpa using hi);cases pm<;>simp[dV]<;>first|exact this|skip
     exact this (by simpa using hj) hno
   ·cases ps<;>rfl
 |[],_::_,_,_,hc,_=>by cases hc
 |_::_,[],_,_,hc,_=>by cases hc
def Mp(h:St c G zl s a w){l':List Operand}{as:List (AV×PM)}(hc:gZ l' as=true){x:AV}{n:Nat}(pL:dV as=some (x,n)){f:FuncId}{fv:Option AV}(hop:uF P c zl o a w l' f fv)(hn:∀n,o.dst=some n->n<c.nt)
  {ms:List C}{G1:Nat->C}{sm:ag}(hT:bN w zl c.zb G ms G1 sm)(g2:MV a l' as ms)(hmb:∀m∈ms,m.bare){r:Nat}{p:Path}{D y:C}(hsub:(G1 r).sub p=some D)(rE:y.ok w (Zf zl c.zb))(Ft:y.bare)(pO:∀(i:Nat) (x':Operand),as[i]?=some (x,PM.mut n)->l'[i]?=some x'->y.val=a.eval x')(KM:∀b k,y.fp b k->D.fp b k)
  (A5:sY (jc r p .dead sm) fv f){back:X->(ag->Prop)->Prop}(hk:AC P f (gE (jc r p .dead sm) y.er as (ms.map C.er)++pz (jc r p .dead sm) fv) λq ps=>back (k9 as ps) λs'=>K (fY o.dst q s'))
  (acJ:∀{w':World} {aH:Nat->Nat->Prop} {S M:Nat->Nat->Prop} {q:C},fe w w' zl aH c.zb G1 r p D y q S M->∀Kx,back q.er Kx->∃s',Kx s'/\∃G',Inv w' aH c.zb G' s'/\(∀t,(G' t).val=(G1 t).val)/\∀t b k,(G' t).fp b k->q.fp b k\/((∃u,(G1 u).fp b k)/\¬y.fp b k)):sN P c o a w K false:=by
 obtain⟨qU,hrun,acN⟩:=hop.run;have h1:=HQ h hT;obtain⟨D',G2,t1,t2,t3,t4,t5,t6,t7,t8,t9,t10,t11,t12⟩:=h1.inv.wv r p D hsub;have h2:St c G2 zl (jc r p .dead sm) a w:=h1.move t3 t10 (Ext.refl (λ_ _=>False) w) (λ_ _ hs=>hs.elim) (λt b k hf=>.inl ⟨t,t11 t b k hf⟩);have adP:∀b k,y.fp b k->∀t,¬(G2 t).fp b k:=λb k hf t=>t8 t b k ((t12 b k).2 (KM b k hf));have Fs:∀b k,y.fp b k->(G1 r).fp b k:=λb k hf=>C.gQ p hsub (hT.inv.ok r) (KM b k hf);have jQ:∀b k,c.zb b k->(c.zb b k\/∃t,(G2 t).fp b k):=λb k hz=>.inl hz;have tH:∀t b k,(G2 t).fp b k->(c.zb b k\/∃t,(G2 t).fp b k):=λt b k hf=>.inr ⟨t,hf⟩;obtain⟨l,l1,l2,l3⟩:=acN (bG:=λb k=>c.zb b k\/∃t,(G2 t).fp b k) h2 jQ tH A5
 have RT:∀m b k,Zf zl c.zb m b k->Zf zl (λb k=>c.zb b k\/∃t,(G2 t).fp b k) m b k:=λm b k hz=>by
  cases m with
  |own=>exact hz
  |sl=>exact hz
  |af=>exact hz.imp id .inl
 obtain⟨i,x',i1,i2,i3,i4,i5⟩:=Mo hc pL;have R6:=pO i x' i1 i2
 obtain⟨cs,c1,c2,c3,c4⟩:=Eb (bG:=λb k=>c.zb b k\/∃t,(G2 t).fp b k) h2 jQ tH (y:=y) (C.gL RT _ rE) Ft hc g2 (λx hx=>⟨C.gL RT _ (hT.all x hx).1,hmb x hx,λb k hf hf'=>(hT.all x hx).2.1 r b k hf (Fs b k hf')⟩) hT.apart (λj x2 n2 x2' hj hj'=>by
  have:=i4 j x2 n2 hj;subst this;rw[i2] at hj';injection hj' with hj'
  rw[<-hj'];exact R6)
 have bZ:∀x∈cs++l,∀b k,x.fp b k->(∃m∈ms,m.fp b k)\/y.fp b k:=λx hx b k hf=>by
  rcases fE.1 hx with hx|hx;·exact((c3 x hx).2.2 b k hf).imp id λhh=>hh.2
  ·exact((l3 x hx).cW b k hf).elim
 have kX:∀b k,(∃m∈ms,m.fp b k)->(∀t,¬(G1 t).fp b k)/\¬zl b k/\¬c.zb b k:=λb k ⟨m,hm,hf⟩=>⟨λt=>(hT.all m hm).2.1 t b k hf,(hT.all m hm).2.2.1 b k hf⟩
 have hA:nQ w zl (λb k=>c.zb b k\/∃t,(G2 t).fp b k) (cs++l):={
  ok:=λx hx=>(fE.1 hx).elim (λhx=>(c3 x hx).1) λhx=>(l3 x hx).ok
  bare:=λx hx=>(fE.1 hx).elim (λhx=>(c3 x hx).2.1) λhx=>(l3 x hx).bare
  fz:=λx hx b k hf=>by
   rcases bZ x hx b k hf with hm|hy;·obtain⟨a1,a2,a3⟩:=kX b k hm;exact⟨a2,λhz=>hz.elim a3 λ⟨t,ht⟩=>a1 t (t11 t b k ht)⟩
   ·have:=hT.inv.fz r b k (Fs b k hy);exact⟨this.1,λhz=>hz.elim this.2 λ⟨t,ht⟩=>adP b k hy t ht⟩
  cC:=λb k hz=>by
   rcases hz with hz|hz|⟨t,ht⟩;·exact hT.inv.cC b k (.inl hz)
   ·exact hT.inv.cC b k (.inr hz)
   ·exact C.fN _ (t3.ok t) b k ht
  apart:=sF.2 ⟨c4,sR λx hx=>(l3 x hx).cW,λx _ y hy b k _ hf=>(l3 y hy).cW b k hf⟩}
 have tB:=hk w zl _ (cs++l) (by rw[kF,c1,l1]) hA (h.J2 _ λb k hz=>.inl hz);have vt:(cs++l).map C.val=l'.map a.eval++qU:=by rw[kF,c2,l2]
 rw[vt] at tB;refine⟨f,_,hrun,tB.mono ?_⟩;rintro e w' ⟨r0,ps,aH,hD,hkk⟩;have n8:i<ps.length:=by have h1:=dB List.length hD.vals;have h2:=dB List.length vt;simp only[cX,gT] at h1 h2;have h3:=(aQ.1 i2).1;omega
 have hq:ps[i]?=some ps[i]:=cr n8;have RP:ps[i]∈ps:=cB n8
 have hqv:(ps[i]).val=y.val:=by
  have:(ps.map C.val)[i]?=(l'.map a.eval++qU)[i]?:=by rw[hD.vals,vt]
  rw[cV,hq,qK (by simpa using (aQ.1 i2).1),cV,i2] at this;simp only[cG,dH] at this;rw[this,R6]
 have hmp:k9 as (ps.map C.er)=(ps[i]).er:=by rw[i5];exact rq (by rw[cV,hq];rfl) _
 rw[hmp] at hkk;have Fk:=cI r0 RP
 have Rm:fe w w' zl aH c.zb G1 r p D y ps[i] (λb k=>∃x∈cs++l,x.fp b k) (λb k=>∃m∈ms,m.fp b k):={
  sub:=hsub
  yD:=KM
  ext:=hD.ext
  tW:=λb k ⟨x,hx,hf⟩=>bZ x hx b k hf
  zh:=kX
  Hu:=C.gL (λm b k hz=>by
   cases m with
   |own=>exact hz
   |sl=>exact hz
   |af=>exact hz.imp id λh=>h.elim) _ (hD.all.ok _ Fk)
  bare:=hD.all.bare _ Fk
  val:=hqv
  fp:=λb k hf=>hD.dom _ Fk b k hf
  qz:=λb k hf=>(hD.all.fz _ Fk b k hf).1
  z1:=hD.uD
  z2:=hD.uE
  cC:=λb k hz=>hD.all.cC b k (.inl hz)}
 obtain⟨s',hKs,G',j1,j2,j3⟩:=acJ Rm _ hkk;have kY:∀b k,(∃m∈ms,m.fp b k)->∃t,(G t).fp b k:=λb k ⟨m,hm,hf⟩=>(hT.all m hm).2.2.2 b k hf
 have tu:∀b k,(∃x∈cs++l,x.fp b k)->∃t,(G t).fp b k:=λb k ⟨x,hx,hf⟩=>by
  rcases bZ x hx b k hf with hm|hy;·exact kY b k hm
  ·exact⟨r,hT.mono r b k (Fs b k hy)⟩
 have h3:St c G' aH s' a w':=h.after j1 (λt=>(j2 t).trans (hT.val t)) hD.ext tu (λt b k hf=>by
   rcases j3 t b k hf with hq|⟨⟨u,hu⟩,_⟩;·exact(Rm.fp b k hq).imp (tu b k) id
   ·exact .inl ⟨u,hT.mono u b k hu⟩) hD.uD (λb k hz=>(hD.uE b k hz).imp id λhh=>hh.imp (tu b k) id)
 have hrm:=bE (a:=r0) (l:=ps)
 obtain⟨G3,h4⟩:=h3.result (x:=r0) o.dst hn (hD.all.ok r0 hrm) (hD.all.bare r0 hrm) (λt b k hf hf'=>by
   rcases j3 t b k hf' with hq|⟨⟨u,hu⟩,hny⟩;·exact(ew.1 hD.all.apart).1 _ RP b k hf hq
   ·rcases hD.dom r0 hrm b k hf with ⟨x,hx,hf⟩|hb
    ·rcases bZ x hx b k hf with hm|hy;·exact(kX b k hm).1 u hu
     ·exact hny hy
    ·have:=C.fN _ (hT.inv.ok u) b k hu;omega) (λb k hf=>⟨(hD.all.fz r0 hrm b k hf).1,λhz=>by
   rcases hD.dom r0 hrm b k hf with ⟨x,hx,hf⟩|hb
   ·rcases bZ x hx b k hf with hm|hy;·exact(kX b k hm).2.2 hz
    ·exact(hT.inv.fz r b k (Fs b k hy)).2 hz
   ·have:=hT.inv.cC b k (.inr hz);omega⟩) (λb k hf=>by
   rcases hD.dom r0 hrm b k hf with hs|hb;·obtain⟨t,ht⟩:=tu b k hs;exact h.tr.dom t b k ht
   ·exact .inr (jB h.tr.ext.size hb))
 exact⟨r0.val,hD.ends,(λh=>by cases h),G3,aH,_,hKs,h4⟩
end
end M
namespace M
open Go Go.RowKit
variable [Bs]
section
variable {P:Program}{c:Ctx}{G:Nat->C}{zl:Nat->Nat->Prop}{s:ag}{a:Act}{w:World}{o:Oper}{K:ag->Prop}
def JK{x:C}{m:Md}{xs:List X}(h:x.er=.ptr m xs):∃g o n f,x=.ptr m g o n f/\xs=(List.range n).map λj=>(f j).er:=by
 cases x with
 |ptr m' g o n f=>
  simp only[C.er] at h;injection h with h1 h2
  subst h1;exact⟨g,o,n,f,rfl,h2.symm⟩
 |_=>simp[C.er] at h
def agR{m m':Md}{z z' len len' cap cap':Nat}{A A':Option Ad}{e e':Nat->Nat->C}(h:(C.row m z A len cap e).val=(C.row m' z' A' len' cap' e').val):A=A'/\len=len'/\cap=cap':=by
 simp only[C.val] at h;injection h with h1 h2 h3
 refine⟨?_,h2,h3⟩;cases A with
 |none=>cases A' with
  |none=>rfl
  |some q=>simp at h1
 |some q=>cases A' with
  |none=>simp at h1
  |some q'=>
   simp only[cG,dH,Addr.mk.injEq,wT] at h1
   rw[show q=q' from Prod.ext h1.1 (Prod.ext h1.2.1 h1.2.2)]
def Ti(n:Nat)(f:Nat->C){k sz:Nat}(h:k+sz<=n):((List.range sz).map λj=>(f (j+k)).er)=(((List.range n).map λj=>(f j).er).drop k).take sz:=by rw[<-mJ,qw,<-qM,<-qM,wK,nK (by omega),cM];rfl
def Pw(h:St c G zl s a w){l':List Operand}{as:List (AV×PM)}(hc:gZ l' as=true){x:AV}{n:Nat}(pL:dV as=some (x,n)){f:FuncId}{fv:Option AV}(hop:uF P c zl o a w l' f fv)(hn:∀n,o.dst=some n->n<c.nt)(hK:uS P f o.dst as fv s K):sN P c o a w K false:=by
 obtain⟨k1,k2⟩:=hK;rw[pL] at k2;simp only at k2;obtain⟨ms,G1,g1,g2,hT⟩:=G9 hc h;have h1:=HQ h hT;rw[<-g1] at k1 k2;have hmb:∀m∈ms,m.bare:=λm hm=>(C.mL m).1 (C.xh.1 k1 _ (kA hm));obtain⟨i,x',i1,i2,i3,i4,i5⟩:=Mo hc pL;obtain⟨u,u1,u2,u3⟩:=cy h1 i3;rw[<-u1] at k2
 have hval:∀y:C,y.val=u.val->∀(j:Nat) (x2:Operand),as[j]?=some (x,PM.mut n)->l'[j]?=some x2->y.val=a.eval x2:=λy hy j x2 hj hj'=>by
  have:=i4 j x n hj;subst this;rw[i2] at hj';injection hj' with hj'
  rw[hy,u2,hj']
 cases u with
 |ref v r p=>
  obtain⟨y',z',hs,hF,hv,m,z1,A,len,cap,e,rfl⟩:=u3.rf;cases hF with
  |row m m' sz' A len cap e e'=>
   simp only[C.er,placeOf,yX] at k2;split at k2
   ·rename_i z xs hlk;obtain⟨k2,k3,k4⟩:=k2;simp only[look] at hlk;rw[<-h1.inv.er,C.gP,hs] at hlk;simp only[cG,dH] at hlk;obtain⟨A2,anE,cap2,e2,he,rfl⟩:=AJ hlk;injection he with b1 b2 b3 b4 b5 b6
    subst b1;subst b2;subst b3;subst b4;subst b5;subst b6;have hok:=C.iB p hs (h1.inv.ok r)
    refine Mp h hc pL hop hn hT g2 hmb hs (y:=.row .own z1 A len cap e') (back:=λy Kx=>match y with
     |.row .own z' ys=>z'=z1/\Kx (iN r p (.row .own z1 ys) (bU as s).2)
     |_=>False) hok trivial (hval _ hv) (λb k hf=>hf) k3 (by rw[hlk];exact k4) λ{w' aH S M q} hM Kx hb=>?_
    split at hb;·rename_i z' ys hq;obtain⟨rfl,hb⟩:=hb;obtain⟨A3,anF,alu,e3,rfl,rfl⟩:=AJ hq;obtain⟨c1,c2,c3⟩:=agR hM.val;subst c1;subst c2;subst c3;obtain⟨G',j1,j2,j3⟩:=hM.row h1.inv;exact⟨_,hb,G',j1,j2,j3⟩
    ·exact hb.elim
   ·exact k2.elim
 |aj v r p i k=>
  obtain⟨D,hs,hp⟩:=u3.rf;have hok:=C.iB p hs (h1.inv.ok r);simp only[C.er,placeOf,yX] at k2;have hlk:look (bU as s).2 r p=some D.er:=by simp only[look];rw[<-h1.inv.er,C.gP,hs];rfl
  rw[hlk] at k2;rcases hp with ⟨m,z,g,o',len,cap,e,rfl,rfl⟩|⟨m,g,o',nn,f',rfl,rfl,rfl⟩
  ·simp only[C.er] at k2;cases m with
   |own=>
    simp only[C.de] at k2;split at k2
    ·rename_i e0 lR;split at lR
     ·rename_i hi;injection lR with lR
      obtain⟨k0,k2,k3,k4⟩:=k2;have hkn:k+n<=z:=by rw[<-lR] at k0;simpa using k0
      obtain⟨D1,D2,D3,D4,D5⟩:=hok;have Bq:(C.ptr .own g (o'+i*z+k) n λj=>e i (j+k)).er=.ptr .own ((e0.drop k).take n):=by rw[<-lR,<-Ti z (λj=>e i j) hkn];rfl
      have hfr:∀j,j<z->w.frozen? ⟨g,o'+i*z+j,none⟩=false/\g<w.heap.size:=λj hj=>by
       rcases D4 rfl with ⟨hA,_⟩|⟨g',o2,arr,t,fz,hA,hh,hsz,hfr⟩;·cases hA
       ·injection hA with hA
        injection hA with e1 e2
        injection e2 with e2
        subst e1;subst e2;refine⟨hfr _ (by omega) ?_,(gC.1 hh).1⟩;have:(i+1)*z<=cap*z:=kC _ (by omega);rw[fD] at this;omega
      have iT:g<w.heap.size:=by
       rcases D4 rfl with ⟨hA,_⟩|⟨g',o2,arr,t,fz,hA,hh,hsz,hfr⟩;·cases hA
       ·injection hA with hA
        injection hA with e1 e2
        subst e1;exact(gC.1 hh).1
      have rE:(C.ptr .own g (o'+i*z+k) n λj=>e i (j+k)).ok w (Zf zl c.zb):=by
       refine⟨λj hj=>⟨?_,λhm=>(hm rfl).elim,λ_=>?_⟩,iT,λj hj=>?_,λj hj b k' hf=>⟨λ_ hb=>?_,λj' hj' hne=>?_⟩⟩
       ·obtain⟨g',o2,hA,hcl,_⟩:=D2 i (j+k) hi (by omega);injection hA with hA
        injection hA with e1 e2
        injection e2 with e2
        subst e1;subst e2;rw[show o'+i*z+k+j=o'+i*z+(j+k) by omega];exact hcl
       ·rw[show o'+i*z+k+j=o'+i*z+(j+k) by omega];exact(hfr (j+k) (by omega)).1
       ·obtain⟨a1,a2,a3,a4⟩:=D3 i (j+k) hi (by omega);exact⟨a1,a3,a4⟩
       ·exact(D5 i (j+k) hi (by omega) b k' hf).1 rfl o' (by rw[hb.1])
       ·exact(D5 i (j+k) hi (by omega) b k' hf).2 i (j'+k) hi (by omega) (λe=>by simp only[jV] at e;omega)
      refine Mp h hc pL hop hn hT g2 hmb hs (back:=λy Kx=>match y with
       |.ptr .own ys=>ys.length=n/\iA ys=true/\Kx (iN r p (.row .own z ((dJ z len e).set i (e0.take k++ys++e0.drop (k+n)))) (bU as s).2)
       |_=>False) rE ((C.mL _).1 (by rw[Bq];exact k2)) (hval _ rfl) (λb k' hf=>?_) k3 (by rw[Bq];exact k4) λ{w' aH S M q} hM Kx hb=>?_
      ·obtain⟨_,hf|⟨j,hj,hf⟩⟩:=hf;·exact⟨rfl,.inl ⟨o',by rw[hf.1]⟩⟩
       ·exact⟨rfl,.inr ⟨i,j+k,hi,by omega,hf⟩⟩
      ·split at hb
       ·rename_i ys hq;obtain⟨fG,fH,mY⟩:=hb;obtain⟨g3,o3,n3,f3,rfl,rfl⟩:=JK hq;have lU:=hM.val;simp only[C.val] at lU;injection lU with lU
        injection lU with lU
        injection lU with c1 c2 c3
        subst c1;subst c2;have Kz:n3=n:=by simpa using fG
        subst Kz;obtain⟨G',j1,j2,j3⟩:=hM.elem h1.inv hi hkn (λj hj=>T9 (HE fH _ (aY.2 ⟨j,by simpa using hj,rfl⟩)));rw[lR] at j1;exact⟨_,mY,G',j1,j2,j3⟩
       ·exact hb.elim
     ·cases lR
    ·exact k2.elim
   |sl=>exact k2.elim
   |af=>exact k2.elim
  ·simp only[C.er] at k2;cases m with
   |own=>
    obtain⟨k0,k2,k3,k4⟩:=k2;have hkn:k+n<=nn:=by simpa using k0
    obtain⟨D1,D2,D3,D4⟩:=hok;have Bq:(C.ptr .own g (o'+k) n λj=>f' (j+k)).er=.ptr .own ((((List.range nn).map λj=>(f' j).er).drop k).take n):=by rw[<-Ti nn f' hkn];rfl
    have rE:(C.ptr .own g (o'+k) n λj=>f' (j+k)).ok w (Zf zl c.zb):=by
     refine⟨λj hj=>⟨?_,λhm=>(hm rfl).elim,λ_=>?_⟩,D2,λj hj=>D3 (j+k) (by omega),λj hj b k' hf=>⟨λ_ hb=>?_,λj' hj' hne=>?_⟩⟩;·rw[show o'+k+j=o'+(j+k) by omega];exact(D1 (j+k) (by omega)).1
     ·rw[show o'+k+j=o'+(j+k) by omega];exact(D1 (j+k) (by omega)).2.2 rfl
     ·exact(D4 (j+k) (by omega) b k' hf).1 rfl ⟨hb.1,by omega,by omega⟩
     ·exact(D4 (j+k) (by omega) b k' hf).2 (j'+k) (by omega) (by omega)
    refine Mp h hc pL hop hn hT g2 hmb hs (back:=λy Kx=>match y with
     |.ptr .own ys=>ys.length=n/\Kx (iN r p (.ptr .own (((List.range nn).map λj=>(f' j).er).take k++ys++((List.range nn).map λj=>(f' j).er).drop (k+n))) (bU as s).2)
     |_=>False) rE ((C.mL _).1 (by rw[Bq];exact k2)) (hval _ rfl) (λb k' hf=>?_) k3 (by rw[Bq];exact k4) λ{w' aH S M q} hM Kx hb=>?_
    ·obtain⟨_,hf|⟨j,hj,hf⟩⟩:=hf;·exact⟨rfl,.inl ⟨hf.1,by omega,by omega⟩⟩
     ·exact⟨rfl,.inr ⟨j+k,by omega,hf⟩⟩
    ·split at hb
     ·rename_i ys hq;obtain⟨fG,mY⟩:=hb;obtain⟨g3,o3,n3,f3,rfl,rfl⟩:=JK hq;have lU:=hM.val;simp only[C.val] at lU;injection lU with lU
      injection lU with lU
      injection lU with c1 c2 c3
      subst c1;subst c2;have Kz:n3=n:=by simpa using fG
      subst Kz;obtain⟨G',j1,j2,j3⟩:=hM.ptr h1.inv hkn;exact⟨_,mY,G',j1,j2,j3⟩
     ·exact hb.elim
   |sl=>exact k2.elim
   |af=>exact k2.elim
 |_=>exact k2.elim
def JV{f:FuncId}(h:aD P f=true):∃fn,P.funcs[f]?=some fn/\(fn.name== "runtime.NumGoroutine")=false/\fn.body.isNone=false:=by
 unfold aD at h;split at h;·rename_i fn hf;simp only[av,o6] at h;exact⟨fn,hf,h.1,h.2⟩
 ·cases h
def afO(h:St c G zl s a w){f:FuncId}{fn:Func}{as':Array Operand}{as:List (AV×PM)}{ts:Array TypeId}(ho:o.op=.call {callee:=.value (.func f),args:=as',argTypes:=ts})(hf:P.funcs[f]?=some fn)(hname:(fn.name== "runtime.NumGoroutine")=false) (hb:fn.body.isNone=false)
  (hn:∀n,o.dst=some n->n<c.nt) (hc:gZ as'.toList as=true) (hK:aR P (.call o.dst f as) s K):sN P c o a w K (ju as):=by
 have hop:uF P c zl o a w as'.toList f none:=⟨[],by simp only[execOp,ho,resolve,Act.eval,Deferred.ofValue,Sem.run_bind,Sem.run_pure,Result.andThen_ok,invoke,ML hf hname hb];congr 2;apply qF;simp,λ_ _ _ _=>⟨[],rfl,rfl,λ_ hx=>(by cases hx)⟩⟩
 cases hm:dV as with
 |none=>exact Px _ h hc hm hop (λh=>h) hn hK
 |some q=>
  have hq:ju as=false:=by
   cases hq:ju as with
   |false=>rfl
   |true=>rw[yY hq] at hm;cases hm
  rw[hq];exact Pw h hc hm hop hn hK
def afQ(h:St c G zl s a w){x:AV}{x':Operand}{as':Array Operand}{as:List (AV×PM)}{ts:Array TypeId}(ho:o.op=.call {callee:=.value x',args:=as',argTypes:=ts})(hx:aO x' x=true)
  (hn:∀n,o.dst=some n->n<c.nt)(hc:gZ as'.toList as=true)(hK:aR P (.jH o.dst x as) s K):sN P c o a w K (ju as):=by
 simp only[aR] at hK;split at hK
 ·rename_i f cs he;obtain⟨hf,hK⟩:=hK;obtain⟨fn,hf1,iI,hf3⟩:=JV hf;obtain⟨p,p1,p2,p3⟩:=cy h hx;rw[he] at p1;cases p with
  |fn g n fc=>
   simp only[C.er,X.fn.injEq] at p1;obtain⟨rfl,p1⟩:=p1
   have hop:uF P c zl o a w as'.toList g (some x):=⟨(List.range n).map λj=>(fc j).val,by
    simp only[execOp,ho,resolve,<-p2,C.val,Deferred.ofValue,Sem.run_bind,Sem.run_pure,Result.andThen_ok,invoke,ML hf1 iI hf3];congr 2;apply qF;simp,λ{G2 s2 bG} h2 hb hG hi=>by
    simp only[sY] at hi;split at hi;·rename_i g' cs' he';subst hi;obtain⟨l,l1,l2,l3⟩:=YK h2 hb hG hx he';refine⟨l,l1,?_,l3⟩;rw[<-p2] at l2;simp only[C.val,Value.func.injEq,uB] at l2;exact(Array.mk.injEq _ _▸l2:_).symm
    ·exact hi.elim⟩
   cases hm:dV as with
   |none=>exact Px _ h hc hm hop (λh=>h) hn hK
   |some q=>
    have hq:ju as=false:=by
     cases hq:ju as with
     |false=>rfl
     |true=>rw[yY hq] at hm;cases hm
    rw[hq];exact Pw h hc hm hop hn hK
  |_=>simp[C.er] at p1
 ·exact hK.elim
end
end M
namespace M
open Go Go.RowKit
variable [Bs]
section
variable {P:Program}{c:Ctx}{G:Nat->C}{zl:Nat->Nat->Prop}{s:ag}{a:Act}{w:World}{o:Oper}{K:ag->Prop}
def ahm{x:C}(hc:x.cell)(hs:M.cN x.er=true):x.plain:=by cases x<;>first|trivial|exact hc|(simp[C.er,M.cN] at hs)
def agl{x:C}(h:x.plain):x.bare:=by cases x<;>first|trivial|exact h.elim
def ahk{l:List X}(h:iA l=true):∀x∈l,M.cN x=true:=by
 induction l with
 |nil=>intro x hx;cases hx
 |cons a l ih=>
  simp only[iA,av] at h;intro x hx;rcases bM.1 hx with rfl|hx;·exact h.1
  ·exact ih h.2 x hx
def Iz:∀{l':List Operand} {l:List (AV×PM)},gZ l' l=true->ju l=true->MV a l' l (l.map λ_=>.dead undef)
 |[],[],_,_=>trivial
 |x'::l',(x,.af)::l,hc,hq=>Iz (l':=l') (l:=l) (by simp only[gZ,av] at hc;exact hc.2) hq
 |x'::l',(x,.fM n)::l,hc,hq=>Iz (l':=l') (l:=l) (by simp only[gZ,av] at hc;exact hc.2) hq
 |x'::l',(x,.mv)::l,hc,hq=>by cases hq
 |x'::l',(x,.mut _)::l,hc,hq=>by cases hq
 |[],_::_,hc,_=>by cases hc
 |_::_,[],hc,_=>by cases hc
def YJ(h:St c G zl s a w){x':Operand}{l':List Operand}{x:AV}{as:List (AV×PM)}(hx:aO x' x=true)(hc:gZ l' as=true)(hq:ju as=true){f:FuncId}(hop:uF P c zl o a w (x'::l') f none)(hn:∀n,o.dst=some n->n<c.nt)(hK:aR P (.sW o.dst f x as) s K):sN P c o a w K false:=by
 obtain⟨p,p1,p2,p3⟩:=cy h hx;simp only[aR] at hK;rw[<-p1] at hK;cases p with
 |agg n f0=>
  have per:(C.agg n f0).er=.agg (((List.range n).map f0).map C.er):=by simp only[C.er,cM];rfl
  rw[per] at hK;simp only at hK;obtain⟨k1,k3⟩:=hK
  have hcells:∀c'∈(List.range n).map f0,Ac w zl c.zb G c':=λc' ke=>by
   obtain⟨j,hj,rfl⟩:=aY.1 ke;have hj':j<n:=by simpa using hj
   exact⟨(p3.ok.1 j hj').1,(p3.ok.1 j hj').2,λb k hf=>p3.cW b k ⟨j,hj',hf⟩,λv r p e=>Dw (by rw[<-e];exact p3.rf j hj')⟩
  obtain⟨l0,G1,e1,e2,e3,e4,e5⟩:=Dr _ G s h.inv hcells;obtain⟨qU,hrun,A5⟩:=hop.run;have h1:=HQ h e4;rw[<-e1] at k1 k3;have jQ:∀b k,c.zb b k->(c.zb b k\/∃t,(G1 t).fp b k):=λb k hz=>.inl hz;have tH:∀t b k,(G1 t).fp b k->(c.zb b k\/∃t,(G1 t).fp b k):=λt b k hf=>.inr ⟨t,hf⟩;obtain⟨l,q1,q2,q3⟩:=A5 h1 jQ tH trivial;have hl0:l=[]:=by simpa [pz] using q1
  subst hl0;have hcap:qU=[]:=by simpa using q2.symm
  subst hcap
  obtain⟨AA,r1,r2,r3,r4⟩:=Eb h1 jQ tH (y:=.dead undef) trivial trivial hc (Iz hc hq) (λx hx=>by
   obtain⟨_,_,rfl⟩:=aY.1 hx;exact⟨trivial,trivial,λb k hf=>hf.elim⟩) (sR λx hx=>by
   obtain⟨_,_,rfl⟩:=aY.1 hx
   exact λb k hf=>hf) (λi x n x' hi _=>by
    exfalso;have hno:=yY hq
    have:∀{l:List (AV×PM)} {i:Nat},l[i]?=some (x,PM.mut n)->dV l≠none:=by
     intro l;induction l with
     |nil=>intro i hi;simp at hi
     |cons y l ih=>
      intro i hi;obtain⟨y,pm⟩:=y;cases i with
      |zero=>simp only[zU,dH,jV] at hi;obtain⟨_,rfl⟩:=hi;simp[dV]
      |succ i=>have:=ih (by simpa using hi);cases pm<;>simp[dV]<;>first|exact this|skip
    exact this hi hno)
  have Fg:∀x∈AA,∀b k,¬x.fp b k:=λx hx b k hf=>by
   rcases(r3 x hx).2.2 b k hf with ⟨m,hm,hh⟩|⟨hh,_⟩;·obtain⟨_,_,rfl⟩:=aY.1 hm;exact hh
   ·rw[yY hq] at hh;cases hh
  have pN:l0.length=n:=by have:=dB List.length e2;simpa using this
  have R5:∀b k,(gV l0).fp b k->∃m∈l0,m.fp b k:=λb k hf=>(sP _ _ _).1 hf
  have hpl:∀x∈l0,x.ok w (Zf zl λb k=>c.zb b k\/∃t,(G1 t).fp b k):=λx hx=>C.gL (λm b k hz=>by
   cases m with
   |own=>exact hz
   |sl=>exact hz
   |af=>exact hz.imp id .inl) _ (e4.all x hx).1
  have hA:nQ w zl (λb k=>c.zb b k\/∃t,(G1 t).fp b k) (gV l0::AA):={
   ok:=λx hx=>by
    rcases bM.1 hx with rfl|hx;·exact⟨λj hj=>⟨C.mc (e3 _ (cT hj _)),hpl _ (cT hj _)⟩,λj hj b k hf j' hj' hne=>zj e4.apart _ hj hj' hne hf⟩
    ·exact(r3 x hx).1
   bare:=λx hx=>by
    rcases bM.1 hx with rfl|hx;·exact λj hj=>agl (e3 _ (cT hj (C.dead undef)))
    ·exact(r3 x hx).2.1
   fz:=λx hx b k hf=>by
    rcases bM.1 hx with rfl|hx;·obtain⟨m,hm,hf⟩:=R5 b k hf;exact⟨((e4.all m hm).2.2.1 b k hf).1,λhz=>hz.elim ((e4.all m hm).2.2.1 b k hf).2 λ⟨t,ht⟩=>(e4.all m hm).2.1 t b k hf ht⟩
    ·exact(Fg x hx b k hf).elim
   cC:=λb k hz=>by
    rcases hz with hz|hz|⟨t,ht⟩;·exact e4.inv.cC b k (.inl hz)
    ·exact e4.inv.cC b k (.inr hz)
    ·exact C.fN _ (e4.inv.ok t) b k ht
   apart:=ew.2 ⟨λx hx b k _ hf=>Fg x hx b k hf,sR Fg⟩}
  have tB:=k3 w zl _ (gV l0::AA) (by rw[bC,r1,w9];simp only[cM];rfl) hA (h1.J2 _ λb k hz=>.inl hz)
  have R7:(gV l0).val=a.eval x':=by rw[Ae,e2,<-p2];simp only[C.val,cM];rfl
  have vt:(gV l0::AA).map C.val=(x'::l').map a.eval++[]:=by rw[bC,R7,r2];simp
  rw[vt] at tB;refine⟨f,_,hrun,tB.mono ?_⟩;rintro e w' ⟨r,ps,aH,hD,hk⟩;have hin:∀b k,aH b k->b<w'.heap.size:=λb k hz=>hD.all.cC b k (.inl hz);have kX:∀b k,(∃m∈l0,m.fp b k)->(∀t,¬(G1 t).fp b k)/\¬zl b k/\¬c.zb b k:=λb k ⟨m,hm,hf⟩=>⟨λt=>(e4.all m hm).2.1 t b k hf,(e4.all m hm).2.2.1 b k hf⟩
  have lM:∀b k,(∃x∈gV l0::AA,x.fp b k)->∃m∈l0,m.fp b k:=λb k ⟨x,hx,hf⟩=>by
   rcases bM.1 hx with rfl|hx;·exact R5 b k hf
   ·exact(Fg x hx b k hf).elim
  have Bt:∀b k,aH b k->zl b k\/(∃m∈l0,m.fp b k)\/w.heap.size<=b:=λb k hz=>(hD.uE b k hz).imp id λhh=>hh.imp (lM b k) id
  have hi:=e4.inv.OL hD.ext (λb k hs=>kX b k (lM b k hs)) hD.uD (λb k hz=>⟨hin b k hz,λt hf=>by
   rcases Bt b k hz with hz|hm|hb;·exact(e4.inv.fz t b k hf).1 hz
   ·exact(kX b k hm).1 t hf
   ·have:=C.fN _ (e4.inv.ok t) b k hf;omega⟩)
  have kY:∀b k,(∃m∈l0,m.fp b k)->∃t,(G t).fp b k:=λb k ⟨m,hm,hf⟩=>(e4.all m hm).2.2.2 b k hf;have Fj:∀x∈r::ps,∀b k,x.fp b k->(∃m∈l0,m.fp b k)\/w.heap.size<=b:=λx hx b k hf=>(hD.dom x hx b k hf).imp (lM b k) id
  have RM:∀x∈r::ps,∀t b k,x.fp b k->¬(G1 t).fp b k:=λx hx t b k hf hf'=>by
   rcases Fj x hx b k hf with hm|hb;·exact(kX b k hm).1 t hf'
   ·have:=C.fN _ (e4.inv.ok t) b k hf';omega
  have RO:∀x∈r::ps,∀b k,x.fp b k->¬aH b k/\¬c.zb b k:=λx hx b k hf=>⟨(hD.all.fz x hx b k hf).1,λhz=>by
   rcases Fj x hx b k hf with hm|hb;·exact(kX b k hm).2.2 hz
   ·have:=e4.inv.cC b k (.inr hz);omega⟩
  cases ps with
  |nil=>exact hk.elim
  |cons p0 ps=>
   cases p0 with
   |agg n0 g0=>
    simp only[bC,C.er] at hk;obtain⟨j1,s',j2,j3⟩:=hk;have Fi:(C.agg n0 g0)∈r::C.agg n0 g0::ps:=cI _ (bE ..);have hv0:(C.agg n0 g0).val=(C.agg n f0).val:=by have:=dB List.head? hD.vals;simp only[bC,List.head?_cons,dH] at this;rw[this,R7,p2]
    simp only[C.val,Value.agg.injEq,Array.mk.injEq,List.toArray_inj] at hv0;have kZ:n0=n:=by have:=dB List.length hv0;simpa using this
    subst kZ;have KD:=hD.all.ok _ Fi;have Fc:∀y∈(List.range n0).map g0,∀b k,y.fp b k->(C.agg n0 g0).fp b k:=λy hy b k hf=>by obtain⟨j,hj,rfl⟩:=aY.1 hy;exact⟨j,by simpa using hj,hf⟩
    rw[show ((List.range n0).map λj=>(g0 j).er)=((List.range n0).map g0).map C.er by simp only[cM];rfl] at j1 j2
    obtain⟨G2,g1,g2,g3⟩:=Ed ((List.range n0).map f0) ((List.range n0).map g0) hi (by simp) (λv r p hm=>e5 v r p ((hcells _ hm).weak v r p rfl)) (λi cc y hi1 hi2=>by
     have hy:y∈(List.range n0).map g0:=sE hi2;obtain⟨j,hj,rfl⟩:=aY.1 hy;have hj':j<n0:=by simpa using hj
     refine⟨ahm (KD.1 j hj').1 (ahk j1 _ (kA hy)),?_,C.gL (λm b k hz=>by
      cases m with
      |own=>exact hz
      |sl=>exact hz
      |af=>exact hz.imp id λh=>h.elim) _ (KD.1 j hj').2⟩
     have:=dB (λt:List Value=>t[i]?) hv0;rw[show ((List.range n0).map λj=>(g0 j).val)=((List.range n0).map g0).map C.val by simp only[cM];rfl,show ((List.range n0).map λj=>(f0 j).val)=((List.range n0).map f0).map C.val by simp only[cM];rfl,cV (l:=(List.range n0).map g0),cV (l:=(List.range n0).map f0),hi1,hi2] at this;simpa using this) (λy hy=>⟨λt b k hf=>RM _ Fi t b k (Fc y hy b k hf),λb k hf=>RO _ Fi b k (Fc y hy b k hf)⟩) (by
     rw[DM];refine Iq ?_ List.nodup_range;intro i j hi hj hne b k hf;exact KD.2 i (by simpa using hi) b k hf j (by simpa using hj) hne) j2
    have Bp:∀b k,(∃y∈(List.range n0).map g0,y.fp b k)->(∃m∈l0,m.fp b k)\/w.heap.size<=b:=λb k ⟨y,hy,hf⟩=>Fj _ Fi b k (Fc y hy b k hf)
    have h2:St c G2 aH s' a w':=h.after g1 (λt=>(g2 t).trans (e4.val t)) hD.ext (λb k hs=>kY b k (lM b k hs)) (λt b k hf=>by
     rcases g3 t b k hf with hh|hh;·exact .inl ⟨t,e4.mono t b k hh⟩
     ·exact(Bp b k hh).imp (kY b k) id) hD.uD (λb k hz=>(Bt b k hz).imp id λhh=>hh.imp (kY b k) id)
    have hr:r∈r::C.agg n0 g0::ps:=bE ..
    obtain⟨G3,h3⟩:=h2.result (x:=r) o.dst hn (hD.all.ok r hr) (hD.all.bare r hr) (λt b k hf hf'=>by
      rcases g3 t b k hf' with hh|⟨y,hy,hh⟩;·exact RM r hr t b k hf hh
      ·exact(ew.1 hD.all.apart).1 _ (bE ..) b k hf (Fc y hy b k hh)) (RO r hr) (λb k hf=>by
      rcases Fj r hr b k hf with hm|hb;·obtain⟨t,ht⟩:=kY b k hm;exact h.tr.dom t b k ht
      ·exact .inr (jB h.tr.ext.size hb))
    exact⟨r.val,hD.ends,λKG=>by (cases KG),G3,aH,_,j3,h3⟩
   |_=>exact hk.elim
 |_=>exact hK.elim
def afP(h:St c G zl s a w){f:FuncId}{fn:Func}{as':Array Operand}{x:AV}{x':Operand}{l':List Operand}{as:List (AV×PM)}{ts:Array TypeId}(ho:o.op=.call {callee:=.value (.func f),args:=as',argTypes:=ts})(hl:as'.toList=x'::l')(hf:P.funcs[f]?=some fn)(hname:(fn.name== "runtime.NumGoroutine")=false) (hb:fn.body.isNone=false)
  (hn:∀n,o.dst=some n->n<c.nt) (hx:aO x' x=true) (hc:gZ l' as=true) (hq:ju as=true) (hK:aR P (.sW o.dst f x as) s K):sN P c o a w K false:=by
 have hop:uF P c zl o a w (x'::l') f none:=⟨[],by simp only[execOp,ho,resolve,Act.eval,Deferred.ofValue,Sem.run_bind,Sem.run_pure,Result.andThen_ok,invoke,ML hf hname hb];rw[<-hl];congr 2;apply qF;simp,λ_ _ _ _=>⟨[],rfl,rfl,λ_ hx=>(by cases hx)⟩⟩
 exact YJ h hx hc hq hop hn hK
end
end M
namespace M
open Go Go.RowKit
variable [Bs]
section
variable {P:Program}{ops:Array Oper}{Q:Exit->Act->World->Prop}
def wpAnyQ(P:Program)(ops:Array Oper)(quiet:Nat->Bool)(Q:Exit->Act->World->Prop):Nat->Array Bool->Act->World->Prop
 |0,listed,a,w=>Region.ready .any ops listed=[]/\Q .normal a w
 |fuel+1,listed,a,w=>(Region.ready .any ops listed=[]->Q .normal a w)/\
  ∀i∈Region.ready .any ops listed,wpOp P ops Q i (λa' w'=>Rel (quiet i) w w'/\wpAnyQ P ops quiet Q fuel (listed.setIfInBounds i true) a' w') a w
def wpAnyQ.any{quiet:Nat->Bool}:∀{fuel:Nat} {listed:Array Bool} {a:Act} {w:World},wpAnyQ P ops quiet Q fuel listed a w->wpAny P .any ops Q fuel listed a w
 |0,_,_,_,h=>h
 |fuel+1,_,_,_,h=>⟨h.1,λi hi=>wpOp_mono (λ_ _ h=>h.2.any) (h.2 i hi)⟩
def o8(P:Program)(ops:Array Oper)(o:Oper)(v:Value)(a:Act)(w:World):Prop:=
 (Region.wanted o (yielded ops a.tmps)=true/\∀w',Ext (λ_ _=>False) w w'->(execOp a.eval o).run P w'=.ok (.value v) w')\/
 (Region.wanted o (yielded ops a.tmps)=false/\v=undef)
def o8.wpOp{i:Nat}{o:Oper}{v:Value}{a:Act}{w:World}(hi:ops[i]?=some o)(hy:o8 P ops o v a w){K:Act->World->Prop}(h:K (a.put o.dst v) w):wpOp P ops Q i K a w:=by
 unfold Go.wpOp;simp only[hi];rcases hy with ⟨hw,hv⟩|⟨hw,rfl⟩;·simp only[hw,eN,Oper.wp,hv w (Ext.refl _ _),Oper.upon];exact .inl h
 ·simp only[hw,iP,iD];exact h
def sM(P:Program)(ops:Array Oper)(o:Oper)(v:Value)(a:Act):Prop:=
 (Region.wanted o (yielded ops a.tmps)=true/\∀w',(execOp a.eval o).run P w'=.ok (.value v) w')\/
 (Region.wanted o (yielded ops a.tmps)=false/\v=undef)
def sM.later{o:Oper}{v:Value}{a:Act}(h:sM P ops o v a)(w:World):o8 P ops o v a w:=h.imp (λh=>⟨h.1,λw' _=>h.2 w'⟩) id
def D0(ops:Array Oper)(o:Oper)(a a':Act):Prop:=execOp a'.eval o=execOp a.eval o/\Region.wanted o (yielded ops a'.tmps)=Region.wanted o (yielded ops a.tmps)
def o8.same{o:Oper}{v:Value}{a a':Act}{w w':World}(hy:o8 P ops o v a w)(h:D0 ops o a a')(hE:Ext (λ_ _=>False) w w'):o8 P ops o v a' w':=by unfold o8;rw[h.1,h.2];exact hy.imp (λhh=>⟨hh.1,λw2 h2=>hh.2 w2 (hE.trans h2 λ_ _ h _=>h)⟩) id
def sM.same{o:Oper}{v:Value}{a a':Act}(hy:sM P ops o v a)(h:D0 ops o a a'):sM P ops o v a':=by unfold sM;rw[h.1,h.2];exact hy
def UP{j:Nat}{oi oj:Oper}{v:Value}(hj:ops[j]?=some oj)(hap:oi.apart ops oj=true)(hsi:∀cs b,oi.op≠.select cs b)(hsj:∀cs b,oj.op≠.select cs b)
  (hQ:∀c a w,Q (.panic c) (a.put oi.dst v) w->Q (.panic c) a w){K:Act->World->Prop}{a:Act}{w:World}(h:wpOp P ops Q j K (a.put oi.dst v) w):
  wpOp P ops Q j (λa' w'=>D0 ops oi a a'/\K (a'.put oi.dst v) w') a w:=by
 obtain⟨h1,h2,h3⟩:=Oper.apart_spec hap;have keep:∀u,D0 ops oi a (a.put oj.dst u):=λu=>⟨execOp_put oi hsi a oj.dst u h3,wanted_put oi a oj.dst u h3⟩;have put:∀u,(a.put oj.dst u).put oi.dst v=(a.put oi.dst v).put oj.dst u:=λu=>(Act.put_comm a v u h2).symm;unfold Go.wpOp at*;simp only[hj] at*;rw[wanted_put oj a oi.dst v h1] at h;by_cases hw:Region.wanted oj (yielded ops a.tmps)=true
 ·rw[aq hw] at h⊢;have mZ:execOp (a.put oi.dst v).eval oj=execOp a.eval oj:=execOp_put oj hsj a oi.dst v h1;refine h.imp (λh=>?_) λh=>⟨?_,h.2⟩
  ·unfold Oper.wp at*;rw[mZ] at h;generalize (execOp a.eval oj).run P w=r at h⊢;match r,h with
   |.ok (.value u) w',h=>exact⟨keep u,by rw[put];exact h⟩
   |.ok .skip w',h=>exact⟨keep _,by rw[put];exact h⟩
   |.ok (.defer d) w',h=>
    refine⟨by have k:=keep undef;unfold Act.put at*;cases hd:oj.dst<;>rw[hd] at k<;>exact⟨k.1,k.2⟩,?_⟩
    have h':K (({a.put oi.dst v with defers:=d::(a.put oi.dst v).defers}:Act).put oj.dst undef) w':=h;rw[Act.put_defers,Act.put_comm _ v undef h2] at h';exact h'
   |.ok (.enter f args) w',h=>
    refine Calls.mono h λe w'' he=>?_;match e,he with
    |.returned u,he=>exact⟨keep u,by rw[put];exact he⟩
    |.panicked c,he=>exact hQ _ _ _ he
    |.outgrown,he=>exact he
   |.ok (.row row args) w',h=>exact Rows.mono h λu w'' he=>⟨keep u,by rw[put];exact he⟩
   |.halt (.panic u) w',h=>exact hQ _ _ _ h
  ·have:=h.1;unfold Oper.asks at this⊢;rwa [mZ] at this
 ·rw[ay hw] at h⊢;exact⟨keep _,by rw[put];exact h⟩
def Down(ops:Array Oper)(listed:Array Bool):Prop:=∀k ok,ops[k]?=some ok->listed.getD k false=true->∀e∈ok.after,Region.binds .any e=true->listed.getD e.on false=true
def xu(ops : Array Oper)(t : Nat -> Nat -> Bool) : Bool := (List.range ops.size).all λj => (List.range ops.size).all λi => !t j i || (match ops[j]? with
 |some oj=>oj.after.any λe=>Region.binds .any e && (e.on==i||(decide (e.on<j) && t e.on i))
 |none=>false)
def MD{t:Nat->Nat->Bool}(ke:xu ops t=true){listed:Array Bool}(hd:Down ops listed){i:Nat}(hi:listed.getD i false=false):∀(n j:Nat),j<n->j<ops.size->i<ops.size->(∀oj,ops[j]?=some oj->∀e∈oj.after,Region.binds .any e=true->listed.getD e.on false=true)->t j i=false
 |0,j,hj,_,_,_=>by omega
 |n+1,j,hj,Fe,RG,hall=>by
  cases ht:t j i with
  |false=>rfl
  |true=>
   exfalso;have hc:=ke;simp only[xu,sI,oX] at hc;have h1:=hc j Fe i RG;rw[ht] at h1;simp only[Bool.not_true,Bool.false_or] at h1;split at h1
   ·rename_i oj gH;obtain⟨e,he,hb⟩:=Array.any_eq_true'.1 h1;simp only[av,qH,ey,bx] at hb;have hl:=hall oj gH e he hb.1;rcases hb.2 with h2|⟨h2,h3⟩;·rw[h2,hi] at hl;cases hl
    ·have:=MD ke hd hi n e.on (by omega) (by omega) RG (λoe hoe e' he' hb'=>hd e.on oe hoe hl e' he' hb');rw[this] at h3;cases h3
   ·cases h1
def Down.set{listed:Array Bool}(h:Down ops listed){j:Nat}{oj:Oper}(hj:ops[j]?=some oj)(hall:∀e∈oj.after,Region.binds .any e=true->listed.getD e.on false=true):Down ops (listed.setIfInBounds j true):=by
 intro k ok hk hl e he hb;by_cases hjk:j=k
 ·subst hjk;rw[hj] at hk;injection hk with hk
  subst hk;exact getD_set_true (hall e he hb)
 ·rw[getD_set_ne false hjk] at hl;exact getD_set_true (h k ok hk hl e he hb)
def wpAnyQ_first{quiet:Nat->Bool}{i:Nat}{oi:Oper}{v:Value}(hi:ops[i]?=some oi)(hsel:∀(j:Nat) (o:Oper) cs b,ops[j]?=some o->o.op≠.select cs b)(hQ:∀c a w,Q (.panic c) (a.put oi.dst v) w->Q (.panic c) a w){t:Nat->Nat->Bool}(iJ:xu ops t=true):
  ∀(fuel:Nat) (listed:Array Bool) (a:Act) (w:World),
   Down ops listed->(∀j oj,ops[j]?=some oj->j≠i->listed.getD j true=false->t j i=false->oi.apart ops oj=true/\quiet j=true)->
   i∈Region.ready .any ops listed->o8 P ops oi v a w->
   wpAnyQ P ops quiet Q fuel (listed.setIfInBounds i true) (a.put oi.dst v) w->wpAnyQ P ops quiet Q (fuel+1) listed a w:=by
 intro fuel;induction fuel with
 |zero=>
  intro listed a w _ _ hr hy H;refine⟨λh=>(by rw[h] at hr;cases hr),λj hj=>?_⟩;by_cases hji:j=i;·subst hji;exact hy.wpOp hi ⟨Rel.refl _ _,H⟩
  ·have:=ready_mono hj hji;rw[H.1] at this;cases this
 |succ fuel ih=>
  intro listed a w A7 hfree hr hy H;refine⟨λh=>(by rw[h] at hr;cases hr),λj hj=>?_⟩;by_cases hji:j=i;·subst hji;exact hy.wpOp hi ⟨Rel.refl _ _,H⟩
  ·have h1:=H.2 j (ready_mono hj hji);obtain⟨Be,oj,gH,hall⟩:=mem_ready.1 hj
   have hi0:listed.getD i false=false:=by
    have h0:=(mem_ready.1 hr).1;rcases gb i listed.size with h'|h';·simpa [h'] using h0
    ·simp[jW h']
   have hnot:t j i=false:=MD iJ A7 hi0 (j+1) j (by omega) (gC.1 gH).1 (gC.1 hi).1 (λoj' rC e he hb=>by
    rw[gH] at rC;injection rC with rC
    rw[<-rC] at he;exact hall e he hb)
   obtain⟨hap,hqu⟩:=hfree j oj gH hji Be hnot;have h2:=UP gH hap (λcs b=>hsel i oi cs b hi) (λcs b=>hsel j oj cs b gH) hQ h1
   have Km:∀k ok,ops[k]?=some ok->k≠i->(listed.setIfInBounds j true).getD k true=false->
     t k i=false->oi.apart ops ok=true/\quiet k=true:=λk ok hk hki hun hno=>by
    refine hfree k ok hk hki ?_ hno;by_cases hjk:j=k;·subst hjk;exact Be
    ·rw[getD_set_ne true hjk] at hun;exact hun
   refine wpOp_mono (λa' w' ⟨hsame,hrel,h3⟩=>⟨hrel,ih (listed.setIfInBounds j true) a' w' (A7.set gH hall) Km (ready_mono hr (wP hji)) (hy.same hsame (hrel hqu)) ?_⟩) h2;rw[Vk _ _ hji];exact h3
def aku{quiet:Nat->Bool}{i:Nat}{oi:Oper}{v:Value}(hi:ops[i]?=some oi)(hsel:∀(j:Nat) (o:Oper) cs b,ops[j]?=some o->o.op≠.select cs b)(hQ:∀c a w,Q (.panic c) (a.put oi.dst v) w->Q (.panic c) a w){t:Nat->Nat->Bool}(iJ:xu ops t=true):
  ∀(fuel:Nat) (listed:Array Bool) (a:Act) (w:World),
   Down ops listed->(∀j oj,ops[j]?=some oj->j≠i->listed.getD j true=false->t j i=false->oi.apart ops oj=true)->
   i∈Region.ready .any ops listed->sM P ops oi v a->
   wpAnyQ P ops quiet Q fuel (listed.setIfInBounds i true) (a.put oi.dst v) w->wpAnyQ P ops quiet Q (fuel+1) listed a w:=by
 intro fuel;induction fuel with
 |zero=>
  intro listed a w _ _ hr hy H;refine⟨λh=>(by rw[h] at hr;cases hr),λj hj=>?_⟩;by_cases hji:j=i;·subst hji;exact(hy.later w).wpOp hi ⟨Rel.refl _ _,H⟩
  ·have:=ready_mono hj hji;rw[H.1] at this;cases this
 |succ fuel ih=>
  intro listed a w A7 hfree hr hy H;refine⟨λh=>(by rw[h] at hr;cases hr),λj hj=>?_⟩;by_cases hji:j=i;·subst hji;exact(hy.later w).wpOp hi ⟨Rel.refl _ _,H⟩
  ·have h1:=H.2 j (ready_mono hj hji);obtain⟨Be,oj,gH,hall⟩:=mem_ready.1 hj
   have hi0:listed.getD i false=false:=by
    have h0:=(mem_ready.1 hr).1;rcases gb i listed.size with h'|h';·simpa [h'] using h0
    ·simp[jW h']
   have hnot:t j i=false:=MD iJ A7 hi0 (j+1) j (by omega) (gC.1 gH).1 (gC.1 hi).1 (λoj' rC e he hb=>by
    rw[gH] at rC;injection rC with rC
    rw[<-rC] at he;exact hall e he hb)
   have hap:=hfree j oj gH hji Be hnot;have h2:=UP gH hap (λcs b=>hsel i oi cs b hi) (λcs b=>hsel j oj cs b gH) hQ h1
   have Km:∀k ok,ops[k]?=some ok->k≠i->(listed.setIfInBounds j true).getD k true=false->
     t k i=false->oi.apart ops ok=true:=λk ok hk hki hun hno=>by
    refine hfree k ok hk hki ?_ hno;by_cases hjk:j=k;·subst hjk;exact Be
    ·rw[getD_set_ne true hjk] at hun;exact hun
   refine wpOp_mono (λa' w' ⟨hsame,hrel,h3⟩=>⟨hrel,ih (listed.setIfInBounds j true) a' w' (A7.set gH hall) Km (ready_mono hr (wP hji)) (hy.same hsame) ?_⟩) h2;rw[Vk _ _ hji];exact h3
end
end M
namespace M
open Go Go.RowKit
variable [Bs]
def mw(P:Program)(t:TypeId):Option TypeId:=match P.underlying t with
 |some (.slice e)=>some e
 |_=>none
def isStr(P:Program)(t:TypeId):Bool:=match P.underlying t with
 |some .string=>true
 |_=>false
def LJ(P:Program)(t:TypeId):Bool:=match P.underlying t with
 |some .bool=>true
 |_=>false
def isInt(P:Program)(t:TypeId)(k:IntKind):Bool:=match P.underlying t with
 |some (.int k')=>decide (k'=k)
 |_=>false
def lN(P:Program)(t:TypeId)(n:Nat):Bool:=match P.info? t with
 |some i=>decide (i.size=n)
 |none=>false
def WJ:TypeDesc->Bool
 |.struct _=>true
 |.array _ _=>true
 |_=>false
def vJ(P:Program)(t:TypeId)(b:Bool):Bool:=match P.underlying t with
 |some d=>WJ d==b
 |none=>false
section
variable {P:Program}{t:TypeId}
def oO{e:TypeId}(h:mw P t=some e):P.underlying t=some (.slice e):=by
 unfold mw at h;split at h;·rename_i e' he;injection h with h;subst h;exact he
 ·cases h
def CG(h:isStr P t=true):P.underlying t=some .string:=by
 unfold isStr at h;split at h;·assumption
 ·cases h
def adW(h:LJ P t=true):P.underlying t=some .bool:=by
 unfold LJ at h;split at h;·assumption
 ·cases h
def LK{k:IntKind}(h:isInt P t k=true):P.underlying t=some (.int k):=by
 unfold isInt at h;split at h;·rename_i k' hk;rw[hk,zR h]
 ·cases h
def tw{n:Nat}(h:lN P t n=true):∃i,P.info? t=some i/\i.size=n:=by
 unfold lN at h;split at h;·rename_i i hi;exact⟨i,hi,zR h⟩
 ·cases h
def CF{b:Bool}(h:vJ P t b=true):∃dd,P.underlying t=some dd/\(match dd with|.struct _=>true|.array _ _=>true|_=>false)=b:=by
 unfold vJ at h;split at h;·rename_i d hd;refine⟨d,hd,?_⟩;rw[ey] at h;rw[<-h];cases d<;>rfl
 ·cases h
end
def dD(nt:Nat)(o:Oper)(d:Nat):Bool:=(match o.dst with|some d'=>d'==d|none=>false) && decide (d<nt)
def dM{nt:Nat}{o:Oper}{d:Nat}(h:dD nt o d=true):o.dst=some d/\d<nt:=by
 simp only[dD,av,bx] at h;refine⟨?_,h.2⟩;have:=h.1;split at this;·rename_i d' hd;rw[hd];simpa using this
 ·cases this
def zk:cA->Bool
 |.mv _ _|.pick _ _ _ _|.un _ _ _|.bin _ _ _ _|.beq _ _ _ _|.qR _ _ _ _ _|.uf _ _ _|.conv _ _ _|.text _ _|.load _ _ _ _|.aK _ _|.q8 _ _ _|.mT _ _ _ _ _|.iU _ _ _ _|.jT _ _ _|.sQ _ _ _ _ _ _
 |.ext _ _ _|.wq _ _ _ _|.lp _ _ _ _ _|.k8 _ _ _|.len _ _|.uq _ _|.mn _ _|.mx _ _|.iL _ _ _ _ _=>true
 |_=>false
def uk:cA->Bool
 |.bT _ _ _|.box _ _ _|.new _ _|.make _ _ _ _ _|.bytes _ _|.lit _ _ _ _|.build _ _ _ _=>true
 |.call _ _ as=>ju as
 |.jH _ _ as=>ju as
 |x=>zk x
def Ew(P:Program)(nt:Nat)(o:Oper):cA->Bool
 |.mv d x=>dD nt o d && (match o.op with|.move x'=>aO x' x|.assign x'=>aO x' x|_=>false)
 |.pick d c a b=>dD nt o d && (match o.op with|.pick c' a' b'=>aO c' c && aO a' a && aO b' b|_=>false)
 |.un d op x=>dD nt o d && (match o.op with|.unOp op' _ x'=>decide (op'=op) && aO x' x|_=>false)
 |.bin d op x y=>dD nt o d && (match o.op with|.binOp op' _ x' y' _=>decide (op'=op) && aO x' x && aO y' y|_=>false)
 |.beq d neg x y=>dD nt o d && (match o.op with|.binOp op' ty x' y' _=>decide (op'=bif neg then .neq else .eql) && LJ P ty && aO x' x && aO y' y|_=>false)
 |.uf d neg x=>dD nt o d && (match o.op with|.binOp op' ty x' (.const (.slice none 0 0)) _=>decide (op'=bif neg then .neq else .eql) && (mw P ty).isSome && aO x' x|_=>false)
 |.qR d neg ks x y=>dD nt o d && (match o.op with|.binOp op' ty x' y' _=>decide (op'=bif neg then .neq else .eql) && JU P ty ks && aO x' x && aO y' y|_=>false)
 |.conv d k x=>dD nt o d && (match o.op with|.convert src dst x'=>(P.underlying src).isSome && isInt P dst k && aO x' x|_=>false)
 |.text d x=>dD nt o d && (match o.op with|.convert src dst x'=>(match mw P src with|some el=>isInt P el .u8 && isStr P dst && aO x' x|none=>false)|_=>false)
 |.load d sz agg x=>dD nt o d && (match o.op with|.load ty x'=>lN P ty sz && vJ P ty agg && (agg||decide (sz=1)) && aO x' x|_=>false)
 |.iL d fz sz agg x=>dD nt o d && (match o.op with|.load ty x'=>lN P ty sz && vJ P ty agg && (agg||decide (sz=1)) && aO x' x|_=>false)
 |.aK d x=>dD nt o d && (match o.op with|.nilCheck x'=>aO x' x|_=>false)
 |.q8 d x off=>dD nt o d && (match o.op with|.fieldAddr ty x' fi=>(match P.underlying ty with|some (.struct fs)=>(match fs[fi]? with|some f=>decide (f.offset=off) && !lN P f.type 0 && (P.info? f.type).isSome && aO x' x|none=>false)|_=>false)|_=>false)
 |.mT d x off sz agg=>dD nt o d && (match o.op with|.field ty x' fi=>(match P.underlying ty with|some (.struct fs)=>(match fs[fi]? with|some f=>decide (f.offset=off) && lN P f.type sz && vJ P f.type agg && (agg||decide (sz=1)) && aO x' x|none=>false)|_=>false)|_=>false)
 |.iU d sz x y=>dD nt o d && (match o.op with|.indexAddr ty x' y'=>(match mw P ty with|some el=>lN P el sz && decide (0<sz) && aO x' x && aO y' y|none=>false)|_=>false)
 |.jT d x y=>dD nt o d && (match o.op with|.index ty x' y'=>isStr P ty && aO x' x && aO y' y|_=>false)
 |.sQ d n sz agg x y=>dD nt o d && (match o.op with|.index ty x' y'=>(match P.underlying ty with|some (.array n' el)=>decide (n'=n) && lN P el sz && vJ P el agg && (agg||decide (sz=1)) && aO x' x && aO y' y|_=>false)|_=>false)
 |.ext d x i=>dD nt o d && (match o.op with|.extract x' i'=>i'==i && aO x' x|_=>false)
 |.wq d x lo hi=>dD nt o d && (match o.op with|.slice ty x' lo' hi' none=>isStr P ty && aO x' x && nT lo' lo && nT hi' hi|_=>false)
 |.lp d sz x lo hi=>dD nt o d && (match o.op with|.slice ty x' lo' hi' none=>(match mw P ty with|some el=>lN P el sz && aO x' x && nT lo' lo && nT hi' hi|none=>false)|_=>false)
 |.k8 d f cs=>dD nt o d && (match o.op with|.makeFunc (.func f') fs cs'=>f'==f && fs.toList.isEmpty && mN cs'.toList cs|_=>false)
 |.len d x=>dD nt o d && (match o.op with|.call ⟨.builtin .len,as,ts⟩=>(match as.toList,ts.toList with|[x'],[ty]=>(mw P ty).isSome && aO x' x|_,_=>false)|_=>false)
 |.uq d x=>dD nt o d && (match o.op with|.call ⟨.builtin .len,as,ts⟩=>(match as.toList,ts.toList with|[x'],[ty]=>isStr P ty && aO x' x|_,_=>false)|_=>false)
 |.mn d [x,y]=>dD nt o d && (match o.op with|.call ⟨.builtin .min,as,_⟩=>(match as.toList with|[x',y']=>aO x' x && aO y' y|_=>false)|_=>false)
 |.mx d [x,y]=>dD nt o d && (match o.op with|.call ⟨.builtin .max,as,_⟩=>(match as.toList with|[x',y']=>aO x' x && aO y' y|_=>false)|_=>false)
 |_=>false
section
variable {P:Program}{c:Ctx}{G:Nat->C}{zl:Nat->Nat->Prop}{s:ag}{a:Act}{w:World}{o:Oper}{K:ag->Prop}
def Rh(op:BinOp)(ty:TypeId)(p q:Operand)(a b:Option Addr)(l m n k:Nat):eqGuard op ty p q (.slice a l m) (.slice b n k)=pure ():=by unfold eqGuard;cases op<;>rfl
def agK{sz len:Nat}{e:Nat->Nat->C}(h:gO (dJ sz len e)=true):0<len/\0<sz:=by
 unfold dJ at h;cases len with
 |zero=>cases h
 |succ len=>
  cases sz with
  |zero=>rw[DN] at h;cases h
  |succ sz=>exact⟨Nat.succ_pos _,Nat.succ_pos _⟩
def af6(h:St c G zl s a w){d:Nat}{neg:Bool}{ty ty':TypeId}{e:TypeId}{x:AV}{x':Operand}(ho:o.op=.binOp (bif neg then .neq else .eql) ty x' (.const (.slice none 0 0)) ty')(ht:P.underlying ty=some (.slice e))(hd:o.dst=some d)(hn:d<c.nt)(hx:aO x' x=true)
  (hK:aR P (.uf d neg x) s K):dL P c o a w K:=by
 obtain⟨p,p1,p2,p3⟩:=cy h hx;simp only[aR] at hK;split at hK
 ·rename_i m z xs h1;rw[<-p1] at h1;obtain⟨A,len,cap,f,rfl,hxs⟩:=AJ h1;have hb:gO xs=true->(A.map λq=>(⟨q.1,q.2.1,q.2.2⟩:Addr)).isNone=false:=λhc=>by rw[hxs] at hc;obtain⟨h1,h2⟩:=agK hc;obtain⟨g,o',hA,_⟩:=p3.ok.2.1 0 0 h1 h2;rw[hA];rfl
  have ij:=hK _ hb;obtain⟨nb,hnb⟩:∃nb,(A.map λq=>(⟨q.1,q.2.1,q.2.2⟩:Addr)).isNone=nb:=⟨_,rfl⟩;rw[hnb] at ij;have hc:a.eval (.const (.slice none 0 0))=.slice none 0 0:=rfl;refine dR h hd hn (x:=.bool (xor neg nb)) trivial (λ_ _ _ _ _ _ e=>(by cases e)) trivial (λw' _=>?_) ij;cases neg;·simp only[execOp,ho,hc,<-p2,C.val,Rh,Sem.run_bind,Sem.run_pure,Result.andThen_ok,sH,Lib.run_eql_slice_nil w' ty e _ _ _ _ _ ht,Bool.false_bne,hnb]
  ·simp only[execOp,ho,hc,<-p2,C.val,Rh,Sem.run_bind,Sem.run_pure,Result.andThen_ok,mH,run_neq_slice_nil w' ty e _ _ _ ht,Bool.true_bne,hnb]
 ·exact hK.elim
def Hs{b:Bool}{n m:Nat}(h:(b||decide (n=m))=true):b=true\/n=m:=by simpa using h
def zH{α:Type}{xs:Array α}{x:α}(h:xs.toList=[x]):xs= #[x]:=qF h
def HP{α:Type}{xs:Array α}{x y:α}(h:xs.toList=[x,y]):xs= #[x,y]:=qF h
def Jr(h:St c G zl s a w){x:cA}(hc:Ew P c.nt o x=true)(hK:aR P x s K):dL P c o a w K:=by
 unfold Ew at hc;split at hc
 ·simp only[av] at hc;obtain⟨hd,hn⟩:=dM hc.1;have hc:=hc.2;split at hc;·rename_i ho;exact S8 h (.inl ho) hd hn hc hK
  ·rename_i ho;exact S8 h (.inr ho) hd hn hc hK
  ·cases hc
 ·simp only[av] at hc;obtain⟨hd,hn⟩:=dM hc.1;have hc:=hc.2;split at hc;·rename_i ho;simp only[av] at hc;exact af7 h ho hd hn hc.1.1 hc.1.2 hc.2 hK
  ·cases hc
 ·simp only[av] at hc;obtain⟨hd,hn⟩:=dM hc.1;have hc:=hc.2;split at hc;·rename_i ho;simp only[av,bx] at hc;obtain⟨rfl,hx⟩:=hc;exact agf h ho hd hn hx hK
  ·cases hc
 ·simp only[av] at hc;obtain⟨hd,hn⟩:=dM hc.1;have hc:=hc.2;split at hc;·rename_i ho;simp only[av,bx] at hc;obtain⟨⟨rfl,hx⟩,hy⟩:=hc;exact afK h ho hd hn hx hy hK
  ·cases hc
 ·simp only[av] at hc;obtain⟨hd,hn⟩:=dM hc.1;have hc:=hc.2;split at hc;·rename_i ho;simp only[av,bx] at hc;obtain⟨⟨⟨rfl,ht⟩,hx⟩,hy⟩:=hc;exact afJ h ho (adW ht) hd hn hx hy hK
  ·cases hc
 ·simp only[av] at hc;obtain⟨hd,hn⟩:=dM hc.1;have hc:=hc.2;split at hc;·rename_i ho;simp only[av,bx] at hc;obtain⟨⟨rfl,ht⟩,hx⟩:=hc;obtain⟨el,ht⟩:=wR.1 ht;exact af6 h ho (oO ht) hd hn hx hK
  ·cases hc
 ·simp only[av] at hc;obtain⟨hd,hn⟩:=dM hc.1;have hc:=hc.2;split at hc;·rename_i ho;simp only[av,bx] at hc;obtain⟨⟨⟨rfl,ht⟩,hx⟩,hy⟩:=hc;exact afF h ho ht hd hn hx hy hK
  ·cases hc
 ·simp only[av] at hc;obtain⟨hd,hn⟩:=dM hc.1;have hc:=hc.2;split at hc;·rename_i ho;simp only[av] at hc;obtain⟨⟨hs,ht⟩,hx⟩:=hc;obtain⟨sd,hs⟩:=wR.1 hs;exact afT h ho hs (LK ht) hd hn hx hK
  ·cases hc
 ·simp only[av] at hc;obtain⟨hd,hn⟩:=dM hc.1;have hc:=hc.2;split at hc
  ·rename_i ho;split at hc;·rename_i el hel;simp only[av] at hc;exact agd h ho (oO hel) (LK hc.1.1) (CG hc.1.2) hd hn hc.2 hK
   ·cases hc
  ·cases hc
 ·simp only[av] at hc;obtain⟨hd,hn⟩:=dM hc.1;have hc:=hc.2;split at hc;·rename_i ho;simp only[av] at hc;exact S7 h ho (tw hc.1.1.1) (CF hc.1.1.2) (Hs hc.1.2) hd hn hc.2 hK
  ·cases hc
 ·simp only[av] at hc;obtain⟨hd,hn⟩:=dM hc.1;have hc:=hc.2;split at hc;·rename_i ho;simp only[av] at hc;exact af0 h ho (tw hc.1.1.1) (CF hc.1.1.2) (Hs hc.1.2) hd hn hc.2 hK
  ·cases hc
 ·simp only[av] at hc;obtain⟨hd,hn⟩:=dM hc.1;have hc:=hc.2;split at hc;·rename_i ho;exact afR h ho hd hn hc hK
  ·cases hc
 ·simp only[av] at hc;obtain⟨hd,hn⟩:=dM hc.1;have hc:=hc.2;split at hc
  ·rename_i ho;split at hc
   ·rename_i fs hfs;split at hc;·rename_i f hf;simp only[av,bx,o6] at hc;obtain⟨⟨⟨h1,h2⟩,h3⟩,h4⟩:=hc;obtain⟨i,hi⟩:=wR.1 h3;refine afV h ho hfs hf h1 ⟨i,hi,λh0=>?_⟩ hd hn h4 hK;simp[lN,hi,h0] at h2
    ·cases hc
   ·cases hc
  ·cases hc
 ·simp only[av] at hc;obtain⟨hd,hn⟩:=dM hc.1;have hc:=hc.2;split at hc
  ·rename_i ho;split at hc
   ·rename_i fs hfs;split at hc;·rename_i f hf;simp only[av,bx] at hc;obtain⟨⟨⟨⟨h1,h2⟩,h3⟩,h4⟩,h5⟩:=hc;exact afW h ho hfs hf h1 (tw h2) (CF h3) (Hs h4) hd hn h5 hK
    ·cases hc
   ·cases hc
  ·cases hc
 ·simp only[av] at hc;obtain⟨hd,hn⟩:=dM hc.1;have hc:=hc.2;split at hc
  ·rename_i ho;split at hc;·rename_i el hel;simp only[av,bx] at hc;obtain⟨⟨⟨h1,h2⟩,h3⟩,h4⟩:=hc;exact afX h ho (oO hel) (tw h1) h2 hd hn h3 h4 hK
   ·cases hc
  ·cases hc
 ·simp only[av] at hc;obtain⟨hd,hn⟩:=dM hc.1;have hc:=hc.2;split at hc;·rename_i ho;simp only[av] at hc;exact af9 h ho (CG hc.1.1) hd hn hc.1.2 hc.2 hK
  ·cases hc
 ·simp only[av] at hc;obtain⟨hd,hn⟩:=dM hc.1;have hc:=hc.2;split at hc
  ·rename_i ho;split at hc;·rename_i n' el hel;simp only[av,bx] at hc;obtain⟨⟨⟨⟨⟨rfl,h2⟩,h3⟩,h4⟩,h5⟩,h6⟩:=hc;exact afG h ho hel (tw h2) (CF h3) (Hs h4) hd hn h5 h6 hK
   ·cases hc
  ·cases hc
 ·simp only[av] at hc;obtain⟨hd,hn⟩:=dM hc.1;have hc:=hc.2;split at hc;·rename_i ho;simp only[av,ey] at hc;obtain⟨rfl,hx⟩:=hc;exact afU h ho hd hn hx hK
  ·cases hc
 ·simp only[av] at hc;obtain⟨hd,hn⟩:=dM hc.1;have hc:=hc.2;split at hc;·rename_i ho;simp only[av] at hc;obtain⟨⟨⟨h1,h2⟩,h3⟩,h4⟩:=hc;exact agb h ho (CG h1) hd hn h2 h3 h4 hK
  ·cases hc
 ·simp only[av] at hc;obtain⟨hd,hn⟩:=dM hc.1;have hc:=hc.2;split at hc
  ·rename_i ho;split at hc;·rename_i el hel;simp only[av] at hc;obtain⟨⟨⟨h1,h2⟩,h3⟩,h4⟩:=hc;exact af8 h ho (oO hel) (tw h1) hd hn h2 h3 h4 hK
   ·cases hc
  ·cases hc
 ·simp only[av] at hc;obtain⟨hd,hn⟩:=dM hc.1;have hc:=hc.2;split at hc;·rename_i fs cs' ho;simp only[av,ey] at hc;obtain⟨⟨rfl,h2⟩,h3⟩:=hc;have hfs:fs= #[]:=qF (List.isEmpty_iff.1 h2);subst hfs;exact af2 h ho hd hn h3 hK
  ·cases hc
 ·simp only[av] at hc;obtain⟨hd,hn⟩:=dM hc.1;have hc:=hc.2;split at hc
  ·rename_i as ts ho;split at hc;·rename_i x' ty has hts;simp only[av] at hc;obtain⟨el,hel⟩:=wR.1 hc.1;rw[zH has,zH hts] at ho;exact afY h ho (oO hel) hd hn hc.2 hK
   ·cases hc
  ·cases hc
 ·simp only[av] at hc;obtain⟨hd,hn⟩:=dM hc.1;have hc:=hc.2;split at hc
  ·rename_i as ts ho;split at hc;·rename_i x' ty has hts;simp only[av] at hc;rw[zH has,zH hts] at ho;exact aga h ho (CG hc.1) hd hn hc.2 hK
   ·cases hc
  ·cases hc
 ·simp only[av] at hc;obtain⟨hd,hn⟩:=dM hc.1;have hc:=hc.2;split at hc
  ·rename_i as ts ho;split at hc;·rename_i x' y' has;simp only[av] at hc;rw[HP has] at ho;exact af3 h ho hd hn hc.1 hc.2 hK
   ·cases hc
  ·cases hc
 ·simp only[av] at hc;obtain⟨hd,hn⟩:=dM hc.1;have hc:=hc.2;split at hc
  ·rename_i as ts ho;split at hc;·rename_i x' y' has;simp only[av] at hc;rw[HP has] at ho;exact af4 h ho hd hn hc.1 hc.2 hK
   ·cases hc
  ·cases hc
 ·cases hc
end
end M
namespace M
open Go Go.RowKit
variable [Bs]
def Step(P:Program)(c:Ctx)(o:Oper)(a:Act)(w:World)(K:ag->Prop)(q:Bool):Prop:=
 (∃v w',((execOp a.eval o).run P w=.ok (.value v) w'\/((execOp a.eval o).run P w=.ok .skip w'/\v=undef))/\Rel q w w'/\∃G' aH s',K s'/\St c G' aH s' (a.put o.dst v) w')\/sN P c o a w K q
section
variable {P:Program}{c:Ctx}{G:Nat->C}{zl:Nat->Nat->Prop}{s:ag}{a:Act}{w:World}{o:Oper}{K:ag->Prop}
def Good.step(h:Good P c o a w K):Step P c o a w K false:=by obtain⟨v,w',hr,h⟩:=h;exact .inl ⟨v,w',hr,λhq=>by (cases hq),h⟩
def jY.step(h:jY P c o a w K)(q:Bool):Step P c o a w K q:=by obtain⟨v,w',hr,hE,h⟩:=h;exact .inl ⟨v,w',.inl hr,λ_=>hE,h⟩
def Step.wp{q:Bool}(h:Step P c o a w K q)(Q:Exit->Act->World->Prop):o.wp P a w (λa' w'=>Rel q w w'/\∃G' aH s',K s'/\St c G' aH s' a' w') Q:=by
 unfold Oper.wp;rcases h with ⟨v,w',hr,hq,h⟩|⟨f,args,hr,hc⟩
 ·rcases hr with hr|⟨hr,rfl⟩;·rw[hr];exact⟨hq,h⟩
  ·rw[hr];exact⟨hq,h⟩
 ·rw[hr];refine Calls.mono hc λe w' he=>?_;obtain⟨v,rfl,hq,h⟩:=he;exact⟨hq,h⟩
def Oo(P:Program)(t:TypeId)(sz bytes:Nat)(z:List X):Bool:=match P.info? t with
 |some i=>decide (i.size=sz) && decide (i.bytes=bytes) && (match i.zero with|some v=>nU v.cells.toList z|none=>false)
 |none=>false
def akW{t:TypeId}{sz bytes:Nat}{z:List X}(h:Oo P t sz bytes z=true):∃i v,P.info? t=some i/\i.size=sz/\i.bytes=bytes/\i.zero=some v/\nU v.cells.toList z=true:=by
 unfold Oo at h;split at h
 ·rename_i i hi;simp only[av,bx] at h;obtain⟨⟨h1,h2⟩,h3⟩:=h;split at h3;·rename_i v hv;exact⟨i,v,hi,h1,h2,hv,h3⟩
  ·cases h3
 ·cases h
def Ou(P:Program)(t:TypeId)(sz bytes:Nat):Bool:=match P.info? t with
 |some i=>decide (i.size=sz) && decide (i.bytes=bytes) && (match i.zero with|some v=>decide (v.cells.size=sz)|none=>false)
 |none=>false
def akY{t:TypeId}{sz bytes:Nat}(h:Ou P t sz bytes=true):∃i v,P.info? t=some i/\i.size=sz/\i.bytes=bytes/\i.zero=some v/\v.cells.size=sz:=by
 unfold Ou at h;split at h
 ·rename_i i hi;simp only[av,bx] at h;obtain⟨⟨h1,h2⟩,h3⟩:=h;split at h3;·rename_i v hv;exact⟨i,v,hi,h1,h2,hv,zR h3⟩
  ·cases h3
 ·cases h
def Oq(P:Program)(t:TypeId)(sz:Nat):Bool:=match P.info? t with
 |some i=>decide (i.size=sz) && (match i.zero with|some v=>decide (v.cells.size=sz)|none=>false)
 |none=>false
def akX{t:TypeId}{sz:Nat}(h:Oq P t sz=true):∃i v,P.info? t=some i/\i.size=sz/\i.zero=some v/\v.cells.size=sz:=by
 unfold Oq at h;split at h
 ·rename_i i hi;simp only[av,bx] at h;obtain⟨h1,h3⟩:=h;split at h3;·rename_i v hv;exact⟨i,v,hi,h1,hv,zR h3⟩
  ·cases h3
 ·cases h
def DV(P:Program)(t:TypeId)(z:List X):Bool:=match P.info? t with
 |some i=>(match i.zero with|some v=>nU v.cells.toList z|none=>false)
 |none=>false
def Ot{t:TypeId}{z:List X}(h:DV P t z=true):∃i v,P.info? t=some i/\i.zero=some v/\nU v.cells.toList z=true:=by
 unfold DV at h;split at h
 ·rename_i i hi;split at h;·rename_i v hv;exact⟨i,v,hi,hv,h⟩
  ·cases h
 ·cases h
def placesOf(P:Program)(t:TypeId):Option (List (Nat×Nat)):=match P.underlying t with
 |some (.struct fs)=>fs.toList.mapM λf=>(P.info? f.type).map λi=>(f.offset,i.size)
 |some (.array n e)=>(P.info? e).map λi=>(List.range n).map λk=>(k*i.size,i.size)
 |_=>none
def QB{p q:Nat->Option (Nat×Nat)}(h:∀i r,p i=some r->q i=some r):∀(parts:List (Nat×Value)) (cells r:Array Value),Instr.fill p cells parts=some r->Instr.fill q cells parts=some r
 |[],cells,r,hf=>hf
 |(i,v)::rest,cells,r,hf=>by
  unfold Instr.fill at hf⊢;cases hp:p i with
  |none=>rw[hp] at hf;cases hf
  |some pr=>
   rw[hp] at hf;rw[h i pr hp];obtain⟨off,size⟩:=pr;simp only at hf⊢;split at hf;·cases hf
   ·rename_i hc;rw[ay hc];exact QB h rest _ r hf
def agk{t:TypeId}{places:List (Nat×Nat)}(hp:placesOf P t=some places){i:TypeInfo}(hi:P.info? t=some i){v:Value}(hz:i.zero=some v):∀parts cells,Instr.fill (λi=>places[i]?) v.cells parts=some cells->P.built t parts=some cells:=by
 intro parts cells hf;unfold placesOf at hp;unfold Program.built;rw[hi];split at hp;·rename_i fs hfs;rw[hfs];simp only[hz,hp];simpa using hf
 ·rename_i n e he;rw[he];cases hie:P.info? e with
  |none=>rw[hie] at hp;cases hp
  |some ie=>
   rw[hie] at hp;simp only[cG,dH] at hp;simp only[hz,hie];refine QB (λk r hk=>?_) _ _ _ hf;rw[<-hp,C.de] at hk;split at hk;·exact hk
   ·cases hk
 ·cases hp
def AF(nt:Nat)(o:Oper)(d:Option Nat):Bool:=match o.dst,d with
 |some d',some d=>d'==d && decide (d<nt)
 |none,none=>true
 |_,_=>false
def JH{nt:Nat}{d:Option Nat}(h:AF nt o d=true):o.dst=d/\∀n,o.dst=some n->n<nt:=by
 unfold AF at h;split at h;·rename_i d' d hd;simp only[av,ey,bx] at h;rw[hd,h.1];exact⟨rfl,λn hn=>by injection hn with hn;rw[<-hn];exact h.2⟩
 ·rename_i hd;rw[hd];exact⟨rfl,λn hn=>by cases hn⟩
 ·cases h
def Js(P:Program)(nt:Nat)(o:Oper):cA->Bool
 |.bT d h x=>dD nt o d && (match o.op with|.assign x'=>aO x' x|_=>false)
 |.box d h x=>dD nt o d && (match o.op with|.box _ x'=>aO x' x|_=>false)
 |.new d z=>dD nt o d && (match o.op with|.alloc ty=>DV P ty z|_=>false)
 |.make d sz bytes z n=>dD nt o d && (match o.op with|.makeSlice ty n1 n2=>(match mw P ty with|some el=>Oo P el sz bytes z && decide (0<bytes) && decide (0<sz) && decide (z.length=sz) && aO n1 n && aO n2 n|none=>false)|_=>false)
 |.bytes d x=>dD nt o d && (match o.op with|.convert src dst x'=>(match mw P dst with|some el=>isInt P el .u8 && isStr P src && aO x' x|none=>false)|_=>false)
 |.lit d h sz ps=>dD nt o d && (match o.op with|.buildSlice ty n ps'=>(match mw P ty with|some el=>Oq P el sz && decide (0<sz) && decide (ps'.toList.length=n) && decide (n*sz<=16777216) && Aw 0 ps'.toList ps|none=>false)|_=>false)
 |.build d h z ps=>dD nt o d && (match o.op with|.build ty ps'=>(match placesOf P ty with|some places=>DV P ty z && uU places z.length ps'.toList ps|none=>false)|_=>false)
 |.store sz h y x=>(match o.dst with|none=>true|some _=>false) && (match o.op with|.store ty y' x'=>lN P ty sz && decide (0<sz) && aO x' x && aO y' y|_=>false)
 |.app d h sz bytes x y=>dD nt o d && (match o.op with|.call ⟨.builtin .append,as,ts⟩=>(match as.toList,ts.toList with|[x',y'],[ty,ty']=>(match mw P ty,mw P ty' with|some el,some _=>Ou P el sz bytes && decide (0<bytes) && decide (0<sz) && aO x' x && aO y' y|_,_=>false)|_,_=>false)|_=>false)
 |.call d f as=>AF nt o d && (match o.op with|.call ⟨.value (.func f'),as',_⟩=>f'==f && aD P f && gZ as'.toList as|_=>false)
 |.jH d x as=>AF nt o d && (match o.op with|.call ⟨.value x',as',_⟩=>aO x' x && gZ as'.toList as|_=>false)
 |.uX sz z x=>(match o.dst with|none=>true|some _=>false) && (match o.op with|.call ⟨.builtin .clear,as,ts⟩=>(match as.toList,ts.toList with|[x'],[ty]=>(match mw P ty with|some el=>DV P el z && decide (z.length=sz) && decide (0<sz) && aO x' x|_=>false)|_,_=>false)|_=>false)
 |.sW d f x as=>AF nt o d && (match o.op with|.call ⟨.value (.func f'),as',_⟩=>f'==f && aD P f && (match as'.toList with|x'::l'=>aO x' x && gZ l' as && ju as|[]=>false)|_=>false)
 |_=>false
def YP(h:St c G zl s a w){x:cA}(hc:Js P c.nt o x=true)(hK:aR P x s K):Step P c o a w K (uk x):=by
 unfold Js at hc;split at hc
 ·simp only[av] at hc;obtain⟨hd,hn⟩:=dM hc.1;have hc:=hc.2;split at hc;·rename_i ho;exact(afI h ho hd hn hc hK).step _
  ·cases hc
 ·simp only[av] at hc;obtain⟨hd,hn⟩:=dM hc.1;have hc:=hc.2;split at hc;·rename_i ho;exact(afL h ho hd hn hc hK).step _
  ·cases hc
 ·simp only[av] at hc;obtain⟨hd,hn⟩:=dM hc.1;have hc:=hc.2;split at hc;·rename_i ho;obtain⟨i,v,h1,h2,h3⟩:=Ot hc;exact(af5 h ho h1 h2 h3 hd hn hK).step _
  ·cases hc
 ·simp only[av] at hc;obtain⟨hd,hn⟩:=dM hc.1;have hc:=hc.2;split at hc
  ·rename_i ho;split at hc;·rename_i el hel;simp only[av,bx] at hc;obtain⟨⟨⟨⟨⟨h1,h2⟩,h3⟩,h4⟩,h5⟩,h6⟩:=hc;obtain⟨i,v,i1,i2,i3,i4,i5⟩:=akW h1;exact(af1 h ho (oO hel) i1 i4 i2 i3 h2 h3 h4 i5 hd hn h5 h6 hK).step _
   ·cases hc
  ·cases hc
 ·simp only[av] at hc;obtain⟨hd,hn⟩:=dM hc.1;have hc:=hc.2;split at hc
  ·rename_i ho;split at hc;·rename_i el hel;simp only[av] at hc;exact(afN h ho (CG hc.1.2) (oO hel) (LK hc.1.1) hd hn hc.2 hK).step _
   ·cases hc
  ·cases hc
 ·simp only[av] at hc;obtain⟨hd,hn⟩:=dM hc.1;have hc:=hc.2;split at hc
  ·rename_i ho;split at hc;·rename_i el hel;simp only[av,bx] at hc;obtain⟨⟨⟨⟨h1,h2⟩,h3⟩,h4⟩,h5⟩:=hc;obtain⟨i,v,i1,i2,i3,i4⟩:=akX h1;exact(afZ h ho (oO hel) i1 i3 i2 h2 i4 h3 h4 hd hn h5 hK).step _
   ·cases hc
  ·cases hc
 ·simp only[av] at hc;obtain⟨hd,hn⟩:=dM hc.1;have hc:=hc.2;split at hc
  ·rename_i ho;split at hc;·rename_i places hp;simp only[av] at hc;obtain⟨i,v,i1,i2,i3⟩:=Ot hc.1;exact(afM (i:=i) h ho (agk hp i1 i2) i3 hd hn hc.2 hK).step _
   ·cases hc
  ·cases hc
 ·simp only[av] at hc;obtain⟨hd,hc⟩:=hc
  have hd:o.dst=none:=by
   split at hd;·assumption
   ·cases hd
  split at hc;·rename_i ho;simp only[av,bx] at hc;obtain⟨⟨⟨h1,h2⟩,h3⟩,h4⟩:=hc;exact(agc h ho (tw h1) h2 hd h3 h4 hK).step
  ·cases hc
 ·simp only[av] at hc;obtain⟨hd,hn⟩:=dM hc.1;have hc:=hc.2;split at hc
  ·rename_i as ts ho;split at hc
   ·rename_i x' y' ty ty' has hts;split at hc;·rename_i el EF hel acS;simp only[av,bx] at hc;obtain⟨⟨⟨⟨h1,h2⟩,h3⟩,h4⟩,h5⟩:=hc;obtain⟨i,v,i1,i2,i3,i4,i5⟩:=akY h1;rw[HP has,HP hts] at ho;exact(afH h ho (oO hel) (oO acS) i1 i4 i2 i3 h2 h3 i5 hd hn h4 h5 hK).step
    ·cases hc
   ·cases hc
  ·cases hc
 ·simp only[av] at hc;obtain⟨hd,hc⟩:=hc;obtain⟨hd,hn⟩:=JH hd;subst hd;split at hc;·rename_i f' as' ts ho;simp only[av,ey] at hc;obtain⟨⟨rfl,h2⟩,h3⟩:=hc;obtain⟨fn,f1,f2,f3⟩:=JV h2;exact .inr (afO h ho f1 f2 f3 hn h3 hK)
  ·cases hc
 ·simp only[av] at hc;obtain⟨hd,hc⟩:=hc;obtain⟨hd,hn⟩:=JH hd;subst hd;split at hc;·rename_i x' as' ts ho;simp only[av] at hc;exact .inr (afQ h ho hc.1 hn hc.2 hK)
  ·cases hc
 ·simp only[av] at hc;obtain⟨hd,hc⟩:=hc
  have hd:o.dst=none:=by
   split at hd;·assumption
   ·cases hd
  split at hc
  ·rename_i as ts ho;split at hc
   ·rename_i x' ty has hts;split at hc;·rename_i el hel;simp only[av,bx] at hc;obtain⟨⟨⟨h1,h2⟩,h3⟩,h4⟩:=hc;obtain⟨i,v,i1,i2,i3⟩:=Ot h1;rw[zH has,zH hts] at ho;exact(afS h ho (oO hel) i1 i2 i3 h2 h3 hd h4 hK).step
    ·cases hc
   ·cases hc
  ·cases hc
 ·simp only[av] at hc;obtain⟨hd,hc⟩:=hc;obtain⟨hd,hn⟩:=JH hd;subst hd;split at hc
  ·rename_i f' as' ts ho;simp only[av,ey] at hc;obtain⟨⟨rfl,h2⟩,h3⟩:=hc;obtain⟨fn,f1,f2,f3⟩:=JV h2;split at h3;·rename_i x' l' hl;simp only[av] at h3;exact .inr (afP h ho hl f1 f2 f3 hn h3.1.1 h3.1.2 h3.2 hK)
   ·cases h3
  ·cases hc
 ·cases hc
def Av(P:Program)(nt:Nat)(o:Oper)(x:cA):Bool:=bif zk x then Ew P nt o x else Js P nt o x
def PE(h:St c G zl s a w){x:cA}(hc:Av P c.nt o x=true)(hK:aR P x s K):Step P c o a w K (uk x):=by
 unfold Av at hc;cases hr:zk x with
 |true=>rw[hr] at hc;exact(Jr h hc hK).quiet.step _
 |false=>rw[hr] at hc;exact YP h hc hK
end
end M
namespace M
open Go Go.RowKit
variable [Bs]
section
variable {P:Program}{c:Ctx}{G:Nat->C}{zl:Nat->Nat->Prop}{s s':ag}{a:Act}{w:World}{K:ag->Prop}{ops:Array Oper}
def St.congr(h:St c G zl s a w)(he:∀t,get s t=get s' t):St c G zl s' a w:=
 {h with inv:={h.inv with er:=λt=>(h.inv.er t).trans (he t)}}
def qW(P:Program)(nt:Nat)(ops:Array Oper)(i:Nat)(g:M.G):Bool:=match ops[i]? with
 |some o=>(match o.guard,g.g with
  |none,none=>true
  |some (j,b),some (t,b')=>b==b' && decide (t<base) && (match ops[j]? with|some oj=>decide (oj.dst=some t)|none=>false)
  |_,_=>false) && decide (o.dst=g.o.dst) && (match g.o.dst with|some d=>decide (d<nt)|none=>true) && Av P nt o g.o
 |none=>false
def w6(c:Ctx)(K:ag->Prop)(a:Act)(w:World):Prop:=∃G zl s,K s/\St c G zl s a w
def Vc(h:St c G zl s a w){t j:Nat}{v:Bool}(hv:get s t=.bool v)(ht:t<base){oj:Oper}(hj:ops[j]?=some oj)(hd:oj.dst=some t):yielded ops a.tmps j=some v:=by
 have hG:=h.inv.er t;rw[hv] at hG;have hc:=td hG;have:=h.val t ht;rw[hc,C.val] at this;unfold yielded;simp only[hj,jC,hd];rw[wU] at this;cases ht:a.tmps[t]? with
 |none=>rw[ht] at this;simp[undef] at this
 |some u=>rw[ht] at this;simp only[wQ] at this;rw[<-this]
def St.HT(h:St c G zl s a w)(d:Option Nat)(hn:∀n,d=some n->n<c.nt):∃G',St c G' zl (fY d (.ak []) s) (a.put d undef) w:=by
 cases d with
 |none=>exact⟨G,h⟩
 |some n=>exact h.put (x:=.ak 0 λ_=>.dead undef) (hn n rfl) ⟨λj hj=>(by omega),λj hj=>(by omega)⟩ (λ_ _ b k ⟨j,hj,_⟩=>(by omega)) (λb k ⟨j,hj,_⟩=>(by omega)) (λj hj=>(by omega)) (λb k ⟨j,hj,_⟩=>(by omega))
def E3{t:Nat}{v:Bool}(hv:get s t=.bool v):∀u,get s u=get ((t,.bool v)::s) u:=λu=>by
 rw[xK];split;·rename_i e;subst e;exact hv
 ·rfl
def Vd(h:St c G zl s a w){t j:Nat}(hv:get s t=.ak [])(ht:t<base){oj:Oper}(hj:ops[j]?=some oj)(hd:oj.dst=some t):yielded ops a.tmps j=none:=by
 have hG:=h.inv.er t;rw[hv] at hG;have hval:=h.val t ht
 have:(G t).val=.tuple #[]:=by
  cases hc:G t with
  |ak n f=>rw[hc] at hG;simp only[C.er,X.ak.injEq,List.map_eq_nil_iff,List.range_eq_nil] at hG;subst hG;rfl
  |_=>rw[hc] at hG;simp[C.er] at hG
 rw[this] at hval;unfold yielded;simp only[hj,jC,hd];rw[wU] at hval;cases ht:a.tmps[t]? with
 |none=>rfl
 |some u=>rw[ht] at hval;simp only[wQ] at hval;rw[<-hval]
def PC{i:Nat}{g:M.G}(h:St c G zl s a w)(hc:qW P c.nt ops i g=true)(hK:qS P g s K)(Q:Exit->Act->World->Prop):
  wpOp P ops Q i (λa' w'=>Rel (uk g.o) w w'/\w6 c K a' w') a w:=by
 unfold qW at hc;split at hc
 ·rename_i o ho;simp only[av,bx] at hc;obtain⟨⟨⟨hg,hd⟩,hn⟩,hop⟩:=hc;unfold wpOp;simp only[ho];obtain⟨gg,go⟩:=g;split at hg
  ·rename_i h1 h2;subst h2;have hw:Region.wanted o (yielded ops a.tmps)=true:=by simp[Region.wanted,h1]
   rw[aq hw];exact .inl ((PE h hop hK).wp Q)
  ·rename_i j b t b' h1 h2;subst h2;simp only[av,ey,bx] at hg;obtain⟨⟨rfl,ht⟩,hj⟩:=hg;split at hj
   ·rename_i oj gH;have hj:=zR hj;simp only[qS] at hK;split at hK
    ·rename_i v hv;have hy:=Vc h hv ht gH hj;obtain⟨k1,k2⟩:=hK;have tG:Region.wanted o (yielded ops a.tmps)=(v==b):=by simp only[Region.wanted,h1,hy];cases v<;>cases b<;>rfl
     rw[tG];by_cases lT:v=b;·subst lT;rw[aq (by simp)];exact .inl ((PE (h.congr (E3 hv)) hop (k1 rfl)).wp Q)
     ·have hnb:v= !b:=by cases v<;>cases b<;>first|rfl|exact absurd rfl lT
      rw[ay (by simpa using lT)];subst hnb;obtain⟨G',h'⟩:=(h.congr (E3 hv)).HT o.dst (λn kZ=>by rw[hd] at kZ;simp only[kZ] at hn;simpa using hn)
      rw[hd] at h'⊢;exact⟨Rel.refl _ _,G',zl,_,k2 rfl,h'⟩
    ·rename_i hv;have hy:=Vd h hv ht gH hj;have tG:Region.wanted o (yielded ops a.tmps)=false:=by simp only[Region.wanted,h1,hy];rfl
     rw[tG,ay (by simp)];obtain⟨G',h'⟩:=h.HT o.dst (λn kZ=>by rw[hd] at kZ;simp only[kZ] at hn;simpa using hn)
     rw[hd] at h'⊢;exact⟨Rel.refl _ _,G',zl,_,hK,h'⟩
    ·exact hK.elim
   ·cases hj
  ·cases hg
 ·cases hc
def YO{i:Nat}{g:M.G}(h:St c G zl s a w)(hc:qW P c.nt ops i g=true)(hr:zk g.o=true)(hK:qS P g s K):
  ∃o v,ops[i]?=some o/\o8 P ops o v a w/\w6 c K (a.put o.dst v) w:=by
 unfold qW at hc;split at hc
 ·rename_i o ho;simp only[av,bx] at hc;obtain⟨⟨⟨hg,hd⟩,hn⟩,hop⟩:=hc;obtain⟨gg,go⟩:=g;unfold Av at hop;simp only at hr hop;rw[hr] at hop;simp only[mH] at hop;refine⟨o,?_⟩;split at hg
  ·rename_i h1 h2;subst h2;have hw:Region.wanted o (yielded ops a.tmps)=true:=by simp[Region.wanted,h1]
   obtain⟨v,hv,G',aH,s',k1,k2⟩:=Jr h hop hK;exact⟨v,ho,.inl ⟨hw,hv⟩,G',aH,s',k1,k2⟩
  ·rename_i j b t b' h1 h2;subst h2;simp only[av,ey,bx] at hg;obtain⟨⟨rfl,ht⟩,hj⟩:=hg;split at hj
   ·rename_i oj gH;have hj:=zR hj;simp only[qS] at hK;split at hK
    ·rename_i v hv;have hy:=Vc h hv ht gH hj;obtain⟨k1,k2⟩:=hK;have tG:Region.wanted o (yielded ops a.tmps)=(v==b):=by simp only[Region.wanted,h1,hy];cases v<;>cases b<;>rfl
     by_cases lT:v=b;·subst lT;obtain⟨u,hu,G',aH,s',k3,k4⟩:=Jr (h.congr (E3 hv)) hop (k1 rfl);exact⟨u,ho,.inl ⟨by rw[tG];simp,hu⟩,G',aH,s',k3,k4⟩
     ·have hnb:v= !b:=by cases v<;>cases b<;>first|rfl|exact absurd rfl lT
      subst hnb;obtain⟨G',h'⟩:=(h.congr (E3 hv)).HT o.dst (λn kZ=>by rw[hd] at kZ;simp only[kZ] at hn;simpa using hn)
      refine⟨undef,ho,.inr ⟨by rw[tG];simp,rfl⟩,G',zl,_,k2 rfl,?_⟩;rw[hd] at h'⊢;exact h'
    ·rename_i hv;have hy:=Vd h hv ht gH hj;have tG:Region.wanted o (yielded ops a.tmps)=false:=by simp only[Region.wanted,h1,hy];rfl
     obtain⟨G',h'⟩:=h.HT o.dst (λn kZ=>by rw[hd] at kZ;simp only[kZ] at hn;simpa using hn)
     refine⟨undef,ho,.inr ⟨tG,rfl⟩,G',zl,_,hK,?_⟩;rw[hd] at h'⊢;exact h'
    ·exact hK.elim
   ·cases hj
  ·cases hg
 ·cases hc
def jX(c:Ctx)(Q:Ex->ag->Prop):Exit->Act->World->Prop
 |.normal,a,w=>w6 c (Q .normal) a w
 |.exit id,a,w=>w6 c (Q (.exit id)) a w
 |.ret,a,w=>w6 c (Q .ret) a w
 |_,_,_=>False
def sZ(P:Program)(nt:Nat)(ops:Array Oper):Nat->List M.G->Bool
 |k,[]=>decide (k=ops.size)
 |k,g::l=>qW P nt ops k g && sZ P nt ops (k+1) l
def Ta{Q:Ex->ag->Prop}:∀(l:List M.G) (k:Nat) {G:Nat->C} {zl:Nat->Nat->Prop} {s:ag} {a:Act} {w:World},sZ P c.nt ops k l=true->St c G zl s a w->kJ P l s Q->wpOps P ops (jX c Q) (List.range' k l.length) a w
 |[],k,G,zl,s,a,w,hc,h,hK=>⟨G,zl,s,hK,h⟩
 |g::l,k,G,zl,s,a,w,hc,h,hK=>by simp only[sZ,av] at hc;rw[di,List.range'_succ,wpOps_cons];refine wpOp_mono (λa' w' ⟨_,G',aH,s',k1,k2⟩=>?_) (PC h hc.1 hK (jX c Q));exact Ta l (k+1) hc.2 k2 k1
def PD:∀(l:List M.G) (k:Nat),sZ P c.nt ops k l=true->k+l.length=ops.size
 |[],k,h=>by simpa [sZ] using h
 |g::l,k,h=>by simp only[sZ,av] at h;have:=PD l (k+1) h.2;simp only[di];omega
def agD{Q:Ex->ag->Prop}{l:List M.G}{id:Nat}(hc:sZ P c.nt ops 0 l=true)(h:St c G zl s a w)(hK:kJ P l s Q):(Code.region id ops false).wp P (jX c Q) a w:=by refine wp_region ?_;have hl:=PD l 0 hc;rw[List.range_eq_range',<-hl,mF];exact Ta l 0 hc h hK
def Q6(LS:List Nat)(s:ag)(t:Nat):∀ks:List Nat,get (ks.map λk=>(k,(get s k).only LS)) t=if ks.contains t then (get s t).only LS else .dead
 |[]=>rfl
 |k::ks=>by
  simp only[bC,get];by_cases h:k=t;·subst h;simp
  ·have h1:(k==t)=false:=by simpa using h
   have h2:(k::ks).contains t=ks.contains t:=by
    simp only[List.contains_cons];have:(t==k)=false:=by simpa using λe=>h e.symm
    rw[this,Bool.false_or]
   rw[h1,h2,sH];exact Q6 LS s t ks
def St.keep(h:St c G zl s a w)(ks:List Nat):∃G',St c G' zl (M.keep ks s) a w:=by
 let G':Nat->C:=λt=>if ks.contains t then (G t).az (C.others ks) else .dead (G t).val
 have hin:∀t,ks.contains t=true->G' t=(G t).az (C.others ks):=λt ht=>aq ht;have hout:∀t,ks.contains t=false->G' t=.dead (G t).val:=λt ht=>ay (by rw[ht];simp)
 have hv:∀t,(G' t).val=(G t).val:=λt=>by
  cases ht:ks.contains t with
  |true=>rw[hin t ht,C.js]
  |false=>rw[hout t ht];rfl
 have bZ:∀t b k,(G' t).fp b k->(G t).fp b k:=λt b k hf=>by
  cases ht:ks.contains t with
  |true=>rw[hin t ht,C.cP] at hf;exact hf
  |false=>rw[hout t ht] at hf;exact hf.elim
 refine⟨G',h.move ⟨λt=>?_,λt=>?_,λt u hne b k hf hf'=>h.inv.sep t u hne b k (bZ t b k hf) (bZ u b k hf'),λt b k hf=>h.inv.fz t b k (bZ t b k hf),λt=>?_,h.inv.cC⟩ hv (Ext.refl (λ_ _=>False) w) (λ_ _ hs=>hs.elim) (λt b k hf=>.inl ⟨t,bZ t b k hf⟩)⟩
 ·unfold M.keep;rw[Q6];cases ht:ks.contains t with
  |true=>rw[hin t ht,C.C7,h.inv.er];rfl
  |false=>rw[hout t ht];rfl
 ·cases ht:ks.contains t with
  |true=>rw[hin t ht];exact C.nB _ _ (h.inv.ok t)
  |false=>rw[hout t ht];trivial
 ·cases ht:ks.contains t with
  |true=>
   rw[hin t ht];refine C.mh (C.others ks) (λs' q y hk hs=>?_) _ (C.gK _ _) (C.oz _ _ (h.inv.rf t));have hs':ks.contains s'=true:=by simpa [C.others] using hk
   rw[hin s' hs'];rcases C.self y _ q hs with ⟨z,hz,hs2⟩|hno;·exact .inl ⟨_,hz.off _,C.jr _ q _ _ (h.inv.ok s') hs2⟩
   ·exact .inr hno
  |false=>rw[hout t ht];trivial
def EK:cA->Bool
 |.q8 _ _ _=>true
 |_=>false
def Zo{ev:Operand->Value}{o:Oper}{ty:TypeId}{fi:Nat}{x':Operand}{fs:Array Field}{f:Field}{i:TypeInfo}(ho:o.op=.fieldAddr ty x' fi)(hu:P.underlying ty=some (.struct fs))(hf:fs[fi]?=some f)(hi:P.info? f.type=some i)(hi0:i.size≠0){v:Value}{w:World}(h:(execOp ev o).run P w=.ok (.value v) w)(w':World):(execOp ev o).run P w'=.ok (.value v) w':=by
 cases hv:ev x' with
 |pointer p=>
  cases p with
  |none=>simp[execOp,ho,hv,Instr.fieldAt,Instr.sureAddr,run_underlying hu,hf] at h
  |some a=>simp[execOp,ho,hv,Instr.fieldAt,Instr.sureAddr,run_underlying hu,hf,fieldPlace,Go.sizeOf,typeInfo,hi,hi0] at h⊢;exact h
 |_=>simp[execOp,ho,hv,Instr.fieldAt,Instr.sureAddr,run_underlying hu,hf] at h
def YN{i:Nat}{g:M.G}(hc:qW P c.nt ops i g=true)(he:EK g.o=true){o:Oper}{v:Value}(ho:ops[i]?=some o)(hl:o8 P ops o v a w):sM P ops o v a:=by
 rcases hl with ⟨h1,h2⟩|h
 ·refine .inl ⟨h1,?_⟩;have h3:=h2 w (Ext.refl _ _);unfold qW at hc;rw[ho] at hc;simp only[av] at hc;obtain⟨_,hop⟩:=hc;obtain⟨gg,go⟩:=g;cases go<;>simp only[EK] at he<;>try (cases he)
  unfold Av at hop;simp only[zk,mH] at hop;unfold Ew at hop;simp only[av] at hop;have hc:=hop.2;split at hc
  ·rename_i hfo;split at hc
   ·rename_i fs hfs;split at hc;·rename_i f hf;simp only[av,bx,o6] at hc;obtain⟨⟨⟨h5,h6⟩,h7⟩,h8⟩:=hc;obtain⟨i,hi⟩:=wR.1 h7;exact λw'=>Zo hfo hfs hf hi (λh0=>by simp[lN,hi,h0] at h6) h3 w'
    ·cases hc
   ·cases hc
  ·cases hc
 ·exact .inr h
def DT.kT:DT->List Nat
 |.nil _=>[]
 |.step i _ _=>[i]
 |.alt a b=>a.kT++b.kT
 |.kp _ t=>t.kT
def DT.quiet:DT->Nat->Bool
 |.nil _,_=>true
 |.step i g t,j=>(if i=j then uk g.o else true) && t.quiet j
 |.alt a b,j=>a.quiet j && b.quiet j
 |.kp _ t,j=>t.quiet j
def JY(ops:Array Oper)(q:Nat->Bool)(t:Nat->Nat->Bool)(listed:Array Bool)(e:Bool)(i:Nat):Bool:=match ops[i]? with
 | some oi => (List.range ops.size).all λj => j == i || listed.getD j true || t j i || ((e || q j) && (match ops[j]? with
  |some oj=>oi.apart ops oj
  |none=>true))
 |none=>false
def gG(P:Program)(nt:Nat)(ops:Array Oper)(q:Nat->Bool)(bf:Nat->Nat->Bool):DT->Nat->Array Bool->Bool->Bool
 |.nil _,_,listed,alt=> !alt && decide (Region.ready .any ops listed=[])
 |.step i g t,fuel,listed,alt=>(match fuel with
  |0=>false
  |fuel+1=>qW P nt ops i g && (!q i||uk g.o) && (alt||decide (Region.ready .any ops listed=[i])||(zk g.o && (Region.ready .any ops listed).contains i && JY ops q bf listed (EK g.o) i)) && gG P nt ops q bf t fuel (listed.setIfInBounds i true) false)
 |.alt a b,fuel,listed,alt=>(alt||decide (Region.ready .any ops listed=a.kT++b.kT)) && gG P nt ops q bf a fuel listed true && gG P nt ops q bf b fuel listed true
 |.kp _ t,fuel,listed,alt=>gG P nt ops q bf t fuel listed alt
def Q0{q:Nat->Bool}{t:Nat->Nat->Bool}{listed:Array Bool}{i:Nat}{oi:Oper}{e:Bool}(hi:ops[i]?=some oi)(h:JY ops q t listed e i=true)(j:Nat)(oj:Oper)(hj:ops[j]?=some oj)(hne:j≠i)(hun:listed.getD j true=false)(hno:t j i=false):oi.apart ops oj=true/\(e=true\/q j=true):=by simp only[JY,hi,sI,oX] at h;have h1:=h j (gC.1 hj).1;simp only[hj,qH,ey,hne,false_or,hun,iP,hno,av] at h1;exact⟨h1.2,h1.1⟩
def wA{q:Nat->Bool}{bf:Nat->Nat->Bool}(iJ:xu ops bf=true)(hns:Region.noSelect ops=true){Q:Ex->ag->Prop}:∀(t:DT) (fuel:Nat) (listed:Array Bool) {G:Nat->C} {zl:Nat->Nat->Prop} {s:ag} {a:Act} {w:World},Down ops listed->St c G zl s a w->iG P t s Q->
  (gG P c.nt ops q bf t fuel listed false=true->wpAnyQ P ops q (jX c Q) fuel listed a w)/\
  ((∀i∈t.kT,i∈Region.ready .any ops listed)->gG P c.nt ops q bf t fuel listed true=true->∃f,fuel=f+1/\∀i∈t.kT,wpOp P ops (jX c Q) i (λa' w'=>Rel (q i) w w'/\wpAnyQ P ops q (jX c Q) f (listed.setIfInBounds i true) a' w') a w)
 |.nil ks,fuel,listed,G,zl,s,a,w,hdn,h,hK=>by
  obtain⟨G',h'⟩:=h.keep ks;constructor
  ·intro hc;simp only[gG,Bool.not_false,Bool.true_and,bx] at hc;cases fuel with
   |zero=>exact⟨hc,G',zl,_,hK,h'⟩
   |succ f=>exact⟨λ_=>⟨G',zl,_,hK,h'⟩,by rw[hc];intro i hi;cases hi⟩
  ·intro _ hc;simp[gG] at hc
 |.step i g t,fuel,listed,G,zl,s,a,w,hdn,h,hK=>by
  cases fuel with
  |zero=>exact⟨λhc=>by simp[gG] at hc,λ_ hc=>by simp[gG] at hc⟩
  |succ f=>
   have Bk:i∈Region.ready .any ops listed->Down ops (listed.setIfInBounds i true):=λhr=>by obtain⟨_,o,ho,hall⟩:=mem_ready.1 hr;exact hdn.set ho hall
   have one:i∈Region.ready .any ops listed->gG P c.nt ops q bf t f (listed.setIfInBounds i true) false=true->qW P c.nt ops i g=true->(q i=true->uk g.o=true)->
     wpOp P ops (jX c Q) i (λa' w'=>Rel (q i) w w'/\wpAnyQ P ops q (jX c Q) f (listed.setIfInBounds i true) a' w') a w:=λxS ht hg hq=>
    wpOp_mono (λa' w' ⟨hr,G',aH,s',k1,k2⟩=>⟨λhqi=>hr (hq hqi),(wA iJ hns t f _ (Bk xS) k2 k1).1 ht⟩) (PC h hg hK (jX c Q))
   constructor
   ·intro hc;have hc0:=hc;simp only[gG,av,qH,bx,iP,false_or] at hc;obtain⟨⟨⟨hg,hq⟩,hr⟩,ht⟩:=hc;have pM:q i=true->uk g.o=true:=λhqi=>by rw[hqi] at hq;simpa using hq
    rcases hr with hr|⟨⟨hr,hrd⟩,nZ⟩;·refine⟨λh0=>(by rw[hr] at h0;cases h0),λj hj=>?_⟩;rw[hr,fQ] at hj;subst hj;exact one (by rw[hr];exact fQ.2 rfl) ht hg pM
    ·obtain⟨o,v,ho,hl,G',aH,s',k1,k2⟩:=YO h hg hr hK;have xS:i∈Region.ready .any ops listed:=by simpa using hrd
     cases he:EK g.o with
     |true=>exact aku ho (Region.noSelect_spec hns) (λ_ _ _ hh=>hh.elim) iJ f listed a w hdn (λj oj hj hne hun hno=>(Q0 ho nZ j oj hj hne hun hno).1) xS (YN hg he ho hl) ((wA iJ hns t f _ (Bk xS) k2 k1).1 ht)
     |false=>rw[he] at nZ;exact wpAnyQ_first ho (Region.noSelect_spec hns) (λ_ _ _ hh=>hh.elim) iJ f listed a w hdn (λj oj hj hne hun hno=>(Q0 ho nZ j oj hj hne hun hno).imp id λh=>h.resolve_left (by simp)) xS hl ((wA iJ hns t f _ (Bk xS) k2 k1).1 ht)
   ·intro Kr hc;have hc0:=hc;simp only[gG,av,qH,bx,true_or] at hc;obtain⟨⟨⟨hg,hq⟩,_⟩,ht⟩:=hc;have pM:q i=true->uk g.o=true:=λhqi=>by rw[hqi] at hq;simpa using hq
    refine⟨f,rfl,λj hj=>?_⟩;rw[DT.kT,fQ] at hj;subst hj;exact one (Kr j (fQ.2 rfl)) ht hg pM
 |.alt t1 t2,fuel,listed,G,zl,s,a,w,hdn,h,hK=>by
  have both:(∀i∈t1.kT++t2.kT,i∈Region.ready .any ops listed)->gG P c.nt ops q bf t1 fuel listed true=true->gG P c.nt ops q bf t2 fuel listed true=true->∃f,fuel=f+1/\∀i∈t1.kT++t2.kT,wpOp P ops (jX c Q) i (λa' w'=>Rel (q i) w w'/\wpAnyQ P ops q (jX c Q) f (listed.setIfInBounds i true) a' w') a w:=λhh h1 h2=>by
   obtain⟨f,hf,i1⟩:=(wA iJ hns t1 fuel listed hdn h hK.1).2 (λi hi=>hh i (NH _ hi)) h1;obtain⟨f',hf',i2⟩:=(wA iJ hns t2 fuel listed hdn h hK.2).2 (λi hi=>hh i (NI _ hi)) h2;have:f'=f:=by omega
   subst this;exact⟨f',hf,λi hi=>(fE.1 hi).elim (i1 i) (i2 i)⟩
  constructor
  ·intro hc;simp only[gG,av,qH,bx,iP,false_or] at hc;obtain⟨⟨hr,h1⟩,h2⟩:=hc;obtain⟨f,rfl,hi⟩:=both (λi hi=>by rw[hr];exact hi) h1 h2;refine⟨λh0=>?_,λi hi'=>hi i (by rw[<-hr];exact hi')⟩;exfalso;rw[h0] at hr
   have ne:∀{t:DT},gG P c.nt ops q bf t (f+1) listed true=true->t.kT≠[]:=by
    intro t;induction t with
    |nil=>intro hh;simp[gG] at hh
    |step i g t _=>intro _ hh;cases hh
    |alt a b iV _=>intro hh he;simp only[gG,av] at hh;rw[DT.kT,Vn] at he;exact iV hh.1.2 he.1
    |kp ks t ih=>exact ih
   have:=(Vn.1 hr.symm).1;exact ne h1 this
  ·intro Kr hc;simp only[gG,av,qH,bx,true_or,uB] at hc;exact both Kr hc.1 hc.2
 |.kp ks t,fuel,listed,G,zl,s,a,w,hdn,h,hK=>by obtain⟨G',h'⟩:=h.keep ks;exact wA iJ hns t fuel listed hdn h' hK
def waits(ops:Array Oper)(j i:Nat):Bool:=((Region.before ops).getD j 0).testBit i
def Jq(P:Program)(nt:Nat)(ops:Array Oper)(t:DT):Bool:=P.follows .mixedOrders && Region.noSelect ops && xu ops (waits ops) && gG P nt ops t.quiet (waits ops) t ops.size (Array.replicate ops.size false) false
def Y5{Q:Ex->ag->Prop}{t:DT}{id:Nat}(hc:Jq P c.nt ops t=true)(h:St c G zl s a w)(hK:iG P t s Q):(Code.region id ops true).wp P (jX c Q) a w:=by
 simp only[Jq,av] at hc;obtain⟨⟨⟨hm,hns⟩,iJ⟩,hc⟩:=hc;refine wp_region_any hm ?_;have hE:Ext (λ_ _=>False) w w.drew:=Ext.drew w _;have h':St c G zl s a w.drew:=h.move (h.inv.world hE λ_ _ hs=>hs.elim) (λ_=>rfl) hE (λ_ _ hs=>hs.elim) (λt b k hf=>.inl ⟨t,hf⟩);have hdn:Down ops (Array.replicate ops.size false):=λk ok _ hl=>by exfalso;simp only[wU,Vx] at hl;split at hl<;>simp at hl
 exact((wA iJ hns t ops.size _ hdn h' hK).1 hc).any
end
end M
namespace M
open Go Go.RowKit
variable [Bs]
section
variable {P:Program}{c:Ctx}{G:Nat->C}{zl:Nat->Nat->Prop}{s s':ag}{a:Act}{w:World}
def ia(P:Program)(nt:Nat):A->Code->Bool
 |.skip,.skip=>true
 |.ret,.ret=>true
 |.exit id,.exit id'=>decide (id=id')
 |.ops l,.region _ ops false=>sZ P nt ops 0 l
 |.draw t,.region _ ops true=>Jq P nt ops t
 |.seq a b,.seq x y=>ia P nt a x && ia P nt b y
 |.cond c a b,.cond c' x y=>aO c' c && ia P nt a x && ia P nt b y
 |.block id b,.block id' x=>decide (id=id') && ia P nt b x
 |.loop b,.loop x=>ia P nt b x
 |.pk _ b,x=>ia P nt b x
 |_,_=>false
def least(p:Nat->Prop):(∃n,p n)->∃m,p m/\∀k,p k->m<=k:=by
 rintro ⟨n,hn⟩;induction n using Nat.strongRecOn with
 |_ n ih=>
  by_cases h:∃k,k<n/\p k;·obtain⟨k,hk,hp⟩:=h;exact ih k hk hp
  ·exact⟨n,hn,λk hk=>by
    rcases gb k n with hlt|hge;·exact(h ⟨k,hlt,hk⟩).elim
    ·exact hge⟩
def YS:∀(t:A) (code:Code) {Q:Ex->ag->Prop} {G:Nat->C} {zl:Nat->Nat->Prop} {s:ag} {a:Act} {w:World},ia P c.nt t code=true->St c G zl s a w->eV P t s Q->code.wp P (jX c Q) a w:=by
 intro t;induction t with
 |skip=>intro code Q G zl s a w hc h hK;unfold ia at hc;cases code<;>simp at hc;exact wp_skip ⟨G,zl,s,hK,h⟩
 |ret=>intro code Q G zl s a w hc h hK;unfold ia at hc;cases code<;>simp at hc;exact wp_ret ⟨G,zl,s,hK,h⟩
 |exit id=>intro code Q G zl s a w hc h hK;unfold ia at hc;cases code<;>simp at hc;subst hc;exact wp_exit ⟨G,zl,s,hK,h⟩
 |ops l=>
  intro code Q G zl s a w hc h hK;unfold ia at hc;cases code with
  |region id os d=>
   cases d with
   |false=>exact agD hc h hK
   |true=>simp at hc
  |_=>simp at hc
 |draw t=>
  intro code Q G zl s a w hc h hK;unfold ia at hc;cases code with
  |region id os d=>
   cases d with
   |true=>exact Y5 hc h hK
   |false=>simp at hc
  |_=>simp at hc
 |seq x y LD LF=>
  intro code Q G zl s a w hc h hK;unfold ia at hc;cases code with
  |seq x' y'=>
   simp only[av] at hc;refine wp_seq (wp_mono (LD x' hc.1 h hK) λe a w he=>?_);cases e with
   |normal=>obtain⟨G,zl,s,k,h⟩:=he;exact LF y' hc.2 h k
   |exit id=>exact he
   |ret=>exact he
   |goto l=>exact he.elim
   |panic ch=>exact he.elim
   |outgrown=>exact he.elim
  |_=>simp at hc
 |cond cc x y LD LF=>
  intro code Q G zl s a w hc h hK;unfold ia at hc;cases code with
  |cond c' x' y'=>
   simp only[av] at hc;obtain⟨⟨h1,h2⟩,h3⟩:=hc;obtain⟨d,e1,e2,e3⟩:=cy h h1;simp only[eV] at hK;split at hK;·rename_i b hb;rw[<-e1] at hb;have:=td hb;subst this;exact wp_cond_split (by rw[<-e2];rfl) (λht=>LD x' h2 h (hK.1 ht)) (λhf=>LF y' h3 h (hK.2 hf))
   ·exact hK.elim
  |_=>simp at hc
 |block id b ih=>
  intro code Q G zl s a w hc h hK;unfold ia at hc;cases code with
  |block id' x=>
   simp only[av,bx] at hc;obtain⟨rfl,hc⟩:=hc;refine wp_block (wp_mono (ih x hc h hK) λe a w he=>?_);cases e with
   |normal=>exact he
   |exit i=>
    obtain⟨G,zl,s,k,h⟩:=he;simp only at k;show if i=id then jX c Q .normal a w else jX c Q (.exit i) a w
    by_cases hi:i=id;·subst hi;rw[aq rfl];simp only[beq_self_eq_true,mH] at k;exact⟨G,zl,s,k,h⟩
    ·rw[ay hi];have:(i==id)=false:=by simpa using hi
     rw[this] at k;exact⟨G,zl,s,k,h⟩
   |ret=>exact he
   |goto l=>exact he.elim
   |panic ch=>exact he.elim
   |outgrown=>exact he.elim
  |_=>simp at hc
 |loop b ih=>
  intro code Q G zl s a w hc h hK;unfold ia at hc;cases code with
  |loop x=>
   obtain⟨I,⟨n,hn⟩,adG⟩:=hK;let J:Nat->Act->World->Prop:=λn a w=>w6 c (I n) a w;have Kv:=λa w=>least (λn=>J n a w);let μ:Act->World->Nat:=λa w=>by classical exact if hh:∃n,J n a w then Classical.choose (Kv a w hh) else 0
   have hμ:∀a w,(∃n,J n a w)->J (μ a w) a w/\∀k,J k a w->μ a w<=k:=λa w hh=>by have hspec:=DQ (Kv a w hh);have:μ a w=Classical.choose (Kv a w hh):=oZ hh;rw[this];exact hspec
   refine wp_loop (λa w=>∃n,J n a w) μ ?_ λa w hI=>?_;·exact⟨n,G,zl,s,hn,h⟩
   ·obtain⟨⟨G1,uD,s1,k1,h1⟩,_⟩:=hμ a w hI;refine wp_mono (ih x hc h1 (adG _ s1 k1)) λe a' w' he=>?_;cases e with
    |normal=>obtain⟨G2,uE,s2,⟨m,hm,hI2⟩,h2⟩:=he;have hJ:J m a' w':=⟨G2,uE,s2,hI2,h2⟩;exact⟨⟨m,hJ⟩,Nat.lt_of_le_of_lt ((hμ a' w' ⟨m,hJ⟩).2 m hJ) hm⟩
    |exit id=>exact he
    |ret=>exact he
    |goto l=>exact he.elim
    |panic ch=>exact he.elim
    |outgrown=>exact he.elim
  |_=>simp at hc
 |pk ks b ih=>
  intro code Q G zl s a w hc h hK;have hc:ia P c.nt b code=true:=by cases b<;>cases code<;>first|exact hc|(rename_i d;cases d<;>exact hc)
  refine wp_mono (ih code hc h hK) λe a w he=>?_;cases e with
  |normal=>obtain⟨G,zl,s,k,h⟩:=he;obtain⟨G',h'⟩:=h.keep ks;exact⟨G',zl,_,k,h'⟩
  |exit id=>exact he
  |ret=>exact he
  |goto l=>exact he.elim
  |panic ch=>exact he.elim
  |outgrown=>exact he.elim
end
end M
namespace M
open Go Go.RowKit
variable [Bs]
def Dm:Nat->List X->ag
 |_,[]=>[]
 |i,x::l=>(i,alias (base+i) [] x)::Dm (i+1) l
def Dn:Nat->List X->ag
 |_,[]=>[]
 |i,x::l=>(base+i,x)::Dn (i+1) l
def nR(xs:List X):ag:=Dm 0 xs++Dn 0 xs
def X.nq:X->Bool
 |.ak _=>true
 |_=>false
def post(x:X):X:=bif x.clean then x else .dead
inductive RV where
 |t (n:Nat)
 |c (n sz:Nat) (agg:Bool) (ty:TypeId)
def dW:List RV->ag->List X×ag
 |[],s=>([],s)
 |.t n::l,s=>((take .mv (ax s (.t n)) s).1::(dW l (take .mv (ax s (.t n)) s).2).1,(dW l (take .mv (ax s (.t n)) s).2).2)
 |.c n sz agg _::l,s=>((match get s n with
  |.ptr .own cs=>if cs.length=sz then (bif agg then .agg (X.gI n [] cs) else (X.gI n [] cs).headD (.ak [])) else .ak []
  |_=>.ak [])::(dW l (jc n [] .dead s)).1,(dW l (jc n [] .dead s)).2)
def vZ:List X->X
 |[x]=>x
 |l=>.ak l
def r7:Nat->Nat->ag->List X
 |_,0,_=>[]
 |i,n+1,s=>post (get s (base+i))::r7 (i+1) n s
def Ends(rs:List RV)(n:Nat)(Q:X->List X->Prop):Ex->ag->Prop
 |.exit _,_=>False
 |_,s=>X.clean.cD (dW rs s).1=true/\(∀x∈(dW rs s).1,x.nq=false)/\Q (vZ (dW rs s).1) (r7 0 n (dW rs s).2)
namespace C
def uW:∀c:C,c.er.clean=true->c.bare
 |.ref _ _ _,h=>by simp[er,X.clean] at h
 |.aj _ _ _ _ _,h=>by simp[er,X.clean] at h
 |.cut _ _ _ _ _,h=>by simp[er,X.clean] at h
 |.ptr m g o n c,h=>λj hj=>uW (c j) (by simp only[er,X.clean,av] at h;exact j6.1 h.2 _ (aY.2 ⟨j,by simpa using hj,rfl⟩))
 |.agg n c,h=>λj hj=>uW (c j) (by simp only[er,X.clean] at h;exact j6.1 h _ (aY.2 ⟨j,by simpa using hj,rfl⟩))
 |.ak n c,h=>λj hj=>uW (c j) (by simp only[er,X.clean] at h;exact j6.1 h _ (aY.2 ⟨j,by simpa using hj,rfl⟩))
 |.fn f n c,h=>λj hj=>uW (c j) (by simp only[er,X.clean] at h;exact j6.1 h _ (aY.2 ⟨j,by simpa using hj,rfl⟩))
 |.dead _,_=>trivial
 |.int _ _,_=>trivial
 |.bool _,_=>trivial
 |.str _,_=>trivial
 |.row _ _ _ _ _ _,_=>trivial
variable {w:World}{zl zb:Nat->Nat->Prop}
def qX:∀c:C,c.er.clean=true->c.ok w (Zf zl zb)->c.ok w (Zf zl λ_ _=>False)
 |.ref _ _ _,h,_=>by simp[er,X.clean] at h
 |.aj _ _ _ _ _,h,_=>by simp[er,X.clean] at h
 |.cut _ _ _ _ _,h,_=>by simp[er,X.clean] at h
 |.row m sz A len cap e,h,ho=>by
  simp only[er,X.clean,av] at h;obtain⟨h1,h2,h3,h4,h5⟩:=ho;refine⟨h1,λi j hi hj=>?_,λi j hi hj=>?_,h4,h5⟩
  ·obtain⟨g,o,q1,q2,q3⟩:=h2 i j hi hj;refine⟨g,o,q1,q2,λhm=>?_⟩;cases m with
   |own=>exact(hm rfl).elim
   |sl=>exact q3 hm
   |af=>simp at h
  ·obtain⟨a1,a2,a3,a4⟩:=h3 i j hi hj;exact⟨a1,a2,a3,qX (e i j) (PG.1 h.2 _ (aY.2 ⟨i,by simpa using hi,rfl⟩) _ (aY.2 ⟨j,by simpa using hj,rfl⟩)) a4⟩
 |.ptr m g o n c,h,ho=>by
  simp only[er,X.clean,av] at h;obtain⟨h1,h2,h3,h4⟩:=ho;refine⟨λj hj=>?_,h2,λj hj=>?_,h4⟩
  ·obtain⟨a1,a2,a3⟩:=h1 j hj;refine⟨a1,λhm=>?_,a3⟩;cases m with
   |own=>exact(hm rfl).elim
   |sl=>exact a2 hm
   |af=>simp at h
  ·obtain⟨a1,a2,a3⟩:=h3 j hj;exact⟨a1,a2,qX (c j) (j6.1 h.2 _ (aY.2 ⟨j,by simpa using hj,rfl⟩)) a3⟩
 |.agg n c,h,ho=>by simp only[er,X.clean] at h;exact⟨λj hj=>⟨(ho.1 j hj).1,qX (c j) (j6.1 h _ (aY.2 ⟨j,by simpa using hj,rfl⟩)) (ho.1 j hj).2⟩,ho.2⟩
 |.ak n c,h,ho=>by simp only[er,X.clean] at h;exact⟨λj hj=>⟨(ho.1 j hj).1,qX (c j) (j6.1 h _ (aY.2 ⟨j,by simpa using hj,rfl⟩)) (ho.1 j hj).2⟩,ho.2⟩
 |.fn f n c,h,ho=>λj hj=>⟨qX (c j) (by simp only[er,X.clean] at h;exact j6.1 h _ (aY.2 ⟨j,by simpa using hj,rfl⟩)) (ho j hj).1,(ho j hj).2⟩
 |.dead _,_,_=>trivial
 |.int _ _,_,_=>trivial
 |.bool _,_,_=>trivial
 |.str _,_,h=>h
end C
def Q9(i:Nat):∀(xs:List X) (r:ag) (t:Nat),get (Dm i xs++r) t=if i<=t/\t<i+xs.length then alias (base+t) [] (xs.getD (t - i) .dead) else get r t
 |[],r,t=>by rw[ay (by simp only[jE];omega)];rfl
 |x::xs,r,t=>by
  simp only[Dm,gS];rw[xK,Q9 (i+1) xs];by_cases h:t=i;·subst h;rw[aq rfl,aq ⟨dc _,by simp only[di];omega⟩,Ik];rfl
  ·rw[ay h];by_cases h2:i+1<=t/\t<i+1+xs.length;·rw[aq h2,aq ⟨by omega,by simp only[di];omega⟩,show t - i=(t - (i+1))+1 by omega];rfl
   ·rw[ay h2,ay (by simp only[di];omega)]
def Ra(i:Nat):∀(xs:List X) (t:Nat),get (Dn i xs) t=if base+i<=t/\t<base+i+xs.length then xs.getD (t - (base+i)) .dead else .dead
 |[],t=>by rw[ay (by simp only[jE];omega)];rfl
 |x::xs,t=>by
  simp only[Dn];rw[xK,Ra (i+1) xs];by_cases h:t=base+i;·subst h;rw[aq rfl,aq ⟨dc _,by simp only[di];omega⟩,Ik];rfl
  ·rw[ay h];by_cases h2:base+(i+1)<=t/\t<base+(i+1)+xs.length;·rw[aq h2,aq ⟨by omega,by simp only[di];omega⟩,show t - (base+i)=(t - (base+(i+1)))+1 by omega];rfl
   ·rw[ay h2,ay (by simp only[di];omega)]
def ahB{w:World}{zl zb:Nat->Nat->Prop}{cs:List C}(h:nQ w zl zb cs)(iT:qP w zl zb){nt:Nat}(hn:cs.length<=nt)(hnt:nt<=base):
  ∃G,St ⟨w,λb k=>∃x∈cs,x.fp b k,zl,zb,nt,cs.map C.val⟩ G zl (nR (cs.map C.er)) ⟨(cs.map C.val).toArray++Array.replicate (nt - (cs.map C.val).toArray.size) undef,[]⟩ w:=by
 let G:Nat->C:=λt=>if t<cs.length then (cs.getD t (.dead undef)).alias (base+t) [] else if base<=t/\t<base+cs.length then cs.getD (t - base) (.dead undef) else .dead undef
 have g1:∀t,t<cs.length->G t=(cs.getD t (.dead undef)).alias (base+t) []:=λt ht=>aq ht;have g2:∀t,t<cs.length->G (base+t)=cs.getD t (.dead undef):=λt ht=>by show (if _ then _ else _:C)=_;rw[ay (by omega),aq (by omega),Nat.add_sub_cancel_left]
 have g3:∀t,¬t<cs.length->¬(base<=t/\t<base+cs.length)->G t=.dead undef:=λt h1 h2=>by show (if _ then _ else _:C)=_;rw[ay h1,ay h2]
 have hm:∀t,t<cs.length->cs.getD t (.dead undef)∈cs:=λt ht=>cT ht _
 have Es:∀t,(t<cs.length/\t<base)\/(∃u,u<cs.length/\t=base+u)\/(G t=.dead undef/\¬t<cs.length/\¬(base<=t/\t<base+cs.length)):=λt=>by
  by_cases h1:t<cs.length;·exact .inl ⟨h1,by omega⟩
  ·by_cases h2:base<=t/\t<base+cs.length;·exact .inr (.inl ⟨t - base,by omega,by omega⟩)
   ·exact .inr (.inr ⟨g3 t h1 h2,h1,h2⟩)
 have hal:∀t,t<cs.length->(G t).ok w (Zf zl zb)/\(G t).rf G/\∀b k,¬(G t).fp b k:=λt ht=>by rw[g1 t ht];have hx:=hm t ht;exact C.OG (base+t) _ (g2 t ht) (h.ok _ hx) (C.sV G _ (h.bare _ hx))
 have bZ:∀t b k,(G t).fp b k->∃u,u<cs.length/\t=base+u/\(cs.getD u (.dead undef)).fp b k:=λt b k hf=>by
  rcases Es t with ⟨h1,_⟩|⟨u,hu,rfl⟩|⟨h1,_⟩;·exact((hal t h1).2.2 b k hf).elim
  ·rw[g2 u hu] at hf;exact⟨u,hu,rfl,hf⟩
  ·rw[h1] at hf;exact hf.elim
 refine⟨G,⟨⟨λt=>?_,λt=>?_,λt u hne b k hf hf'=>?_,λt b k hf=>?_,λt=>?_,h.cC⟩,λt ht=>?_,?_,hnt,rfl,⟨Ext.refl _ _,λt b k hf=>?_,λ_ _ hz=>hz,λ_ _ hz=>.inl hz,iT,λb k hb ⟨x,hx,hf⟩=>((iT b hb).2 k).elim (h.fz x hx b k hf).1 (h.fz x hx b k hf).2⟩,λi v hi=>?_⟩⟩
 ·have hgd:∀u,(cs.map C.er).getD u .dead=(cs.getD u (.dead undef)).er:=λu=>by rw[lE,lE,cV];cases cs[u]?<;>rfl
  unfold nR;rw[Q9,Ra,cX,hgd,hgd];rcases Es t with ⟨h1,h2⟩|⟨u,hu,rfl⟩|⟨h1,h2,h3⟩;·rw[aq ⟨by omega,by omega⟩,g1 t h1,C.OH,wN]
  ·rw[ay (by omega),aq ⟨by omega,by omega⟩,g2 u hu,show base+u - (base+0)=u by omega]
  ·rw[ay (by omega),ay (by omega),h1];rfl
 ·rcases Es t with ⟨h1,_⟩|⟨u,hu,rfl⟩|⟨h1,_⟩;·exact(hal t h1).1
  ·rw[g2 u hu];exact h.ok _ (hm u hu)
  ·rw[h1];trivial
 ·obtain⟨x,hx,e1,h1⟩:=bZ t b k hf;obtain⟨y,hy,e2,h2⟩:=bZ u b k hf';exact zj h.apart _ hx hy (λe=>hne (by rw[e1,e2,e])) h1 h2
 ·obtain⟨x,hx,e1,h1⟩:=bZ t b k hf;exact h.fz _ (hm x hx) b k h1
 ·rcases Es t with ⟨h1,_⟩|⟨u,hu,rfl⟩|⟨h1,_⟩;·exact(hal t h1).2.1
  ·rw[g2 u hu];exact C.sV G _ (h.bare _ (hm u hu))
  ·rw[h1];trivial
 ·rw[wU,Array.getElem?_append];simp only[nH,cX];by_cases h1:t<cs.length;·rw[aq h1,g1 t h1,C.OI,zW,cV,cr h1,rq (cr h1)];rfl
  ·rw[ay h1,g3 t h1 (by omega),Vx];split<;>rfl
 ·simp only[NQ,nH,cX,Array.size_replicate];omega
 ·obtain⟨x,hx,e1,h1⟩:=bZ t b k hf;exact .inl ⟨_,hm x hx,h1⟩
 ·simp only[cV] at hi;cases hc:cs[i]? with
  |none=>rw[hc] at hi;cases hi
  |some x=>
   rw[hc] at hi;injection hi with hi
   have hlt:=(aQ.1 hc).1;rw[g2 i hlt,rq hc,hi]
end M
namespace M
open Go Go.RowKit
variable [Bs]
def uV(P:Program):List ResultVar->List RV->Bool
 |[],[]=>true
 |.tmp t::l,.t t'::l'=>t==t' && decide (t<base) && uV P l l'
 |.cell a ty::l,.c n sz agg ty'::l'=>a==n && decide (n<base) && ty==ty' && lN P ty sz && vJ P ty agg && (agg||decide (sz=1)) && uV P l l'
 |_,_=>false
section
variable {P:Program}{w:World}
def aeZ(x:C)(h:x.er.nq=false):x.fX:=by cases x<;>first|trivial|(simp[C.er,X.nq] at h)
def Ms:List Value->Value
 |[v]=>v
 |l=>.tuple l.toArray
def Dj(tmps:Array Value):ResultVar->Sem Value
 |.tmp t=>pure (tmps.getD t undef)
 |.cell a t=>do loadVar t (<-asAddr (tmps.getD a undef))
def ag3{fn:Func}{vs:List Value}(tmps:Array Value)(h:(fn.results.toList.mapM (Dj tmps)).run P w=.ok vs w):(results fn tmps).run P w=.ok (Ms vs) w:=by
 unfold results;rw[Array.mapM_eq_mapM_toList];rw[Sem.run_bind,Sem.run_map];erw [h];simp only[Result.andThen_ok,Sem.run_pure];match vs with
 |[]=>rfl
 |[v]=>rfl
 |u::v::l=>simp[Ms]
def M5{c:Ctx}{zl:Nat->Nat->Prop}{a:Act}:∀{l':List ResultVar} {l:List RV},uV P l' l=true->∀{G:Nat->C} {s:ag},St c G zl s a w->(∀x∈(dW l s).1,x.nq=false)->
  ∃cs G',cs.map C.er=(dW l s).1/\(l'.mapM (Dj a.tmps)).run P w=.ok (cs.map C.val) w/\bN w zl c.zb G cs G' (dW l s).2
 |[],[],_,G,s,h,_=>⟨[],G,rfl,by simp,bN.nil h.inv⟩
 |.tmp t::l',.t t'::l,hc,G,s,h,hk=>by
  simp only[uV,av,ey,bx] at hc;obtain⟨⟨rfl,ht⟩,hc⟩:=hc;obtain⟨p,p1,p2,p3⟩:=cy h (o:=.tmp t) (x:=.t t) (by simp[aO,ht]);obtain⟨y,G1,f1,f2,f3,f4⟩:=su .mv h.inv p3;rw[p1] at f1 f4;obtain⟨cs,G',g1,g2,g3⟩:=M5 hc (h.zI f4) λx hx=>hk x (cI _ hx);refine⟨y::cs,G',by simp[dW,f1,g1],?_,bN.cons f4 g3⟩;have hv:a.tmps.getD t undef=y.val:=by rw[f2,p2];rfl
  simp only[List.mapM_cons,Dj,Sem.run_bind,Sem.run_pure,Result.andThen_ok,g2,hv,bC]
 |.cell ad ty::l',.c n sz agg ty'::l,hc,G,s,h,hk=>by
  simp only[uV,av,ey,bx] at hc;obtain⟨⟨⟨⟨⟨⟨rfl,ht⟩,rfl⟩,hsz⟩,nY⟩,h1⟩,hc⟩:=hc
  have hk0:(match get s ad with
   |.ptr .own cs=>if cs.length=sz then (bif agg then .agg (X.gI ad [] cs) else (X.gI ad [] cs).headD (.ak [])) else .ak []
   |_=>.ak []:X).nq=false:=hk _ (bE ..)
  split at hk0
  ·rename_i cs0 hg;split at hk0
   ·rename_i hlen;obtain⟨D,G1,t1,t2,t3,t4,t5,t6,t7,t8,t9,t10,t11,t12⟩:=h.inv.wv ad [] (G ad) rfl;rw[h.inv.er,hg] at t1;simp only[X.kill] at t1;obtain⟨g,o,m,f,rfl,hcs⟩:=JK t1;have hm:m=sz:=by have:=dB List.length hcs;rw[X.LR] at this;simpa [hlen] using this.symm
    subst hm;obtain⟨q1,q2,q3,q4⟩:=t4;have hin:∀j,j<m->∀b k,(f j).fp b k->(C.ptr .own g o m f).fp b k:=λj hj b k hf=>C.k7 (q3 j hj).1 (q3 j hj).2.1 hj hf;have Kg:a.tmps.getD ad undef=.pointer (some ⟨g,o,none⟩):=by rw[<-h.val ad ht,<-t2];rfl
    obtain⟨ii,hi,kV⟩:=tw hsz;obtain⟨dd,A6,hda⟩:=CF nY;have vq:(isAgg ty).run P w=.ok agg w:=by subst hda;simp only[isAgg,Sem.run_bind,run_underlying A6,Result.andThen_ok];cases dd<;>rfl
    have hsize:(Go.sizeOf ty).run P w=.ok m w:=by simp[Go.sizeOf,typeInfo,hi,kV]
    have hl:(loadCells ⟨g,o,none⟩ m).run P w=.ok ((List.range m).map λj=>(f j).val).toArray w:=run_loadCells w _ m _ (λj hj=>by rw[sO];exact(q1 j hj).1)
    have fin:∀y:C,(∀b k,y.fp b k->(C.ptr .own g o m f).fp b k)->y.ok w (Zf zl c.zb)->y.rf G1->y.er=(if cs0.length=m then (bif agg then .agg (X.gI ad [] cs0) else (X.gI ad [] cs0).headD (.ak [])) else .ak [])->(loadVar ty ⟨g,o,none⟩).run P w=.ok y.val w->
      ∃cs G',cs.map C.er=(dW (.c ad m agg ty::l) s).1/\((ResultVar.cell ad ty::l').mapM (Dj a.tmps)).run P w=.ok (cs.map C.val) w/\bN w zl c.zb G cs G' (dW (.c ad m agg ty::l) s).2:=λy NG yok yrf yer akR=>by
     have jO:fL w zl c.zb G y G1 (jc ad [] .dead s):=⟨t3,yok,yrf,λt b k hf=>t8 t b k (NG b k hf),λb k hf=>h.inv.fz ad b k (t9 b k (NG b k hf)),t10,λb k hf=>⟨ad,t9 b k (NG b k hf)⟩,t11⟩;obtain⟨cs,G',g1,g2,g3⟩:=M5 hc (h.zI jO) λx hx=>hk x (cI _ hx);refine⟨y::cs,G',?_,?_,bN.cons jO g3⟩;·simp only[bC,dW,hg,yer,g1]
     ·simp only[List.mapM_cons,Dj,Kg,asAddr,Sem.run_bind,Sem.run_pure,Result.andThen_ok,akR,g2,bC]
    cases agg with
    |true=>
     refine fin (.agg m f) (λb k ⟨j,hj,hf⟩=>hin j hj b k hf) ⟨λj hj=>⟨(q3 j hj).1,(q3 j hj).2.2⟩,λj hj b k hf=>(q4 j hj b k hf).2⟩ t5 ?_ ?_;·rw[aq hlen,mH,hcs];rfl
     ·simp only[loadVar,Sem.run_bind,vq,Result.andThen_ok,eN,hsize,hl,Sem.run_pure];rfl
    |false=>
     have hs1:m=1:=by simpa using h1
     subst hs1;refine fin (f 0) (λb k hf=>hin 0 (by omega) b k hf) (q3 0 (by omega)).2.2 (t5 0 (by omega)) ?_ ?_;·rw[aq hlen,sH,hcs];rfl
     ·have:=(q1 0 (by omega)).1;simp only[loadVar,Sem.run_bind,vq,Result.andThen_ok,iP,iD,run_load];simp only[nJ] at this;rw[this]
   ·simp[X.nq] at hk0
  ·simp[X.nq] at hk0
 |[],_::_,hc,_,_,_,_=>by cases hc
 |.tmp _::_,[],hc,_,_,_,_=>by cases hc
 |.cell _ _::_,[],hc,_,_,_,_=>by cases hc
 |.tmp _::_,.c _ _ _ _::_,hc,_,_,_,_=>by cases hc
 |.cell _ _::_,.t _::_,hc,_,_,_,_=>by cases hc
def agn{c:Ctx}{G:Nat->C}{zl:Nat->Nat->Prop}{s:ag}(h:Inv w zl c.zb G s)(t:Nat):∃p:C,p.er=post (get s t)/\p.val=(G t).val/\p.ok w (Zf zl λ_ _=>False)/\p.bare/\∀b k,p.fp b k->(G t).fp b k:=by
 unfold post;cases hc:(get s t).clean with
 |true=>rw[<-h.er] at hc;exact⟨G t,h.er t,rfl,C.qX _ hc (h.ok t),C.uW _ hc,λ_ _ hf=>hf⟩
 |false=>exact⟨.dead (G t).val,rfl,rfl,trivial,trivial,λ_ _ hf=>hf.elim⟩
def Tl{c:Ctx}{G:Nat->C}{zl:Nat->Nat->Prop}{s:ag}(h:Inv w zl c.zb G s):∀(n i:Nat),∃ps:List C,ps.map C.er=r7 i n s/\ps.map C.val=(List.range' i n).map (λj=>(G (base+j)).val)/\(∀p∈ps,p.ok w (Zf zl λ_ _=>False)/\p.bare/\∃t,i<=t/\∀b k,p.fp b k->(G (base+t)).fp b k)/\ps.Pairwise λa b=>∀x k,a.fp x k->¬b.fp x k
 |0,i=>⟨[],rfl,rfl,λ_ hx=>(by cases hx),List.Pairwise.nil⟩
 |n+1,i=>by
  obtain⟨p,p1,p2,p3,p4,p5⟩:=agn h (base+i);obtain⟨ps,q1,q2,q3,q4⟩:=Tl h n (i+1);refine⟨p::ps,by simp[r7,p1,q1],by simp[List.range'_succ,p2,q2],λx hx=>?_,ew.2 ⟨λx hx b k hf hf'=>?_,q4⟩⟩
  ·rcases bM.1 hx with rfl|hx;·exact⟨p3,p4,i,dc _,p5⟩
   ·obtain⟨a1,a2,t,ht,a3⟩:=q3 x hx;exact⟨a1,a2,t,by omega,a3⟩
  ·obtain⟨_,_,t,ht,a3⟩:=q3 x hx;exact h.sep (base+i) (base+t) (by omega) b k (p5 b k hf) (a3 b k hf')
structure Told (P:Program) (f:FuncId) (t:A) (rs:List RV) (n:Nat):Prop where
 told:∃fn code,P.funcs[f]?=some fn/\fn.body=some code/\ia P fn.ntmps t code=true/\uV P fn.results.toList rs=true/\fn.ntmps<=base/\n<=fn.ntmps
def Told.ac{f:FuncId}{t:A}{rs:List RV}{n:Nat}(hT:Told P f t rs n){xs:List X}(hn:xs.length=n){Q:X->List X->Prop}(h:eV P t (nR xs) (Ends rs n Q)):AC P f xs Q:=by
 intro w zl zb cs hxs hA iT;obtain⟨fn,code,hf,hb,hc,hr,hnt,kZ⟩:=hT.told;have hcl:cs.length=n:=by rw[<-hn,<-hxs];simp
 obtain⟨G,hst⟩:=ahB hA iT (nt:=fn.ntmps) (by omega) hnt;rw[hxs] at hst;refine calls_of_wp hf hb (wp_mono (YS t code hc hst h) λe a w' he=>?_)
 have fin:∀{G:Nat->C} {aH:Nat->Nat->Prop} {s:ag},St ⟨w,λb k=>∃x∈cs,x.fp b k,zl,zb,fn.ntmps,cs.map C.val⟩ G aH s a w'->(X.clean.cD (dW rs s).1=true/\(∀x∈(dW rs s).1,x.nq=false)/\Q (vZ (dW rs s).1) (r7 0 n (dW rs s).2))->
   a.defers=[]/\∃v,(results fn a.tmps).run P w'=.ok v w'/\∃r ps aH,Ow w zl cs (.returned v) w' r ps aH/\Q r.er (ps.map C.er):=by
  intro G aH s h ⟨k1,k2,k3⟩;obtain⟨oL,G1,g1,g2,jO⟩:=M5 hr h k2;refine⟨h.defers,_,ag3 a.tmps g2,?_⟩;rw[<-g1] at k1 k2 k3;obtain⟨ps,p1,p2,p3,p4⟩:=Tl (c:=⟨w,λb k=>∃x∈cs,x.fp b k,zl,zb,fn.ntmps,cs.map C.val⟩) jO.inv n 0;have hrc:∀x∈oL,x.er.clean=true:=λx hx=>j6.1 k1 _ (kA hx)
  obtain⟨r,r1,r2,r3,r4,r5⟩:∃r:C,r.er=vZ (oL.map C.er)/\r.val=Ms (oL.map C.val)/\r.ok w' (Zf aH λ_ _=>False)/\r.bare/\∀b k,r.fp b k->∃x∈oL,x.fp b k:=by
   by_cases h1:oL.length=1;·obtain⟨x,rfl⟩:=List.length_eq_one_iff.1 h1;refine⟨x,rfl,rfl,C.qX x (hrc x (fQ.2 rfl)) (jO.all x (fQ.2 rfl)).1,C.uW x (hrc x (fQ.2 rfl)),λb k hf=>⟨x,fQ.2 rfl,hf⟩⟩
   ·refine⟨.ak oL.length λj=>oL.getD j (.dead undef),?_,?_,⟨λj hj=>⟨?_,C.qX _ (hrc _ (cT hj _)) (jO.all _ (cT hj _)).1⟩,λj hj b k hf j' hj' hne=>zj jO.apart _ hj hj' hne hf⟩,λj hj=>C.uW _ (hrc _ (cT hj _)),λb k ⟨j,hj,hf⟩=>⟨_,cT hj _,hf⟩⟩
    ·show X.ak _=_;rw[nE oL _ C.er];cases oL with
     |nil=>rfl
     |cons x l=>cases l with
      |nil=>simp at h1
      |cons y l=>rfl
    ·show Value.tuple _=_;rw[nE oL _ C.val];cases oL with
     |nil=>rfl
     |cons x l=>cases l with
      |nil=>simp at h1
      |cons y l=>rfl
    ·have:=k2 _ (kA (cT hj (.dead undef)));exact aeZ _ this
  refine⟨r,ps,aH,?_,by rw[r1,p1];exact k3⟩;have acQ:∀t b k,(G1 t).fp b k->(∃y∈cs,y.fp b k)\/w.heap.size<=b:=λt b k hf=>h.tr.dom t b k (jO.mono t b k hf);have hrd:∀b k,r.fp b k->(∃y∈cs,y.fp b k)\/w.heap.size<=b:=λb k hf=>by obtain⟨x,hx,hf⟩:=r5 b k hf;obtain⟨t,ht⟩:=(jO.all x hx).2.2.2 b k hf;exact h.tr.dom t b k ht
  refine⟨by rw[r2],?_,h.tr.ext,⟨λx hx=>?_,λx hx=>?_,λx hx b k hf=>?_,λb k hz=>jO.inv.cC b k (hz.imp id λh=>h.elim),ew.2 ⟨λx hx b k hf hf'=>?_,p4⟩⟩,λx hx b k hf=>?_,h.tr.qN,h.tr.zl⟩
  ·rw[p2,List.range_eq_range'.symm];apply iE;intro i;rw[cV,cV];by_cases hi:i<n;·rw[qL hi,cr (by omega)];simp only[cG,dH];rw[jO.val];exact h.args i _ (by rw[cV,cr (by omega)];rfl)
   ·rw[jD (by simp;omega),jD (by omega)];rfl
  ·rcases bM.1 hx with rfl|hx;·exact r3
   ·exact(p3 x hx).1
  ·rcases bM.1 hx with rfl|hx;·exact r4
   ·exact(p3 x hx).2.1
  ·refine⟨?_,λh=>h⟩;rcases bM.1 hx with rfl|hx;·obtain⟨y,hy,hf⟩:=r5 b k hf;exact((jO.all y hy).2.2.1 b k hf).1
   ·obtain⟨_,_,t,_,a3⟩:=p3 x hx;exact(jO.inv.fz _ b k (a3 b k hf)).1
  ·obtain⟨y,hy,hf⟩:=r5 b k hf;obtain⟨_,_,t,_,a3⟩:=p3 x hx;exact(jO.all y hy).2.1 _ b k hf (a3 b k hf')
  ·rcases bM.1 hx with rfl|hx;·exact hrd b k hf
   ·obtain⟨_,_,t,_,a3⟩:=p3 x hx;exact acQ _ b k (a3 b k hf)
 cases e with
 |normal=>obtain⟨G,aH,s,k,h⟩:=he;exact fin h k
 |ret=>obtain⟨G,aH,s,k,h⟩:=he;exact fin h k
 |exit id=>obtain⟨G,aH,s,k,h⟩:=he;exact k.elim
 |goto l=>exact he.elim
 |panic ch=>exact he.elim
 |outgrown=>exact he.elim
def Ut(P:Program)(fn:Func)(t:A)(rs:List RV)(n:Nat):Bool:=match fn.body with
 |some code=>ia P fn.ntmps t code && uV P fn.results.toList rs && decide (fn.ntmps<=base) && decide (n<=fn.ntmps)
 |none=>false
def Told.of{f:FuncId}{fn:Func}{t:A}{rs:List RV}{n:Nat}(hf:P.funcs[f]?=some fn)(h:Ut P fn t rs n=true):Told P f t rs n:=by
 unfold Ut at h;split at h;·rename_i code hc;simp only[av,bx] at h;exact⟨fn,code,hf,hc,h.1.1.1,h.1.1.2,h.1.2,h.2⟩
 ·cases h
end
end M
namespace M
open Go
def AC.mono[Bs]{P:Program}{f:FuncId}{xs:List X}{Q Q':X->List X->Prop}(h:AC P f xs Q)(hq:∀r ps,Q r ps->Q' r ps):AC P f xs Q':=
 λw zl zb cs e a g=>(h w zl zb cs e a g).mono λ_ _ ⟨r,ps,aH,d,q⟩=>⟨r,ps,aH,d,hq _ _ q⟩
abbrev Out:=X×List X
abbrev ct:=FuncId->List X->Option Out
def lW(f:FuncId):X->Bool
 |.fn g _=>g==f
 |_=>false
def xo(s1:ag)(fv:Option AV)(f:FuncId):Bool:=match fv with
 |none=>true
 |some x=>lW f (ax s1 x)
abbrev zZ:=X->Option ag
def He(r:Nat)(p:Path)(s:ag)(n:Nat)(x:X):Option (X×zZ):=
 match x with
 |.ref _ _=>(match look s r p with
  |some (.row .own z xs)=>some (.row .own z xs,λy=>match y with
   |.row .own z' ys=>if z'=z then some (iN r p (.row .own z ys) s) else none
   |_=>none)
  |_=>none)
 |.aj _ _ i c=>(match look s r p with
  |some (.ptr .own cs)=>if c+n<=cs.length then some (.ptr .own ((cs.drop c).take n),λy=>match y with
   |.ptr .own ys=>if ys.length=n then some (iN r p (.ptr .own (cs.take c++ys++cs.drop (c+n))) s) else none
   |_=>none) else none
  |some (.row .own z xs)=>(match xs[i]? with
   |some e=>if c+n<=e.length then some (.ptr .own ((e.drop c).take n),λy=>match y with
    |.ptr .own ys=>if ys.length=n then (if iA ys=true then some (iN r p (.row .own z (xs.set i (e.take c++ys++e.drop (c+n)))) s) else none) else none
    |_=>none) else none
   |none=>none)
  |_=>none)
 |_=>none
def r8(d:Option Nat)(s:ag):Option Out->Option ag
 |some o=>some (fY d o.1 s)
 |none=>none
def Di(d:Option Nat)(as:List (AV×PM))(back:zZ):Option Out->Option ag
 |some o=>(match back (k9 as o.2) with
  |some s'=>some (fY d o.1 s')
  |none=>none)
 |none=>none
def Er(C:ct)(f:FuncId)(d:Option Nat)(as:List (AV×PM))(fv:Option AV)(ms:List X)(s0:ag):Option (X×zZ)->Option ag
 |some (y,back)=>if X.bare y=true/\xo s0 fv f=true then Di d as back (C f (gE s0 y as ms++pz s0 fv)) else none
 |none=>none
def sX(C:ct)(f:FuncId)(d:Option Nat)(as:List (AV×PM))(fv:Option AV)(s:ag):Option ag:=
 if X.bare.jj (bU as s).1=true then
 match dV as with
 |none=>if xo (bU as s).2 fv f=true then r8 d (bU as s).2 (C f (gE (bU as s).2 .dead as (bU as s).1++pz (bU as s).2 fv)) else none
 |some (x,n)=>Er C f d as fv (bU as s).1 (jc (placeOf (ax (bU as s).2 x)).1 (placeOf (ax (bU as s).2 x)).2 .dead (bU as s).2) (He (placeOf (ax (bU as s).2 x)).1 (placeOf (ax (bU as s).2 x)).2 (bU as s).2 n (ax (bU as s).2 x))
 else none
def Ef(op:BinOp):X->X->Bool
 |.int k a,.int k' b=>match op with
  |.shl=>decide (0<=b)
  |.shr=>decide (0<=b)
  |.quo=>decide (k=k') && !decide (b=0)
  |.rem=>decide (k=k') && !decide (b=0)
  |.andNot=>false
  |_=>decide (k=k')
 |.str a,.str b=>match op with
  |.add=>decide (a.size+b.size<=9223372036854775807)
  |.eql=>true
  |.neq=>true
  |_=>false
 |_,_=>false
def Xg{op:BinOp}{x y:X}(h:Ef op x y=true):xj op x y:=by cases x<;>cases y<;>cases op<;>simp_all[Ef,xj]
def HS(op:UnOp):X->Bool
 |.int _ _=>match op with
  |.neg=>true
  |_=>false
 |.bool _=>match op with
  |.not=>true
  |_=>false
 |_=>false
def akg{op:UnOp}{x:X}(h:HS op x=true):zK op x:=by cases x<;>cases op<;>simp_all[HS,zK]
def GL:List X->Option UInt8
 |[.int .u8 n]=>if 0<=n/\n<256 then some (UInt8.ofNat n.toNat) else none
 |_=>none
def adX{e:List X}{b:UInt8}(h:GL e=some b):e=[.int .u8 b.toNat]:=by
 unfold GL at h;split at h
 ·split at h
  ·rename_i n hn;obtain rfl:=iC h;have:(UInt8.ofNat n.toNat).toNat=n.toNat:=by rw[NY];exact NU (by omega)
   rw[this];congr 2;omega
  ·cases h
 ·cases h
def wB:List (List X)->Option (List UInt8)
 |[]=>some []
 |e::l=>match GL e,wB l with
  |some b,some r=>some (b::r)
  |_,_=>none
def Ux:∀{xs:List (List X)} {l:List UInt8},wB xs=some l->xs=l.map λb=>[.int .u8 b.toNat]
 |[],l,h=>by cases h;rfl
 |e::r,l,h=>by
  unfold wB at h;split at h;·rename_i b r' h1 h2;obtain rfl:=iC h;rw[adX h1,Ux h2];rfl
  ·cases h
def akf(l:List UInt8):wB (l.map λb=>[.int .u8 (b.toNat:Int)])=some l:=by
 induction l with
 |nil=>rfl
 |cons b l ih=>
  simp only[bC,wB,ih];have:GL [.int .u8 (b.toNat:Int)]=some b:=by have h:=b.toNat_lt;show (if 0<=(b.toNat:Int)/\(b.toNat:Int)<256 then some (UInt8.ofNat (b.toNat:Int).toNat) else none)=some b;rw[aq ⟨by omega,by omega⟩];simp
  rw[this]
def ek:List (List X)->Bool
 |[]=>true
 |e::l=>e.all scalar && ek l
def MQ{xs:List (List X)}(h:ek xs=true):scalars xs:=by
 induction xs with
 |nil=>intro e he;cases he
 |cons a l ih=>
  simp only[ek,av,sI] at h;intro e he c hc;rcases bM.1 he with rfl|he;·exact h.1 c hc
  ·exact ih h.2 e he c hc
def HG(h:Tk)(l:List X):Bool:=match h with
 |.al=>true
 |_=>l.all λx=>iA (cellsOf x)
def ahn{h:Tk}{l:List X}(e:HG h l=true):HF h l:=by
 cases h;·intro x hx;exact(sI.1 e) x hx
 ·trivial
 ·intro x hx;exact(sI.1 e) x hx
def zy:List Nat->List X->Bool
 |[],[]=>true
 |n::ns,y::ys=>((cellsOf y).length==n) && zy ns ys
 |_,_=>false
def T8:∀{ns:List Nat} {ys:List X},zy ns ys=true->zz ns ys
 |[],[],_=>trivial
 |[],_::_,h=>by cases h
 |_::_,[],h=>by cases h
 |n::ns,y::ys,h=>by simp only[zy,av,ey] at h;exact⟨h.1,T8 h.2⟩
def Ma(sz:Nat)(l:List X):Bool:=l.all λx=>((cellsOf x).length==sz) && iA (cellsOf x)
def HJ(s:ag)(r:Nat)(p:Path)(i c:Nat)(l:List X):Bool:=match look s r p with
 |some (.row .own _ xs)=>(match xs[i]? with
  |some e=>decide (c+l.length<=e.length) && iA l
  |none=>false)
 |some (.ptr .own cs)=>decide (c+l.length<=cs.length)
 |_=>false
def ahE{s:ag}{r:Nat}{p:Path}{i c:Nat}{l:List X}(h:HJ s r p i c l=true):storable s r p i c l:=by
 unfold HJ at h;unfold storable;split at h
 ·split at h;·rename_i h1 _ _ h2;rw[h1];simp only[h2];simpa using h
  ·cases h
 ·rename_i h1;rw[h1];simpa using h
 ·cases h
def Tp(d:Option Nat)(cs:List X)(s1:ag):Option Out->Option ag
 |some (r,.agg ys::_)=>if iA ys=true then (match gX cs ys s1 with
  |some s'=>some (fY d r s')
  |none=>none) else none
 |_=>none
def cO(C:ct)(ok:FuncId->Bool)(o:cA)(s:ag):Option ag:=
 match o with
 |.mv d x=>some (put d (ax s x) s)
 |.bT d h x=>some (put d (take h (ax s x) s).1 (take h (ax s x) s).2)
 |.pick d c a b=>match ax s c with
  |.bool t=>some (put d (Db t (ax s a) (ax s b)) s)
  |_=>none
 |.un d op x=>if HS op (ax s x)=true then some (put d (Ni op (ax s x)) s) else none
 |.bin d op x y=>if Ef op (ax s x) (ax s y)=true then some (put d (I1 op (ax s x) (ax s y)) s) else none
 |.beq d neg x y=>match ax s x,ax s y with
  |.bool p,.bool q=>some (put d (.bool (xor neg (p==q))) s)
  |_,_=>none
 |.uf d neg x=>match ax s x with
  |.row _ _ xs=>if gO xs=true then some (put d (.bool neg) s) else none
  |_=>none
 |.qR d neg ks x y=>match ax s x,ax s y with
  |.agg p,.agg q=>match j8 ks p q with
   |some t=>some (put d (.bool (xor neg t)) s)
   |none=>none
  |_,_=>none
 |.conv d k x=>match ax s x with
  |.int _ n=>some (put d (.int k (k.wrap n)) s)
  |_=>none
 |.bytes d x=>match ax s x with
  |.str t=>some (put d (.row .own 1 (t.data.toList.map λb=>[.int .u8 b.toNat])) s)
  |_=>none
 |.text d x=>match rowAt s (ax s x) with
  |some (1,xs)=>if xs.length<=9223372036854775807 then (match wB xs with
   |some l=>some (put d (.str ⟨l.toArray⟩) s)
   |none=>none) else none
  |_=>none
 |.box d h x=>if 0<(cellsOf (take h (ax s x) s).1).length then some (put d (.ptr .own (cellsOf (take h (ax s x) s).1)) (take h (ax s x) s).2) else none
 |.new d z=>some (put d (.ptr .own z) s)
 |.build d h z ps=>if HG h (takes h (ps.map (·.2)) s).1=true/\zy (ps.map (·.1.2)) (takes h (ps.map (·.2)) s).1=true then some (put d (.agg (xF z (ps.map (·.1.1)) (takes h (ps.map (·.2)) s).1)) (takes h (ps.map (·.2)) s).2) else none
 |.lit d h sz ps=>if Ma sz (takes h ps s).1=true then some (put d (.row .own sz ((takes h ps s).1.map cellsOf)) (takes h ps s).2) else none
 |.make d sz bytes z n=>match ax s n with
  |.int _ i=>if 0<=i/\i*bytes<=140737488355328 then some (put d (.row .own sz (List.replicate i.toNat z)) s) else none
  |_=>none
 |.load d sz agg a=>match gF s (ax s a) with
  |some cs=>if sz<=cs.length then some (put d (bif agg then .agg (cs.take sz) else cs.headD .dead) s) else none
  |none=>none
 |.store sz h a x=>if (cellsOf (take h (ax s x) s).1).length=sz then (match ax (take h (ax s x) s).2 a with
  |.aj r p i c=>if HJ (take h (ax s x) s).2 r p i c (cellsOf (take h (ax s x) s).1)=true then some (setCells r p i c (cellsOf (take h (ax s x) s).1) (take h (ax s x) s).2) else none
  |_=>none) else none
 |.aK d x=>match ax s x with
  |.aj r p i c=>some (put d (.aj r p i c) s)
  |.ptr m cs=>some (put d (.ptr m cs) s)
  |.fn f cs=>some (put d (.fn f cs) s)
  |_=>none
 |.q8 d x off=>match ax s x with
  |.aj r p i c=>some (put d (.aj r p i (c+off)) s)
  |.ptr m cs=>some (put d (.ptr m (cs.drop off)) s)
  |_=>none
 |.mT d x off sz agg=>match ax s x with
  |.agg cs=>if off+sz<=cs.length then some (put d (bif agg then .agg ((cs.drop off).take sz) else (cs.drop off).headD .dead) s) else none
  |_=>none
 |.iU d sz x i=>match ax s i with
  |.int _ n=>if 0<=n then (match ax s x with
   |.row m z xs=>if z=sz then (match xs[n.toNat]? with
    |some e=>some (put d (.ptr m e) s)
    |none=>none) else none
   |.ref r p=>(match look s r p with
    |some (.row _ z xs)=>if z=sz/\n.toNat<xs.length then some (put d (.aj r p n.toNat 0) s) else none
    |_=>none)
   |.cut r p lo hi=>(match look s r p with
    |some (.row _ z _)=>if z=sz/\lo+n.toNat<hi then some (put d (.aj r p (lo+n.toNat) 0) s) else none
    |_=>none)
   |_=>none) else none
  |_=>none
 |.jT d x i=>match ax s x,ax s i with
  |.str t,.int _ n=>if 0<=n then (match t.data[n.toNat]? with
   |some b=>some (put d (.int .u8 b.toNat) s)
   |none=>none) else none
  |_,_=>none
 |.sQ d n sz agg x i=>match ax s x,ax s i with
  |.agg cs,.int _ j=>if 0<=j/\j<n/\cs.length=n*sz then some (put d (bif agg then .agg ((cs.drop (j.toNat*sz)).take sz) else (cs.drop (j.toNat*sz)).headD .dead) s) else none
  |_,_=>none
 |.ext d x i=>match ax s x with
  |.ak cs=>if i<cs.length then some (put d (cs.getD i .dead) s) else none
  |_=>none
 |.wq d x lo hi=>match ax s x with
  |.str t=>if 0<=asNat s lo 0/\asNat s lo 0<=asNat s hi t.size/\asNat s hi t.size<=t.size then some (put d (.str (t.extract (asNat s lo 0).toNat (asNat s hi t.size).toNat)) s) else none
  |_=>none
 |.lp d sz x lo hi=>match rowAt s (ax s x) with
  |some (z0,xs)=>if z0=sz/\0<=asNat s lo 0/\asNat s lo 0<=asNat s hi xs.length/\asNat s hi xs.length<=xs.length then (match ax s x with
   |.row m z _=>some (put d (.row m z ((xs.take (asNat s hi xs.length).toNat).drop (asNat s lo 0).toNat)) s)
   |.ref r p=>some (put d (.cut r p (asNat s lo 0).toNat (asNat s hi xs.length).toNat) s)
   |_=>none) else none
  |none=>none
 |.uX sz z x=>match ax s x with
  |.cut r p lo hi=>(match look s r p with
   |some (.row .own z' xs)=>if z'=sz then some (iN r p (.row .own z' (tf lo hi z xs)) s) else none
   |_=>none)
  |_=>none
 |.sW d f x as=>match ax s x with
  |.agg cs=>if X.bare.jj (bW cs s).1=true then Tp d cs (bW cs s).2 (C f (.agg (bW cs s).1::gE (bW cs s).2 .dead as (as.map λ_=>.dead))) else none
  |_=>none
 |.iL d fz sz agg a=>match gF s (ax s a) with
  |some cs=>if sz<=cs.length then ghost fz d (put d (bif agg then .agg (cs.take sz) else cs.headD .dead) s) else none
  |none=>none
 |.k8 d f cs=>some (put d (.fn f (cs.map (ax s))) s)
 |.len d x=>match rowAt s (ax s x) with
  |some (z,xs)=>some (put d (.int .i64 xs.length) s)
  |none=>none
 |.uq d x=>match ax s x with
  |.str t=>some (put d (.int .i64 t.size) s)
  |_=>none
 |.app d h sz bytes x y=>match (take .mv (ax s x) s).1 with
  |.row .own z xs=>if z=sz then (match h with
   |.mv=>(match (cZ (ax (take .mv (ax s x) s).2 y) (take .mv (ax s x) s).2).1 with
    |.row .own z' ys=>if z'=sz/\(xs.length+ys.length)*bytes<=140737488355328 then some (put d (.row .own z (xs++ys)) (cZ (ax (take .mv (ax s x) s).2 y) (take .mv (ax s x) s).2).2) else none
    |_=>none)
   |_=>(match rowAt (take .mv (ax s x) s).2 (ax (take .mv (ax s x) s).2 y) with
    |some (z',ys)=>if z'=sz/\(xs.length+ys.length)*bytes<=140737488355328/\ek ys=true then some (put d (.row .own z (xs++ys)) (take .mv (ax s x) s).2) else none
    |none=>none)) else none
  |_=>none
 |.mn d xs=>match xs.map (ax s) with
  |[.int k a,.int k' b]=>if k=k' then some (put d (.int k (if b<a then b else a)) s) else none
  |_=>none
 |.mx d xs=>match xs.map (ax s) with
  |[.int k a,.int k' b]=>if k=k' then some (put d (.int k (if b>a then b else a)) s) else none
  |_=>none
 |.call d f as=>sX C f d as none s
 |.jH d x as=>match ax s x with
  |.fn f _=>if ok f=true then sX C f d as (some x) s else none
  |_=>none
end M
namespace M
open Go
def ct.Sound[Bs](P:Program)(C:ct):Prop:=∀f xs o,C f xs=some o->AC P f xs λr ps=>r=o.1/\ps=o.2
section
variable [Bs]{P:Program}{C:ct}{ok:FuncId->Bool}
def Py{s1:ag}{fv:Option AV}{f:FuncId}(h:xo s1 fv f=true):sY s1 fv f:=by
 unfold xo at h;unfold sY;cases fv with
 |none=>trivial
 |some x=>
  simp only at h⊢;unfold lW at h;split at h;·rename_i h1;rw[h1];simpa using h
  ·cases h
def aeT{r:Nat}{p:Path}{s:ag}{n:Nat}{x y:X}{back:zZ}(h:He r p s n x=some (y,back)){go:X->(X->(ag->Prop)->Prop)->Prop}
  (hg:∀b':X->(ag->Prop)->Prop,(∀q K s',back q=some s'->K s'->b' q K)->go y b'):yX r p s n x go:=by
 unfold He at h;unfold yX;split at h
 ·split at h
  ·rename_i z xs hl;obtain⟨rfl,rfl⟩:=DO (iC h);simp only[hl];refine hg _ λq K s' hb hK=>?_;simp only at hb;split at hb
   ·split at hb;·rename_i hz;obtain rfl:=iC hb;exact⟨hz,hK⟩
    ·cases hb
   ·cases hb
  ·cases h
 ·split at h
  ·rename_i cs hl;split at h
   ·rename_i hc;obtain⟨rfl,rfl⟩:=DO (iC h);simp only[hl];refine⟨hc,hg _ λq K s' hb hK=>?_⟩;simp only at hb;split at hb
    ·split at hb;·rename_i hz;obtain rfl:=iC hb;exact⟨hz,hK⟩
     ·cases hb
    ·cases hb
   ·cases h
  ·rename_i z xs hl;split at h
   ·rename_i e he;split at h
    ·rename_i hc;obtain⟨rfl,rfl⟩:=DO (iC h);simp only[hl,he];refine⟨hc,hg _ λq K s' hb hK=>?_⟩;simp only at hb;split at hb
     ·split at hb
      ·split at hb;·rename_i hz hso;obtain rfl:=iC hb;exact⟨hz,hso,hK⟩
       ·cases hb
      ·cases hb
     ·cases hb
    ·cases h
   ·cases h
  ·cases h
 ·cases h
def Pv(hC:C.Sound P){f:FuncId}{d:Option Nat}{as:List (AV×PM)}{fv:Option AV}{s s':ag}(h:sX C f d as fv s=some s'){K:ag->Prop}(hK:K s'):uS P f d as fv s K:=by
 unfold sX at h;unfold uS;split at h
 ·rename_i hb;refine⟨hb,?_⟩;split at h
  ·rename_i hm;split at h
   ·rename_i hc;simp only[hm];refine⟨Py hc,?_⟩;unfold r8 at h;split at h;·rename_i o ho;obtain rfl:=iC h;exact(hC _ _ _ ho).mono λr ps ⟨h1,_⟩=>by rw[h1];exact hK
    ·cases h
   ·cases h
  ·rename_i x n hm;simp only[hm];unfold Er at h;split at h
   ·rename_i y back hmu;split at h
    ·rename_i hc;refine aeT hmu λb' hb'=>⟨hc.1,Py hc.2,?_⟩;unfold Di at h;split at h
     ·rename_i o ho;split at h;·rename_i s2 hs2;obtain rfl:=iC h;refine(hC _ _ _ ho).mono λr ps ⟨h1,h2⟩=>?_;rw[h1,h2];exact hb' _ _ _ hs2 hK
      ·cases h
     ·cases h
    ·cases h
   ·cases h
 ·cases h
def Qe(hC:C.Sound P)(hok:∀f,ok f=true->aD P f=true){o:cA}{s s':ag}(h:cO C ok o s=some s'){K:ag->Prop}(hK:K s'):aR P o s K:=by
 cases o with
 |mv d x=>cases h;exact hK
 |bT d h1 x=>cases h;exact hK
 |pick d c a b=>simp only[cO] at h;simp only[aR];split at h<;>first|(rename_i h1;rw[h1];cases h;exact hK)|cases h
 |un d op x=>
  simp only[cO] at h;split at h;·rename_i h1;cases h;exact⟨akg h1,hK⟩
  ·cases h
 |bin d op x y=>
  simp only[cO] at h;split at h;·rename_i h1;cases h;exact⟨Xg h1,hK⟩
  ·cases h
 |beq d neg x y=>
  simp only[cO] at h;simp only[aR];split at h;·rename_i h1 h2;rw[h1,h2];cases h;exact hK
  ·cases h
 |uf d neg x=>
  simp only[cO] at h;simp only[aR];split at h
  ·rename_i h1;rw[h1];split at h;·rename_i hc;cases h;intro b hb;rw[hb hc];cases neg<;>exact hK
   ·cases h
  ·cases h
 |qR d neg ks x y=>
  simp only[cO] at h;simp only[aR];split at h
  ·rename_i h1 h2;rw[h1,h2];split at h;·rename_i t ht;cases h;exact⟨t,ht,hK⟩
   ·cases h
  ·cases h
 |conv d k x=>
  simp only[cO] at h;simp only[aR];split at h;·rename_i h1;rw[h1];cases h;exact hK
  ·cases h
 |bytes d x=>
  simp only[cO] at h;simp only[aR];split at h;·rename_i h1;rw[h1];cases h;exact hK
  ·cases h
 |text d x=>
  simp only[cO] at h;simp only[aR];split at h
  ·rename_i xs h1;split at h
   ·rename_i h2;split at h;·rename_i l h3;cases h;exact⟨xs,h1,h2,l,Ux h3,hK⟩
    ·cases h
   ·cases h
  ·cases h
 |box d h1 x=>
  simp only[cO] at h;split at h;·rename_i h2;cases h;exact⟨h2,hK⟩
  ·cases h
 |new d z=>cases h;exact hK
 |build d h1 z ps=>
  simp only[cO] at h;split at h;·rename_i h2;cases h;exact⟨ahn h2.1,T8 h2.2,hK⟩
  ·cases h
 |lit d h1 sz ps=>
  simp only[cO] at h;split at h;·rename_i h2;cases h;refine⟨λx hx=>?_,hK⟩;have:=(sI.1 h2) x hx;simpa using this
  ·cases h
 |make d sz bytes z n=>
  simp only[cO] at h;simp only[aR];split at h
  ·rename_i h1;rw[h1];split at h;·rename_i h2;cases h;exact⟨h2.1,h2.2,hK⟩
   ·cases h
  ·cases h
 |load d sz agg a=>
  simp only[cO] at h;simp only[aR];split at h
  ·rename_i cs h1;split at h;·rename_i h2;cases h;exact⟨cs,h1,h2,hK⟩
   ·cases h
  ·cases h
 |store sz h1 a x=>
  simp only[cO] at h;simp only[aR];split at h
  ·rename_i h2;refine⟨h2,?_⟩;split at h
   ·rename_i h3;rw[h3];split at h;·rename_i h4;cases h;exact⟨ahE h4,hK⟩
    ·cases h
   ·cases h
  ·cases h
 |aK d x=>simp only[cO] at h;simp only[aR];split at h<;>first|(rename_i h1;rw[h1];cases h;exact hK)|cases h
 |q8 d x off=>simp only[cO] at h;simp only[aR];split at h<;>first|(rename_i h1;rw[h1];cases h;exact hK)|cases h
 |mT d x off sz agg=>
  simp only[cO] at h;simp only[aR];split at h
  ·rename_i h1;rw[h1];split at h;·rename_i h2;cases h;exact⟨h2,hK⟩
   ·cases h
  ·cases h
 |iU d sz x i=>
  simp only[cO] at h;simp only[aR];split at h
  ·rename_i h1;rw[h1];split at h
   ·rename_i h2;refine⟨h2,?_⟩;split at h
    ·rename_i h3;rw[h3];split at h
     ·rename_i h4;refine⟨h4,?_⟩;split at h;·rename_i e h5;cases h;exact⟨e,h5,hK⟩
      ·cases h
     ·cases h
    ·rename_i h3;rw[h3];simp only;split at h
     ·rename_i h4;rw[h4];split at h;·rename_i h5;cases h;exact⟨h5.1,h5.2,hK⟩
      ·cases h
     ·cases h
    ·rename_i h3;rw[h3];simp only;split at h
     ·rename_i h4;rw[h4];split at h;·rename_i h5;cases h;exact⟨h5.1,h5.2,hK⟩
      ·cases h
     ·cases h
    ·cases h
   ·cases h
  ·cases h
 |jT d x i=>
  simp only[cO] at h;simp only[aR];split at h
  ·rename_i h1 h2;rw[h1,h2];split at h
   ·rename_i h3;refine⟨h3,?_⟩;split at h;·rename_i b h4;cases h;exact⟨b,h4,hK⟩
    ·cases h
   ·cases h
  ·cases h
 |sQ d n sz agg x i=>
  simp only[cO] at h;simp only[aR];split at h
  ·rename_i h1 h2;rw[h1,h2];split at h;·rename_i h3;cases h;exact⟨h3.1,h3.2.1,h3.2.2,hK⟩
   ·cases h
  ·cases h
 |ext d x i=>
  simp only[cO] at h;simp only[aR];split at h
  ·rename_i h1;rw[h1];split at h;·rename_i h3;cases h;exact⟨h3,hK⟩
   ·cases h
  ·cases h
 |wq d x lo hi=>
  simp only[cO] at h;simp only[aR];split at h
  ·rename_i h1;rw[h1];split at h;·rename_i h3;cases h;exact⟨h3.1,h3.2.1,h3.2.2,hK⟩
   ·cases h
  ·cases h
 |lp d sz x lo hi=>
  simp only[cO] at h;simp only[aR];split at h
  ·rename_i z0 xs h1;split at h;·rename_i h2;obtain⟨rfl,h2,h3,h4⟩:=h2;refine⟨xs,h1,h2,h3,h4,?_⟩;split at h<;>first|(rename_i h5;rw[h5];cases h;exact hK)|cases h
   ·cases h
  ·cases h
 |uX sz z x=>
  simp only[cO] at h;simp only[aR];split at h
  ·rename_i h1;rw[h1];simp only;split at h
   ·rename_i h2;rw[h2];split at h;·rename_i h3;cases h;exact⟨h3,hK⟩
    ·cases h
   ·cases h
  ·cases h
 |sW d f x as=>
  simp only[cO] at h;simp only[aR];split at h
  ·rename_i cs h1;rw[h1];split at h
   ·rename_i h2;refine⟨h2,?_⟩;unfold Tp at h;split at h
    ·rename_i r ys ps ho;split at h
     ·rename_i h3;split at h;·rename_i s2 h4;cases h;exact(hC _ _ _ ho).mono λr' ps' ⟨e1,e2⟩=>by rw[e1,e2];exact⟨h3,_,h4,hK⟩
      ·cases h
     ·cases h
    ·cases h
   ·cases h
  ·cases h
 |iL d fz sz agg a=>
  simp only[cO] at h;simp only[aR];split at h
  ·rename_i cs h1;split at h;·rename_i h2;exact⟨cs,h1,h2,s',h,hK⟩
   ·cases h
  ·cases h
 |k8 d f cs=>cases h;exact hK
 |len d x=>
  simp only[cO] at h;simp only[aR];split at h;·rename_i z xs h1;cases h;exact⟨z,xs,h1,hK⟩
  ·cases h
 |uq d x=>
  simp only[cO] at h;simp only[aR];split at h;·rename_i h1;rw[h1];cases h;exact hK
  ·cases h
 |app d h1 sz bytes x y=>
  simp only[cO] at h;simp only[aR];split at h
  ·rename_i z xs h2;rw[h2];split at h
   ·rename_i h3;refine⟨h3,?_⟩;cases h1 with
    |mv=>
     simp only at h⊢;split at h
     ·rename_i h4;simp only[h4];split at h;·rename_i h5;cases h;exact⟨h5.1,h5.2,hK⟩
      ·cases h
     ·cases h
    |al=>
     simp only at h⊢;split at h
     ·rename_i z' ys h4;split at h;·rename_i h5;obtain⟨rfl,h5,h6⟩:=h5;cases h;exact⟨ys,h4,h5,MQ h6,hK⟩
      ·cases h
     ·cases h
    |bO=>
     simp only at h⊢;split at h
     ·rename_i z' ys h4;split at h;·rename_i h5;obtain⟨rfl,h5,h6⟩:=h5;cases h;exact⟨ys,h4,h5,MQ h6,hK⟩
      ·cases h
     ·cases h
   ·cases h
  ·cases h
 |mn d xs=>
  simp only[cO] at h;simp only[aR];split at h
  ·rename_i h1;rw[h1];split at h;·rename_i h2;cases h;exact⟨h2,hK⟩
   ·cases h
  ·cases h
 |mx d xs=>
  simp only[cO] at h;simp only[aR];split at h
  ·rename_i h1;rw[h1];split at h;·rename_i h2;cases h;exact⟨h2,hK⟩
   ·cases h
  ·cases h
 |call d f as=>exact Pv hC h hK
 |jH d x as=>
  simp only[cO] at h;simp only[aR];split at h
  ·rename_i h1;rw[h1];split at h;·rename_i h2;exact⟨hok _ h2,Pv hC h hK⟩
   ·cases h
  ·cases h
end
end M
namespace M
open Go
mutual
def X.eY:X->X->Bool
 |.dead,.dead=>true
 |.int k n,.int k' n'=>decide (k=k') && decide (n=n')
 |.bool a,.bool b=>a==b
 |.str s,.str t=>decide (s=t)
 |.row m z xs,.row m' z' ys=>decide (m=m') && z==z' && X.tc xs ys
 |.ptr m xs,.ptr m' ys=>decide (m=m') && X.mP xs ys
 |.agg xs,.agg ys=>X.mP xs ys
 |.ak xs,.ak ys=>X.mP xs ys
 |.fn f xs,.fn g ys=>f==g && X.mP xs ys
 |.ref s p,.ref t q=>s==t && p==q
 |.aj s p i c,.aj t q j d=>s==t && p==q && i==j && c==d
 |.cut s p i c,.cut t q j d=>s==t && p==q && i==j && c==d
 |_,_=>false
def X.mP:List X->List X->Bool
 |[],[]=>true
 |x::l,y::r=>X.eY x y && X.mP l r
 |_,_=>false
def X.tc:List (List X)->List (List X)->Bool
 |[],[]=>true
 |x::l,y::r=>X.mP x y && X.tc l r
 |_,_=>false
end
mutual
def X.Qk:∀{x y:X},X.eY x y=true->x=y
 |.dead,y,h=>by cases y<;>simp_all[X.eY]
 |.int k n,y,h=>by cases y<;>simp_all[X.eY]
 |.bool a,y,h=>by cases y<;>simp_all[X.eY]
 |.str s,y,h=>by cases y<;>simp_all[X.eY]
 |.row m z xs,y,h=>by cases y<;>simp only[X.eY,av,bx,ey,iP] at h;rw[h.1.1,h.1.2,X.Qi h.2]
 |.ptr m xs,y,h=>by cases y<;>simp only[X.eY,av,bx,ey,iP] at h;rw[h.1,X.xB h.2]
 |.agg xs,y,h=>by cases y<;>simp only[X.eY,iP] at h;rw[X.xB h]
 |.ak xs,y,h=>by cases y<;>simp only[X.eY,iP] at h;rw[X.xB h]
 |.fn f xs,y,h=>by cases y<;>simp only[X.eY,av,ey,iP] at h;rw[h.1,X.xB h.2]
 |.ref s p,y,h=>by cases y<;>simp_all[X.eY]
 |.aj s p i c,y,h=>by cases y<;>simp_all[X.eY]
 |.cut s p i c,y,h=>by cases y<;>simp_all[X.eY]
def X.xB:∀{x y:List X},X.mP x y=true->x=y
 |[],[],_=>rfl
 |[],_::_,h=>by simp[X.mP] at h
 |_::_,[],h=>by simp[X.mP] at h
 |x::l,y::r,h=>by simp only[X.mP,av] at h;rw[X.Qk h.1,X.xB h.2]
def X.Qi:∀{x y:List (List X)},X.tc x y=true->x=y
 |[],[],_=>rfl
 |[],_::_,h=>by simp[X.tc] at h
 |_::_,[],h=>by simp[X.tc] at h
 |x::l,y::r,h=>by simp only[X.tc,av] at h;rw[X.xB h.1,X.Qi h.2]
end
mutual
def X.Ql:∀x:X,X.eY x x=true
 |.dead=>rfl
 |.int k n=>by simp[X.eY]
 |.bool a=>by simp[X.eY]
 |.str s=>by simp[X.eY]
 |.row m z xs=>by simp[X.eY,X.Qj xs]
 |.ptr m xs=>by simp[X.eY,X.xC xs]
 |.agg xs=>by simp[X.eY,X.xC xs]
 |.ak xs=>by simp[X.eY,X.xC xs]
 |.fn f xs=>by simp[X.eY,X.xC xs]
 |.ref s p=>by simp[X.eY]
 |.aj s p i c=>by simp[X.eY]
 |.cut s p i c=>by simp[X.eY]
def X.xC:∀x:List X,X.mP x x=true
 |[]=>rfl
 |x::l=>by simp[X.mP,X.Ql x,X.xC l]
def X.Qj:∀x:List (List X),X.tc x x=true
 |[]=>rfl
 |x::l=>by simp[X.tc,X.xC x,X.Qj l]
end
def s9:ag->ag->Bool
 |[],[]=>true
 |(k,x)::l,(k',y)::r=>k==k' && X.eY x y && s9 l r
 |_,_=>false
def Qh:∀{x y:ag},s9 x y=true->x=y
 |[],[],_=>rfl
 |[],_::_,h=>by simp[s9] at h
 |_::_,[],h=>by simp[s9] at h
 |(k,x)::l,(k',y)::r,h=>by simp only[s9,av,ey] at h;rw[h.1.1,X.Qk h.1.2,Qh h.2]
def same:Option ag->Option ag->Option ag
 |some a,some b=>if s9 a b=true then some a else none
 |_,_=>none
def eG(C:ct)(ok:FuncId->Bool)(g:G)(s:ag):Option ag:=match g with
 |⟨none,o⟩=>cO C ok o s
 |⟨some (t,b),o⟩=>match get s t with
  |.bool v=>if v=b then cO C ok o ((t,.bool b)::s) else some (fY o.dst (.ak []) ((t,.bool (!b))::s))
  |.ak []=>some (fY o.dst (.ak []) s)
  |_=>none
def j7(C:ct)(ok:FuncId->Bool):List G->ag->Option ag
 |[],s=>some s
 |g::l,s=>(eG C ok g s).bind (j7 C ok l)
def eD(C:ct)(ok:FuncId->Bool):DT->ag->Option ag
 |.nil ks,s=>some (keep ks s)
 |.step _ g t,s=>(eG C ok g s).bind (eD C ok t)
 |.alt a b,s=>same (eD C ok a s) (eD C ok b s)
 |.kp ks t,s=>eD C ok t (keep ks s)
abbrev cK:=Option (Ex×ag)
def ga(k:ag->cK):cK->cK
 |some (.normal,s)=>k s
 |some (.exit i,s)=>some (.exit i,s)
 |some (.ret,s)=>some (.ret,s)
 |none=>none
def lG(id:Nat):cK->cK
 |some (.exit i,s)=>if i=id then some (.normal,s) else some (.exit i,s)
 |some (.normal,s)=>some (.normal,s)
 |some (.ret,s)=>some (.ret,s)
 |none=>none
def l9(ks:List Nat):cK->cK
 |some (.normal,s)=>some (.normal,keep ks s)
 |some (.exit i,s)=>some (.exit i,s)
 |some (.ret,s)=>some (.ret,s)
 |none=>none
def iZ:Option ag->cK
 |some s=>some (.normal,s)
 |none=>none
def iter(f:ag->cK):Nat->ag->cK
 |0,_=>none
 |n+1,s=>ga (iter f n) (f s)
def eA(C:ct)(ok:FuncId->Bool)(N:Nat):A->ag->cK
 |.skip,s=>some (.normal,s)
 |.ret,s=>some (.ret,s)
 |.exit id,s=>some (.exit id,s)
 |.ops l,s=>iZ (j7 C ok l s)
 |.draw t,s=>iZ (eD C ok t s)
 |.seq a b,s=>ga (eA C ok N b) (eA C ok N a s)
 |.cond c a b,s=>match ax s c with
  |.bool t=>if t=true then eA C ok N a s else eA C ok N b s
  |_=>none
 |.block id b,s=>lG id (eA C ok N b s)
 |.loop b,s=>iter (eA C ok N b) N s
 |.pk ks b,s=>l9 ks (eA C ok N b s)
structure Fn where
 body:A
 rs:List RV
 n:Nat
abbrev iQ:=FuncId->Option Fn
def fin(F:Fn):cK->Option Out
 |some (.exit _,_)=>none
 |some (_,s)=>if X.clean.cD (dW F.rs s).1=true/\(dW F.rs s).1.any X.nq=false then some (vZ (dW F.rs s).1,r7 0 F.n (dW F.rs s).2) else none
 |none=>none
def eF(C:ct)(ok:FuncId->Bool)(N:Nat)(F:Fn)(xs:List X):Option Out:=
 if xs.length=F.n then fin F (eA C ok N F.body (nR xs)) else none
def aB(T:iQ)(f:FuncId):Bool:=(T f).isSome
def exec(L:ct)(T:iQ):Nat->ct
 |0,_,_=>none
 |n+1,f,xs=>match T f with
  |some F=>eF (exec L T n) (aB T) n F xs
  |none=>L f xs
section
variable [Bs]{P:Program}{C:ct}{ok:FuncId->Bool}
def Qc(hC:C.Sound P)(hok:∀f,ok f=true->aD P f=true){g:G}{s s':ag}(h:eG C ok g s=some s'){K:ag->Prop}(hK:K s'):qS P g s K:=by
 obtain⟨gg,o⟩:=g;cases gg with
 |none=>exact Qe hC hok h hK
 |some tb=>
  obtain⟨t,b⟩:=tb;simp only[eG] at h;simp only[qS];split at h
  ·rename_i v hv;rw[hv];split at h;·rename_i lT;exact⟨λ_=>Qe hC hok h hK,λhn=>by subst lT;cases v<;>simp at hn⟩
   ·rename_i lT;exact⟨λhh=>(lT hh).elim,λ_=>by cases h;exact hK⟩
  ·rename_i hv;rw[hv];cases h;exact hK
  ·cases h
def Qg(hC:C.Sound P)(hok:∀f,ok f=true->aD P f=true):∀{l:List G} {s s':ag},j7 C ok l s=some s'->∀{Q:Ex->ag->Prop},Q .normal s'->kJ P l s Q
 |[],s,s',h,Q,hQ=>by cases h;exact hQ
 |g::l,s,s',h,Q,hQ=>by
  simp only[j7] at h;cases h1:eG C ok g s with
  |none=>rw[h1] at h;cases h
  |some s1=>rw[h1] at h;exact Qc hC hok h1 (Qg hC hok h hQ)
def AH(hC:C.Sound P)(hok:∀f,ok f=true->aD P f=true):∀{t:DT} {s s':ag},eD C ok t s=some s'->∀{Q:Ex->ag->Prop},Q .normal s'->iG P t s Q
 |.nil ks,s,s',h,Q,hQ=>by cases h;exact hQ
 |.step i g t,s,s',h,Q,hQ=>by
  simp only[eD] at h;cases h1:eG C ok g s with
  |none=>rw[h1] at h;cases h
  |some s1=>rw[h1] at h;exact Qc hC hok h1 (AH hC hok h hQ)
 |.alt a b,s,s',h,Q,hQ=>by
  simp only[eD] at h;unfold same at h;split at h
  ·rename_i x y hx hy;split at h;·rename_i he;obtain rfl:=Qh he;cases h;exact⟨AH hC hok hx hQ,AH hC hok hy hQ⟩
   ·cases h
  ·cases h
 |.kp ks t,s,s',h,Q,hQ=>AH (t:=t) hC hok h hQ
def Uq{k:ag->cK}{r:cK}{e:Ex}{s:ag}(h:ga k r=some (e,s)):(∃s',r=some (.normal,s')/\k s'=some (e,s))\/(e≠.normal/\r=some (e,s)):=by
 unfold ga at h;split at h;·exact .inl ⟨_,rfl,h⟩
 ·cases h;exact .inr ⟨by simp,rfl⟩
 ·cases h;exact .inr ⟨by simp,rfl⟩
 ·cases h
def Y8(hC:C.Sound P)(hok:∀f,ok f=true->aD P f=true){N:Nat}:∀{t:A} {s s':ag} {e:Ex},eA C ok N t s=some (e,s')->∀{Q:Ex->ag->Prop},Q e s'->eV P t s Q:=by
 intro t;induction t with
 |skip=>intro s s' e h Q hQ;cases h;exact hQ
 |ret=>intro s s' e h Q hQ;cases h;exact hQ
 |exit id=>intro s s' e h Q hQ;cases h;exact hQ
 |ops l=>
  intro s s' e h Q hQ;simp only[eA] at h;unfold iZ at h;split at h;·rename_i s1 h1;cases h;exact Qg hC hok h1 hQ
  ·cases h
 |draw l=>
  intro s s' e h Q hQ;simp only[eA] at h;unfold iZ at h;split at h;·rename_i s1 h1;cases h;exact AH hC hok h1 hQ
  ·cases h
 |seq a b iV kg=>
  intro s s' e h Q hQ;simp only[eA] at h;rcases Uq h with ⟨s1,h1,h2⟩|⟨hne,h1⟩;·exact iV h1 (kg h2 hQ)
  ·refine iV h1 ?_;cases e with
   |normal=>exact(hne rfl).elim
   |exit i=>exact hQ
   |ret=>exact hQ
 |cond c a b iV kg=>
  intro s s' e h Q hQ;simp only[eA] at h;simp only[eV];split at h
  ·rename_i t ht;rw[ht];split at h;·rename_i h1;exact⟨λ_=>iV h hQ,λh2=>by rw[h1] at h2;cases h2⟩
   ·rename_i h1;exact⟨λh2=>(h1 h2).elim,λ_=>kg h hQ⟩
  ·cases h
 |block id b ih=>
  intro s s' e h Q hQ;simp only[eA] at h;unfold lG at h;split at h
  ·rename_i i s1 h1;split at h;·rename_i hi;cases h;refine ih h1 ?_;subst hi;simpa using hQ
   ·rename_i hi;cases h;refine ih h1 ?_;have:(i==id)=false:=by simpa using hi
    simpa [this] using hQ
  ·rename_i s1 h1;cases h;exact ih h1 hQ
  ·rename_i s1 h1;cases h;exact ih h1 hQ
  ·cases h
 |loop b ih=>
  intro s s' e h Q hQ;simp only[eA] at h;refine⟨λn s1=>iter (eA C ok N b) n s1=some (e,s'),⟨N,h⟩,λn s1 h1=>?_⟩;cases n with
  |zero=>cases h1
  |succ n=>
   simp only[iter] at h1;rcases Uq h1 with ⟨s2,h2,h3⟩|⟨hne,h2⟩;·exact ih h2 ⟨n,Nat.lt_succ_self n,h3⟩
   ·refine ih h2 ?_;cases e with
    |normal=>exact(hne rfl).elim
    |exit i=>exact hQ
    |ret=>exact hQ
 |pk ks b ih=>
  intro s s' e h Q hQ;simp only[eA] at h;unfold l9 at h;split at h;·rename_i s1 h1;cases h;exact ih h1 hQ
  ·rename_i s1 h1;cases h;exact ih h1 hQ
  ·rename_i s1 h1;cases h;exact ih h1 hQ
  ·cases h
structure iQ.Ok (P:Program) (T:iQ):Prop where
 told:∀f F,T f=some F->Told P f F.body F.rs F.n
 ok:∀f F,T f=some F->aD P f=true
def Qo{L:ct}{T:iQ}(hL:L.Sound P)(hT:T.Ok P):∀n,(exec L T n).Sound P
 |0=>λf xs o h=>by cases h
 |n+1=>λf xs o h=>by
  simp only[exec] at h;split at h
  ·rename_i F hF;unfold eF at h;split at h
   ·rename_i hn;refine(hT.told f F hF).ac hn ?_;unfold fin at h;split at h;·cases h
    ·rename_i e s' h1 h2;split at h
     ·rename_i hc;have h2:eA (exec L T n) (aB T) n F.body (nR xs)=some (e,s'):=h2;cases h;refine Y8 (Qo hL hT n) (λf hf=>?_) h2 ?_;·unfold aB at hf;obtain⟨F',hF'⟩:=wR.1 hf;exact hT.ok f F' hF'
      ·cases e with
       |exit i=>exact(h1 i rfl).elim
       |normal=>exact⟨hc.1,λx hx=>by have:=N1.1 hc.2 x hx;simpa using this,rfl,rfl⟩
       |ret=>exact⟨hc.1,λx hx=>by have:=N1.1 hc.2 x hx;simpa using this,rfl,rfl⟩
     ·cases h
    ·cases h
   ·cases h
  ·exact hL f xs o h
end
end M
