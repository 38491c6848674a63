/- A machine of values for loaded Go functions, sound for the calculus of calls; part 2; no conditions. -/
import Derived.Test.YtaaeoialiegmeaaGreatDoorMa
import Derived.Laws.IdiomCopy
import Derived.Lib.SliceRun
import Derived.Laws.Cover3
set_option linter.defProp false
set_option linter.unusedSectionVars false
set_option linter.unusedVariables false
set_option linter.unusedSimpArgs false
namespace M
open Go Go.RowKit
variable [Bs]
section
variable {P:Program}{c:Ctx}{G:Nat->C}{zl:Nat->Nat->Prop}{s:ah}{a:Act}{w:World}{o:Oper}{K:ah->Prop}
def agA{zb:Nat->Nat->Prop}(h:Inv w zl zb G s){v:Value}{r:Nat}{p:Path}{i k:Nat}(hr:(C.ax v r p i k).rf G){l:List C}(hs:storable s r p i k (l.map C.er))(hl:∀x∈l,cO x.er=true->x.cO):
  ∃g k0 d,v=.pointer (some ⟨g,k0,none⟩)/\(G r).sub p=some d/\∀q x,l[q]?=some x->fe d i (k+q) x g (k0+q):=by
 obtain⟨d,hd,hp⟩:=hr;unfold storable look at hs;rw[<-h.er,C.gG,hd] at hs;simp only[cg] at hs;rcases hp with ⟨m,sz,g,o,len,cap,e,rfl,rfl⟩|⟨m,g,o,n,f,rfl,rfl,rfl⟩
 ·refine⟨g,o+i*sz+k,_,rfl,hd,λq x hq=>?_⟩;simp only[C.er] at hs;cases m with
  |own=>
   simp only[C.cU] at hs;split at hs
   ·rename_i e0 jT;split at jT
    ·rename_i hi;injection jT with jT
     obtain⟨h1,h2⟩:=hs;have hlen:e0.length=sz:=by rw[<-jT];simp
     have nR:=(aL.1 hq).1;simp only[cZ] at h1;have:=fe.row (d:=.row .own sz (some (g,o,none)) len cap e) (i:=i) (c:=k+q) (y:=x) rfl hi (by omega) (hl x (mB hq) (Hv h2 _ (j6 (mB hq))));rwa [show o+i*sz+(k+q)=o+i*sz+k+q by omega] at this
    ·cases jT
   ·exact hs.elim
  |sl=>exact hs.elim
  |af=>exact hs.elim
 ·refine⟨g,o+k,_,rfl,hd,λq x hq=>?_⟩;simp only[C.er] at hs;cases m with
  |own=>have nR:=(aL.1 hq).1;simp only[cZ,vQ] at hs;have:=fe.ptr (d:=.ptr .own g o n f) (i:=0) (c:=k+q) (y:=x) rfl rfl (by omega);rwa [show o+(k+q)=o+k+q by omega] at this
  |sl=>exact hs.elim
  |af=>exact hs.elim
def TH{x:C}(h:cO x.er=true):x.cO:=by cases x<;>first|trivial|(simp[C.er,cO] at h)
def afw(h:St c G zl s a w){sz:Nat}{tk:Tk}{ty:TypeId}{x y:AV}{x' y':Operand}(ho:o.op=.store ty y' x')(hsz:∃i,P.info? ty=some i/\i.size=sz)(h0:0<sz)(hd:o.dst=none)(hx:aM x' x=true)(hy:aM y' y=true)
  (hK:aP P (.store sz tk y x) s K):Good P c o a w K:=by
 obtain⟨p,e1,e2,e3⟩:=cj h hx;obtain⟨q,G1,f1,f2,f3,f4⟩:=qC tk h.inv e3;obtain⟨k1,k2⟩:=hK;rw[e1] at f1 f4;have h1:=h.yL f4;obtain⟨u,u1,u2,u3⟩:=cj h1 hy;rw[<-u1] at k2;cases u with
 |ax v r pp i k=>
  simp only[C.er] at k2;obtain⟨k2,k3⟩:=k2;rw[<-f1,<-tN] at k1 k2 k3;have hsh:=Hs f4.rf;have hT:=bF.flat (bF.one f4) (λx hx=>by rw[fy] at hx;subst hx;exact hsh);simp only[jF,NS,mD] at hT;obtain⟨g,k0,d,hv,hsub,hsp⟩:=agA h1.inv u3.rf k2 (λx _ hs=>TH hs);have hlen:q.cells.length=sz:=by simpa using k1
  obtain⟨w',G',j1,j2,j3,j4,j5⟩:=TP (P:=P) r pp i (k0:=k0) q.cells.length q.cells rfl k 0 h1.inv hsub (by simpa using hsp) ⟨λx hx=>⟨(wm hsh f4.ok hx).1,(wm hsh f4.ok hx).2,Jn f4.rf hx,(hT.all x hx).2.1,(hT.all x hx).2.2.1⟩,hT.apart⟩;have hcv:=DK (by omega) hsh;refine⟨undef,w',.inr ⟨?_,rfl⟩,G',zl,_,k3,?_⟩
  ·have J4:a.eval y'=.pointer (some ⟨g,k0,none⟩):=by rw[<-u2];exact hv
   obtain⟨ii,hi,kr⟩:=hsz;have hxv:a.eval x'=q.val:=by rw[f2,e2]
   simp[execOp,ho,J4,hxv,Instr.storeAt,Instr.sureAddr,storeVar,hcv,Go.sizeOf,typeInfo,hi,kr,hlen,j1]
  ·rw[hd];refine h.move j2 (λt=>(j3 t).trans (f4.val t)) j5 (λb k' hs=>?_) (λt b k' hf=>?_)
   ·obtain⟨rfl,hs1,hs2⟩:=hs;simp only[nB] at hs1 hs2;have hlt:k' - k0<q.cells.length:=by omega
    have:=(hsp (k' - k0) _ (cm hlt)).fp;rw[show k0+(k' - k0)=k' by omega] at this;exact h1.tr.dom r _ _ (C.gH pp hsub (h1.inv.ok r) this)
   ·refine .inl ?_;rcases j4 t b k' hf with ⟨x,hx,hf⟩|hf;·exact(hT.all x hx).2.2.2 b k' hf
    ·exact⟨t,f4.mono t b k' hf⟩
 |_=>exact k2.elim
def cJ(len z:Nat)(e:Nat->Nat->C):List (List C):=(List.range len).map λi=>(List.range z).map λj=>e i j
def uA(len z:Nat)(e:Nat->Nat->C):∀x∈cJ len z e,x.length=z:=λx hx=>by obtain⟨i,_,rfl⟩:=bg.1 hx;simp
def RP(len z:Nat)(e:Nat->Nat->C):(cJ len z e).map (λx=>x.map C.er)=dK z len e:=by simp only[cJ,dK,cH];refine b7 λi _=>?_;show ((List.range z).map λj=>e i j).map C.er=_;rw[cH];rfl
def mU{len z:Nat}{e:Nat->Nat->C}{x:C}(hx:x∈(cJ len z e).flatten):∃i j,i<len/\j<z/\x=e i j:=by obtain⟨l,hl,hx⟩:=Ic.1 hx;obtain⟨i,hi,rfl⟩:=bg.1 hl;obtain⟨j,hj,rfl⟩:=bg.1 hx;exact⟨i,j,by simpa using hi,by simpa using hj,rfl⟩
def RO{len z:Nat}{e:Nat->Nat->C}{q:Nat}{x:C}(h0:0<z)(h:(cJ len z e).flatten[q]?=some x):q / z<len/\q%z<z/\x=e (q / z) (q%z):=by
 have hq:=(aL.1 h).1;rw[rz (uA len z e)] at hq;have hl:(cJ len z e).length=len:=by simp[cJ]
 rw[hl] at hq;have h1:q%z<z:=tc _ h0;have h2:q / z<len:=U9 (by rw[qH];exact hq);have Ao:q=q / z*z+q%z:=by have:=C8 q z;rw[qH] at this;omega
 have:=zY (uA len z e) (q / z) (q%z) (by rw[hl];exact h2) h1;rw[<-Ao,h] at this;simp only[cJ,C.cU,au h2,gj,au h1] at this;exact⟨h2,h1,iA this⟩
def KY{Z:Md->Nat->Nat->Prop}{z len cap:Nat}{A:Option Ad}{e:Nat->Nat->C}(h:(C.row .own z A len cap e).ok w Z):(cJ len z e).flatten.Pairwise λa b=>∀x k,a.fp x k->¬b.fp x k:=by
 obtain⟨h1,h2,h3,h4,h5⟩:=h;refine List.pairwise_flatten.2 ⟨λl hl=>?_,?_⟩
 ·obtain⟨i,hi,rfl⟩:=bg.1 hl;have hi:i<len:=by simpa using hi
  refine C3.2 (Io (R:=λa b=>a<b) ?_ Nw);intro j j' hj hj' hlt b k hf;exact(h5 i j hi (by simpa using hj) b k hf).2 i j' hi (by simpa using hj') (by simp;omega)
 ·refine C3.2 (Io (R:=λa b=>a<b) ?_ Nw);intro i i' hi hi' hlt x hx y hy b k hf;obtain⟨j,hj,rfl⟩:=bg.1 hx;obtain⟨j',hj',rfl⟩:=bg.1 hy;exact(h5 i j (by simpa using hi) (by simpa using hj) b k hf).2 i' j' (by simpa using hi') (by simpa using hj') (by simp;omega)
def JL{w1:World}{z len cap:Nat}{A:Option Ad}{e:Nat->Nat->C}(h0:0<z)(hc:∀i j,i<len->j<z->∃g o,A=some (g,o,none)/\w1.cell? ⟨g,o+i*z+j,none⟩=some (e i j).val):
  (Builtin.firstCells z len (.slice (A.map λq=>⟨q.1,q.2.1,q.2.2⟩) len cap)).run P w1=.ok ((cJ len z e).flatten.map C.val).toArray w1/\(A=none->len=0):=by
 cases A with
 |none=>
  have hl:len=0:=by
   rcases NA len with h|h;·exact h
   ·obtain⟨g,o,hA,_⟩:=hc 0 0 h h0;cases hA
  subst hl;exact⟨run_firstCells_none w1 z 0 0 cap,λ_=>rfl⟩
 |some q=>
  refine⟨?_,λh=>by cases h⟩;refine run_firstCells_some w1 z len ⟨q.1,q.2.1,q.2.2⟩ len cap _ ?_ λj v hj=>?_;·rw[cZ,rz (uA len z e)];simp[cJ]
  ·rw[cR] at hj;cases hk:(cJ len z e).flatten[j]? with
   |none=>rw[hk] at hj;cases hj
   |some x=>
    rw[hk] at hj;obtain⟨a1,a2,rfl⟩:=RO h0 hk;injection hj with hj
    obtain⟨g,o,hA,hcl⟩:=hc _ _ a1 a2;injection hA with hA
    subst hA;have Ao:j=j / z*z+j%z:=by have:=C8 j z;rw[qH] at this;omega
    rw[qP,<-hj,<-hcl];congr 2;show o+j=_;omega
end
end M
namespace M
open Go Go.RowKit
variable [Bs]
section
variable {P:Program}
def bF.sub{w:World}{zl zb:Nat->Nat->Prop}{G G1:Nat->C}{s1:ah}{l ks:List C}(hT:bF w zl zb G l G1 s1)(hok:∀x∈ks,x.ok w (Zf zl zb))(cr:∀x∈ks,∀b k,x.fp b k->∃y∈l,y.fp b k)
  (gQ:ks.Pairwise λa b=>∀x k,a.fp x k->¬b.fp x k):bF w zl zb G ks G1 s1 where
 inv:=hT.inv
 all:=λx hx=>⟨hok x hx,λt b k hf=>by obtain⟨y,hy,hf⟩:=cr x hx b k hf;exact(hT.all y hy).2.1 t b k hf,λb k hf=>by obtain⟨y,hy,hf⟩:=cr x hx b k hf;exact(hT.all y hy).2.2.1 b k hf,
  λb k hf=>by obtain⟨y,hy,hf⟩:=cr x hx b k hf;exact(hT.all y hy).2.2.2 b k hf⟩
 apart:=gQ
 val:=hT.val
 mono:=hT.mono
def Ext.setCells(b:Nat):∀(vs:List Value) (o:Nat) (w:World),Ext (λg k=>g=b/\o<=k/\k<o+vs.length) w (w.setCells b o vs)
 |[],o,w=>Ext.refl _ _
 |v::vs,o,w=>by rw[World.setCells];refine((Ext.setCell w b o v).mono (S':=λg k=>g=b/\o<=k/\k<o+(v::vs).length) (λg k hs _=>⟨hs.1,by omega,by simp only[cu];omega⟩)).trans (Ext.setCells b vs (o+1) _) λg k hs _=>⟨hs.1,by omega,by simp only[cu];omega⟩
def af9{w:World}{t u ty e e':TypeId}{i:TypeInfo}(ht:P.underlying t=some (.slice e))(hu:P.underlying u=some (.slice e'))(hi:P.info? e=some i){A B:Option Addr}{len cap m cap2:Nat}{news:List Value}(h:len+m<=cap)
  (hx:(Builtin.firstCells i.size m (.slice B m cap2)).run P w=.ok news.toArray w):
  (Builtin.append_ #[t,u] ty #[.slice A len cap,.slice B m cap2]).run P w=match A with
   |some a=>((storeCells (a.add (len*i.size)) news).run P w).andThen λ_ w'=>.ok (.slice (some a) (len+m) cap) w'
   |none=>.ok (.slice none (len+m) cap) w:=by
 cases A with
 |none=>simp[Builtin.append_,run_underlying ht,run_underlying hu,Go.sizeOf,typeInfo,hi,Builtin.lenOf,h,hx]
 |some a=>simp[Builtin.append_,run_underlying ht,run_underlying hu,Go.sizeOf,typeInfo,hi,Builtin.lenOf,h,hx]
def af8{w:World}{t u ty e e':TypeId}{i:TypeInfo}{z:Value}(ht:P.underlying t=some (.slice e))(hu:P.underlying u=some (.slice e'))(hi:P.info? e=some i)(hz:i.zero=some z){A B:Option Addr}{len cap m cap2:Nat}{olds news:List Value}(h:¬len+m<=cap)
  (h63:len+m<=9223372036854775807)(hfit:Builtin.nextslicecap (len+m) cap*i.bytes<=281474976710656)
  (hx:(Builtin.firstCells i.size m (.slice B m cap2)).run P w.drew=.ok news.toArray w.drew)(hy:(Builtin.firstCells i.size len (.slice A len cap)).run P w.drew=.ok olds.toArray w.drew):
  (Builtin.append_ #[t,u] ty #[.slice A len cap,.slice B m cap2]).run P w=.ok (.slice (some ⟨w.heap.size,0,none⟩) (len+m) (grownCap w (len+m) cap e))
    (w.drew.alloc (.cells (olds.toArray++news.toArray++Builtin.zeroCells z.cells (grownCap w (len+m) cap e - (len+m))) e)):=by
 have h63':¬(9223372036854775807<((len:Int)+(m:Int))):=by omega
 have abZ:¬(281474976710656<Builtin.nextslicecap (len+m) cap*i.bytes):=by omega
 simp[Builtin.append_,run_underlying ht,run_underlying hu,Go.sizeOf,typeInfo,zeroValue,hi,hz,Builtin.lenOf,h,h63',abZ,Question.forced,hx,hy,newRow,grownCap];congr 2;apply oK;simp[lH]
variable {c:Ctx}{G:Nat->C}{zl:Nat->Nat->Prop}{s:ah}{a:Act}{w:World}{o:Oper}{K:ah->Prop}
def IU(h:St c G zl s a w){G1:Nat->C}{s1:ah}{l:List C}(hT:bF w zl c.zb G l G1 s1){d z bytes:Nat}{ty ty' el D0:TypeId}{i:TypeInfo}{v:Value}{x' y':Operand}
  (ho:o.op=.call {callee:=.builtin .append,args:= #[x',y'],argTypes:= #[ty,ty']})(hu:P.underlying ty=some (.slice el))(wP:P.underlying ty'=some (.slice D0))(hi:P.info? el=some i)(hz:i.zero=some v)(hsz:i.size=z)(hb:i.bytes=bytes)(hb0:0<bytes)(h0:0<z)(hvs:v.cells.size=z)
  (hd:o.dst=some d)(hn:d<c.nt){A:Option Ad}{len cap:Nat}{e:Nat->Nat->C}(hy1:C.row .own z A len cap e∈l)(hv1:a.eval x'=(C.row .own z A len cap e).val)
  {A2:Option Ad}{m cap2:Nat}{e2:Nat->Nat->C}(As:a.eval y'=.slice (A2.map λq=>⟨q.1,q.2.1,q.2.2⟩) m cap2)(hc2:∀i j,i<m->j<z->∃g o,A2=some (g,o,none)/\w.cell? ⟨g,o+i*z+j,none⟩=some (e2 i j).val)
  (hk2:∀i j,i<m->j<z->(e2 i j).plain/\(e2 i j).ok w (Zf zl c.zb)/\∀b k,(e2 i j).fp b k->¬(C.row .own z A len cap e).fp b k/\∃y∈l,y.fp b k)
  (hp2:(cJ m z e2).flatten.Pairwise λa b=>∀x k,a.fp x k->¬b.fp x k)(hbig:(len+m)*bytes<=140737488355328)(hpl:∀i j,i<len->j<z->(e i j).plain)
  (hK:K (put d (.row .own z (dK z len e++dK z m e2)) s1)):Good P c o a w K:=by
 obtain⟨y1,y2,y3,y4⟩:=hT.all _ hy1;have Rv:=y1;obtain⟨r1,r2,r3,r4,r5⟩:=y1;have hk1:∀i j,i<len->j<z->∀b k,(e i j).fp b k->(C.row .own z A len cap e).fp b k:=λi j hi hj b k hf=>C.jV (r3 i j hi hj).1 (r3 i j hi hj).2.2.1 hi hj hf;have hc1:∀i j,i<len->j<z->∃g o,A=some (g,o,none)/\w.cell? ⟨g,o+i*z+j,none⟩=some (e i j).val:=λi j hi hj=>by obtain⟨g,o,q1,q2,_⟩:=r2 i j hi hj;exact⟨g,o,q1,q2⟩
 have hlen:∀x∈cJ len z e++cJ m z e2,x.length=z:=λx hx=>(dO.1 hx).elim (uA _ _ _ x) (uA _ _ _ x);have QV:(cJ len z e).length=len:=by simp[cJ]
 have QW:(cJ m z e2).length=m:=by simp[cJ]
 have Ew:(cJ len z e++cJ m z e2).length=len+m:=by rw[e9,QV,QW]
 have kq:(cJ len z e++cJ m z e2).map (λx=>x.map C.er)=dK z len e++dK z m e2:=by rw[iS,RP,RP]
 have hall:∀x∈(cJ len z e++cJ m z e2).flatten,x.plain/\x.ok w (Zf zl c.zb)/\∀b k,x.fp b k->∃y∈l,y.fp b k:=λx hx=>by
  rw[y8,dO] at hx;rcases hx with hx|hx;·obtain⟨i,j,hi,hj,rfl⟩:=mU hx;exact⟨hpl i j hi hj,(r3 i j hi hj).2.2.2,λb k hf=>⟨_,hy1,hk1 i j hi hj b k hf⟩⟩
  ·obtain⟨i,j,hi,hj,rfl⟩:=mU hx;obtain⟨a1,a2,a3⟩:=hk2 i j hi hj;exact⟨a1,a2,λb k hf=>(a3 b k hf).2⟩
 have gQ:(cJ len z e++cJ m z e2).flatten.Pairwise λa b=>∀x k,a.fp x k->¬b.fp x k:=by rw[y8];refine s7.2 ⟨KY Rv,hp2,λx hx y hy b k hf hf'=>?_⟩;obtain⟨i,j,hi,hj,rfl⟩:=mU hx;obtain⟨i',j',hi',hj',rfl⟩:=mU hy;exact((hk2 i' j' hi' hj').2.2 b k hf').1 (hk1 i j hi hj b k hf)
 have jv:bF w zl c.zb G (cJ len z e++cJ m z e2).flatten G1 s1:=hT.sub (λx hx=>(hall x hx).2.1) (λx hx=>(hall x hx).2.2) gQ;have hfl:(cJ len z e).flatten.length=len*z:=by rw[rz (uA _ _ _),QV]
 have rI:(cJ m z e2).flatten.length=m*z:=by rw[rz (uA _ _ _),QW]
 have lR:∀r w',(Builtin.append_ #[ty,ty'] o.type #[(C.row .own z A len cap e).val,.slice (A2.map λq=>⟨q.1,q.2.1,q.2.2⟩) m cap2]).run P w=.ok r w'->(execOp a.eval o).run P w=.ok (.value r) w':=λr w' hr=>by simp[execOp,ho,resolve,invoke,builtin,hv1,As,hr]
 have hmul:len+m<=(len+m)*bytes:=Nat.le_mul_of_pos_right _ hb0;subst hsz;by_cases hroom:len+m<=cap
 ·have hx:=JL (P:=P) (cap:=cap2) h0 hc2;have hr:=af9 (P:=P) (ty:=o.type) (A:=A.map λq=>⟨q.1,q.2.1,q.2.2⟩) hu wP hi hroom hx.1;rcases r4 rfl with ⟨hA,hcap⟩|⟨g,o',arr,t,fz,hA,hh,amh,hfr⟩
  ·
   have hm:m=0:=by omega
   have hl:len=0:=by omega
   subst hm;subst hl;subst hA;subst hcap;obtain⟨G',h'⟩:=h.fresh hT (Ext.refl _ w) hn Rv trivial (λb k hf=>.inr ⟨_,hy1,hf⟩);refine⟨_,w,.inl (lR _ _ hr),G',zl,_,hK,?_⟩;rw[hd];exact h'
  ·subst hA;have J7:(len+m)*i.size<=cap*i.size:=nD _ hroom;rw[e8] at J7
   have hst:=run_storeCells_cells (P:=P) g (o'+len*i.size) ((cJ m i.size e2).flatten.map C.val) 0 w (λj hj=>by
     rw[cZ,rI] at hj;rw[cell_of_row _ _ _ _ _ fz hh];rw[Ir (by omega)];rfl) (λj hj=>by
     rw[cZ,rI] at hj;exact hfr _ (by omega) (by omega)) (λu hu=>by
     obtain⟨x,hx,rfl⟩:=bg.1 hu;obtain⟨i',j',hi',hj',rfl⟩:=mU hx;exact Inv.qZ (C.lg (hk2 i' j' hi' hj').1))
   simp only[cg,qP,hst,nB,Result.andThen_ok] at hr;have hE:=Ext.setCells g ((cJ m i.size e2).flatten.map C.val) (o'+len*i.size) w;rw[cZ,rI] at hE;have hin:=World.cell?_setCells_in g ((cJ m i.size e2).flatten.map C.val) (o'+len*i.size) w;generalize hw':w.setCells g (o'+len*i.size) ((cJ m i.size e2).flatten.map C.val)=w' at hr hE hin;have hg:g<w.heap.size:=(j9.1 hh).1;have wI:∀k,(C.row .own i.size (some (g,o',none)) len cap e).fp g k:=λk=>⟨rfl,.inl ⟨_,rfl⟩⟩
   obtain⟨fT,pI,hs'⟩:∃fT,w'.heap[g]?=some (.cells fT t fz)/\fT.size=arr.size:=by
    rcases hE.block g hg with e'|⟨a1,a2,t',lQ,q1,q2,q3,q4⟩;·exact⟨arr,e'.trans hh,rfl⟩
    ·rw[hh] at q1;injection q1 with q1
     injection q1 with b1 b2 b3
     subst b1;subst b2;subst b3;exact⟨a2,q2,q3⟩
   have hok:(uL g o' i.size cap (cJ len i.size e++cJ m i.size e2)).ok w' (Zf zl c.zb):=by
    refine Tg hlen (by rw[Ew];exact hroom) pI (by omega) (λk h1 h2=>(hE.frozen hg).trans (hfr k h1 h2)) (λq x hq=>?_) (λx hx=>?_) gQ (λx hx b k hf=>?_)
    ·rw[y8] at hq;by_cases hql:q<len*i.size
     ·rw[nF (by omega)] at hq;obtain⟨a1,a2,rfl⟩:=RO h0 hq;obtain⟨g',o2,hA,hcl⟩:=hc1 _ _ a1 a2;injection hA with hA
      injection hA with b1 b2
      injection b2 with b2
      subst b1;subst b2;have Ao:q=q / i.size*i.size+q%i.size:=by have:=C8 q i.size;rw[qH] at this;omega
      refine hE.cell (λhs=>by omega) ?_;rw[<-hcl];congr 2;omega
     ·rw[iB (by omega)] at hq;rw[hfl] at hq;have rL:=(aL.1 hq).1;rw[rI] at rL;have:=hin (λj hj=>by rw[cZ,rI] at hj;rw[cell_of_row _ _ _ _ _ fz hh,Ir (by omega)];rfl) (q - len*i.size) (by rw[cZ,rI];exact rL)
      rw[show o'+len*i.size+(q - len*i.size)=o'+q by omega] at this;rw[this,<-cm,cR,hq];rfl
    ·obtain⟨a1,a2,a3⟩:=hall x hx;refine⟨C.lg a1,C.BE a1,hT.fits' hE (λb k hz hs=>?_) a2 (λb k hf hs=>?_)⟩;·obtain⟨rfl,_⟩:=hs;exact hz.elim (y3 b k (wI k)).1 (y3 b k (wI k)).2
     ·obtain⟨rfl,_⟩:=hs;rw[y8,dO] at hx;rcases hx with hx|hx;·obtain⟨i',j',hi',hj',rfl⟩:=mU hx;exact(r5 i' j' hi' hj' b k hf).1 rfl o' rfl
      ·obtain⟨i',j',hi',hj',rfl⟩:=mU hx;exact((hk2 i' j' hi' hj').2.2 b k hf).1 (wI k)
    ·intro hbg;subst hbg;rw[y8,dO] at hx;rcases hx with hx|hx;·obtain⟨i',j',hi',hj',rfl⟩:=mU hx;exact(r5 i' j' hi' hj' b k hf).1 rfl o' rfl
     ·obtain⟨i',j',hi',hj',rfl⟩:=mU hx;exact((hk2 i' j' hi' hj').2.2 b k hf).1 (wI k)
   obtain⟨G',h'⟩:=h.fresh' hT hE (λb k hs=>.inr ⟨_,hy1,by rw[hs.1];exact wI k⟩) hn hok trivial (λb k hf=>by
    rcases Tf hlen hf with rfl|⟨x,hx,hf⟩;·exact .inr ⟨_,hy1,wI k⟩
    ·exact .inr ((hall x hx).2.2 b k hf))
   refine⟨_,w',.inl (lR _ _ hr),G',zl,_,hK,?_⟩;rw[hd];rw[Te hlen,kq,afY,Ew] at h';exact h'
 ·have hx:=JL (P:=P) (w1:=w.drew) (cap:=cap2) h0 hc2;have hy:=JL (P:=P) (w1:=w.drew) (cap:=cap) h0 hc1;have hr:=af8 (P:=P) (ty:=o.type) hu wP hi hz hroom (by omega) (growslice_fits (by omega) (by rw[hb];exact hbig)) hx.1 hy.1;have hge:=grownCap_ge w (len+m) cap el;generalize grownCap w (len+m) cap el=cap' at hr hge;refine jH.good (good_row h (L:=cJ len i.size e++cJ m i.size e2) (cap:=cap') (fz:=(0,0)) hlen (by rw[Ew];exact hge) jv (λx hx=>(hall x hx).1) hd hn (PK w _) (Ai w.drew _) ?_ (λk _ hh=>by simp at hh) (λq x hq=>?_) (by rw[Ew];exact lR _ _ hr) (by rw[kq];exact hK));·simp only[Ny,oM,cZ,hfl,rI,size_zeroCells,hvs];rw[<-e8,<-e8];exact nD _ (by omega)
  ·rw[y8] at hq;have rL:=(aL.1 hq).1;have hmap:(((cJ len i.size e).flatten++(cJ m i.size e2).flatten).map C.val)[q]?=some x.val:=by rw[cR,hq];rfl
   rw[NO (by rw[Ny,oM,oM,cZ,cZ,<-e9];exact rL)];rw[<-hmap,iS];simp
end
end M
namespace M
open Go Go.RowKit
variable [Bs]
namespace C
def belows(r:Nat)(p:Path):Nat->Path->Bool:=λs q=>s==r && oY p q
def Bc(r:Nat)(p:Path){α:Type}(f:α->X):∀l:List α,X.pT r p (l.map f)=l.map λa=>(f a).eY r p
 |[]=>rfl
 |a::l=>by simp only[bn,X.pT,Bc r p f l]
def xe(r:Nat)(p:Path):∀c:C,(c.aA (belows r p)).er=c.er.eY r p
 |.ref v s q=>by simp only[aA,er,X.eY,belows];cases s==r && oY p q<;>rfl
 |.ax v s q i c=>by simp only[aA,er,X.eY,belows];cases s==r && oY p q<;>rfl
 |.cut v s q i c=>by simp only[aA,er,X.eY,belows];cases s==r && oY p q<;>rfl
 |.ptr m g o n c=>by simp only[aA,er,X.eY,Bc];congr 1;exact b7 λj _=>xe r p (c j)
 |.agg n c=>by simp only[aA,er,X.eY,Bc];congr 1;exact b7 λj _=>xe r p (c j)
 |.ak n c=>by simp only[aA,er,X.eY,Bc];congr 1;exact b7 λj _=>xe r p (c j)
 |.fn f n c=>by simp only[aA,er,X.eY,Bc];congr 1;exact b7 λj _=>xe r p (c j)
 |.dead _=>by simp only[aA,er,X.eY]
 |.int _ _=>by simp only[aA,er,X.eY]
 |.bool _=>by simp only[aA,er,X.eY]
 |.str _=>by simp only[aA,er,X.eY]
 |.row _ _ _ _ _ _=>by simp only[aA,er,X.eY]
def qU(G:Nat->C):∀c:C,c.bare->c.rf G
 |.ref _ _ _,h=>h.elim
 |.ax _ _ _ _ _,h=>h.elim
 |.cut _ _ _ _ _,h=>h.elim
 |.ptr m g o n c,h=>λj hj=>qU G (c j) (h j hj)
 |.agg n c,h=>λj hj=>qU G (c j) (h j hj)
 |.ak n c,h=>λj hj=>qU G (c j) (h j hj)
 |.fn f n c,h=>λj hj=>qU G (c j) (h j hj)
 |.dead _,_=>trivial
 |.int _ _,_=>trivial
 |.bool _,_=>trivial
 |.str _,_=>trivial
 |.row _ _ _ _ _ _,_=>trivial
def vX{l:List X}:X.bare.iX l=true↔∀x∈l,x.bare=true:=by
 induction l with
 |nil=>simp[X.bare.iX]
 |cons a l ih=>simp[X.bare.iX,ih]
def lI:∀c:C,c.er.bare=true↔c.bare
 |.ref _ _ _=>by simp[er,X.bare,bare]
 |.ax _ _ _ _ _=>by simp[er,X.bare,bare]
 |.cut _ _ _ _ _=>by simp[er,X.bare,bare]
 |.ptr m g o n c=>by simp only[er,X.bare,bare,vX,bg,s6];exact⟨λh j hj=>(lI (c j)).1 (h _ ⟨j,hj,rfl⟩),λh x ⟨j,hj,e⟩=>e▸(lI (c j)).2 (h j hj)⟩
 |.agg n c=>by simp only[er,X.bare,bare,vX,bg,s6];exact⟨λh j hj=>(lI (c j)).1 (h _ ⟨j,hj,rfl⟩),λh x ⟨j,hj,e⟩=>e▸(lI (c j)).2 (h j hj)⟩
 |.ak n c=>by simp only[er,X.bare,bare,vX,bg,s6];exact⟨λh j hj=>(lI (c j)).1 (h _ ⟨j,hj,rfl⟩),λh x ⟨j,hj,e⟩=>e▸(lI (c j)).2 (h j hj)⟩
 |.fn f n c=>by simp only[er,X.bare,bare,vX,bg,s6];exact⟨λh j hj=>(lI (c j)).1 (h _ ⟨j,hj,rfl⟩),λh x ⟨j,hj,e⟩=>e▸(lI (c j)).2 (h j hj)⟩
 |.dead _=>by simp[er,X.bare,bare]
 |.int _ _=>by simp[er,X.bare,bare]
 |.bool _=>by simp[er,X.bare,bare]
 |.str _=>by simp[er,X.bare,bare]
 |.row _ _ _ _ _ _=>by simp[er,X.bare,bare]
def SU:∀{p q:Path},X.pfx p q=true->¬p.length<q.length->q=p
 |[],[],_,_=>rfl
 |[],_::_,_,h=>by simp at h
 |_::_,[],h,_=>by simp[X.pfx] at h
 |x::p,y::q,h,hl=>by simp only[X.pfx,az,eu] at h;obtain⟨⟨h1,h2⟩,h3⟩:=h;rw[SU h3 (by simpa using hl)];congr 1;cases x;cases y;simp only at h1 h2;rw[h1,h2]
end C
def QD(r:Nat)(p:Path)(t:Nat):∀s:ah,get (rU r p s) t=(get s t).eY r p
 |[]=>by simp[rU,get,X.eY]
 |(k,v)::s=>by
  simp only[rU,get];cases k==t;·exact QD r p t s
  ·rfl
namespace Inv
variable {w w':World}{zl aF zb:Nat->Nat->Prop}{G:Nat->C}{s:ah}{S:Nat->Nat->Prop}
def eY(h:Inv w zl zb G s)(r:Nat)(p:Path):Inv w zl zb (λt=>(G t).aA (C.belows r p)) (rU r p s):=
 h.off _ λt=>by rw[C.xe,QD,h.er]
def IX(h:Inv w zl zb G s)(r:Nat)(p:Path)(hfree:∀t,(G t).free (C.belows r p)){d d':C}(hsub:(G r).sub p=some d)(hF:C.gm d d')(hl:C.hU d d')(Q3:d'.rf G/\d'.free (C.belows r p))(hE:Ext S w w')
  (hS:∀b k,S b k->d.fp b k\/((∀t,¬(G t).fp b k)/\¬zl b k/\¬zb b k))(hok:d'.ok w' (Zf aF zb))(hz1:∀b k,zl b k->aF b k)(hz2:∀b k,aF b k->¬d'.fp b k/\b<w'.heap.size/\∀t,(G t).fp b k->d.fp b k)
  (cr:∀b k,d'.fp b k->d.fp b k\/((∀t,¬(G t).fp b k)/\¬zb b k)):
  Inv w' aF zb (fH G r (C.putAt p (G r) d')) ((r,X.putAt p (get s r) d'.er)::s)/\(∀t,(fH G r (C.putAt p (G r) d') t).val=(G t).val)/\
   ∀t b k,(fH G r (C.putAt p (G r) d') t).fp b k->d'.fp b k\/((G t).fp b k/\¬d.fp b k):=by
 have aZ:∀{b k},d.fp b k->(G r).fp b k:=λhf=>C.gH p hsub (h.ok r) hf
 have hZ:∀m b k,Zf zl zb m b k->¬S b k:=λm b k hz hs=>by
  rcases hS b k hs with hs|hs;·exact h.zc r m b k hz (aZ hs)
  ·cases m with
   |own=>exact hz.elim
   |sl=>exact hs.2.1 hz
   |af=>exact hz.elim hs.2.1 hs.2.2
 have hM:∀m b k,Zf zl zb m b k->Zf aF zb m b k:=λm b k hz=>by
  cases m with
  |own=>exact hz
  |sl=>exact hz1 b k hz
  |af=>exact hz.imp (hz1 b k) id
 obtain⟨i1,i2,i3⟩:=C.Bz hM hE hZ p (G r) d d' (h.ok r) hsub hok hl (λb k hs=>(hS b k hs).imp id λhn=>hn.1 r) (λb k hf=>(cr b k hf).imp id λhn=>hn.1 r)
 have hr':∀t,t≠r->∀b k,(C.putAt p (G r) d').fp b k->¬(G t).fp b k:=λt e b k hf=>by
  rcases i2 b k hf with hf|hf
  ·rcases cr b k hf with hf|hf;·exact h.sep r t (λe'=>e e'.symm) b k (aZ hf)
   ·exact hf.1 t
  ·exact h.sep r t (λe'=>e e'.symm) b k hf.1
 have key:∀c':C,c'.free (C.belows r p)->c'.rf G->c'.rf (fH G r (C.putAt p (G r) d')):=λc' hf hr=>C.lu (C.belows r p) (λs' q' y' hk hs=>by
  by_cases e:s'=r
  ·subst e;rw[dD];cases hp:X.pfx p q' with
   |false=>exact C.HA p q' (G s') d' y' hp hs
   |true=>
    have hlen:¬p.length<q'.length:=by simpa [C.belows,oY,hp] using hk
    have he:=C.SU hp hlen;subst he;rw[hsub] at hs;injection hs with hs
    subst hs;exact .inl ⟨d',hF,C.HB _ hsub⟩
  ·rw[cX _ _ e];exact C.self y' _ q' hs) c' hf hr
 refine⟨⟨λt=>?_,λt=>?_,λt u hne b k hf=>?_,λt b k hf=>?_,λt=>?_,λb k hz=>?_⟩,λt=>?_,λt b k hf=>?_⟩
 ·rw[wG];by_cases e:t=r;·subst e;rw[dD,au rfl,C.Lx,h.er]
  ·rw[cX _ _ e,aC e];exact h.er t
 ·by_cases e:t=r;·subst e;rw[dD];exact i1
  ·rw[cX _ _ e];refine C.gE hM _ (C.fG hE hZ _ (λb k hf hs=>?_) (h.ok t));rcases hS b k hs with hs|hs;·exact h.sep t r e b k hf (aZ hs)
   ·exact hs.1 t hf
 ·by_cases e:t=r;·subst e;rw[dD] at hf;rw[cX _ _ (λe=>hne e.symm)];exact hr' u (λe=>hne e.symm) b k hf
  ·rw[cX _ _ e] at hf;by_cases e':u=r;·subst e';rw[dD];exact λhc=>hr' t e b k hc hf
   ·rw[cX _ _ e'];exact h.sep t u hne b k hf
 ·by_cases e:t=r
  ·subst e;rw[dD] at hf;rcases i2 b k hf with hf|⟨hf,hn⟩
   ·refine⟨λhz=>(hz2 b k hz).1 hf,λhz=>?_⟩;rcases cr b k hf with hf|hf;·exact(h.fz t b k (aZ hf)).2 hz
    ·exact hf.2 hz
   ·exact⟨λhz=>hn ((hz2 b k hz).2.2 t hf),(h.fz t b k hf).2⟩
  ·rw[cX _ _ e] at hf;exact⟨λhz=>h.sep t r e b k hf (aZ ((hz2 b k hz).2.2 t hf)),(h.fz t b k hf).2⟩
 ·by_cases e:t=r
  ·subst e;rw[dD]
   have inner:∀(p':Path) (c':C),c'.free (C.belows t p)->c'.rf G->(C.putAt p' c' d').rf (fH G t (C.putAt p (G t) d')):=by
    intro p';induction p' with
    |nil=>intro c' _ _;exact key d' Q3.2 Q3.1
    |cons x p' ih=>
     intro c' ja jS;simp only[C.putAt];cases hst:c'.step x with
     |none=>exact key c' ja jS
     |some z=>
      cases c' with
      |row m sz A len cap e=>trivial
      |ptr m g o n c=>
       simp only[C.step] at hst;split at hst
       ·rename_i hq;injection hst with hst
        intro j hj;simp only[C.bW];split;·exact ih z (by rw[<-hst];exact ja _ hq.2) (by rw[<-hst];exact jS _ hq.2)
        ·exact key _ (ja j hj) (jS j hj)
       ·cases hst
      |agg n c=>
       simp only[C.step] at hst;split at hst
       ·rename_i hq;injection hst with hst
        intro j hj;simp only[C.bW];split;·exact ih z (by rw[<-hst];exact ja _ hq.2) (by rw[<-hst];exact jS _ hq.2)
        ·exact key _ (ja j hj) (jS j hj)
       ·cases hst
      |ak n c=>
       simp only[C.step] at hst;split at hst
       ·rename_i hq;injection hst with hst
        intro j hj;simp only[C.bW];split;·exact ih z (by rw[<-hst];exact ja _ hq.2) (by rw[<-hst];exact jS _ hq.2)
        ·exact key _ (ja j hj) (jS j hj)
       ·cases hst
      |_=>simp[C.step] at hst
   exact inner p (G t) (hfree t) (h.rf t)
  ·rw[cX _ _ e];exact key _ (hfree t) (h.rf t)
 ·exact hz.elim (λhz=>(hz2 b k hz).2.1) λhz=>kL (h.cB b k (.inr hz)) hE.size
 ·by_cases e:t=r;·subst e;rw[dD];exact i3.val
  ·rw[cX _ _ e]
 ·by_cases e:t=r;·subst e;rw[dD] at hf;exact i2 b k hf
  ·rw[cX _ _ e] at hf;exact .inr ⟨hf,λhd=>h.sep t r e b k hf (aZ hd)⟩
def Ov(h:Inv w zl zb G s)(hE:Ext S w w')(hS:∀b k,S b k->(∀t,¬(G t).fp b k)/\¬zl b k/\¬zb b k)(hz1:∀b k,zl b k->aF b k)(hz2:∀b k,aF b k->b<w'.heap.size/\∀t,¬(G t).fp b k):Inv w' aF zb G s:=by
 have h1:=h.ext hE (λt b k hf hs=>(hS b k hs).1 t hf) (λb k hz hs=>hz.elim (hS b k hs).2.1 (hS b k hs).2.2);refine⟨h1.er,λt=>C.gE (λm b k hz=>?_) _ (h1.ok t),h1.sep,λt b k hf=>⟨λhz=>(hz2 b k hz).2 t hf,(h1.fz t b k hf).2⟩,h1.rf,λb k hz=>hz.elim (λhz=>(hz2 b k hz).1) λhz=>h1.cB b k (.inr hz)⟩;cases m with
 |own=>exact hz
 |sl=>exact hz1 b k hz
 |af=>exact hz.imp (hz1 b k) id
end Inv
end M
namespace M
open Go Go.RowKit
variable [Bs]
section
variable {P:Program}{c:Ctx}{G:Nat->C}{zl:Nat->Nat->Prop}{s:ah}{a:Act}{w:World}{o:Oper}{K:ah->Prop}
def afc(h:St c G zl s a w){sz:Nat}{z:List X}{ty el:TypeId}{ii:TypeInfo}{v:Value}{x:AV}{x':Operand}(ho:o.op=.call {callee:=.builtin .clear,args:= #[x'],argTypes:= #[ty]})(hu:P.underlying ty=some (.slice el))(hi:P.info? el=some ii)(hz:ii.zero=some v)
  (J7:mI v.cells.toList z=true)(hzs:z.length=sz)(h0:0<sz)(hd:o.dst=none)(hx:aM x' x=true)(hK:aP P (.wq sz z x) s K):Good P c o a w K:=by
 obtain⟨q,q1,q2,q3⟩:=cj h hx;simp only[aP] at hK;rw[<-q1] at hK;cases q with
 |cut vv r p lo hi'=>
  simp only[C.er] at hK;obtain⟨m,bM,A,len,cap,e,A',cap',hs,hv,hlo,hhi,hcap,kj,-,-⟩:=q3.rf;unfold look at hK;rw[<-h.inv.er,C.gG,hs] at hK;cases m with
  |own=>
   simp only[cg,C.er] at hK;obtain⟨rfl,hK⟩:=hK;obtain⟨zs,Z⟩:=Dh w zl c.zb J7;have hzl:zs.length=z.length:=by rw[<-Z.er];simp
   have hvs:v.cells.size=z.length:=by rw[<-hzl,<-C0,<-Z.val];simp
   have hok:=C.gY p hs (h.inv.ok r);have hin:∀b k,(C.row .own bM A len cap e).fp b k->(G r).fp b k:=λb k hf=>C.gH p hs (h.inv.ok r) hf;obtain⟨h1,h2,h3,h4,h5⟩:=hok;let e':Nat->Nat->C:=λi j=>if lo<=i/\i<hi' then zs.getD j (.dead undef) else e i j
   have he:∀i j,(lo<=i/\i<hi')->e' i j=zs.getD j (.dead undef):=λi j hh=>au hh;have hne:∀i j,¬(lo<=i/\i<hi')->e' i j=e i j:=λi j hh=>aC hh;have AB:∀j,j<bM->zs.getD j (.dead undef)∈zs:=λj hj=>cI (by omega) _;have ku:∀i j,i<len->j<bM->∀b k,(e i j).fp b k->(C.row .own bM A len cap e).fp b k:=λi j hi hj b k hf=>⟨rfl,.inr ⟨i,j,hi,hj,hf⟩⟩
   have uc:∀b k,(C.row .own bM A len cap e').fp b k->(C.row .own bM A len cap e).fp b k:=λb k hf=>by
    obtain⟨_,hA|⟨i,j,hi2,hj,hf⟩⟩:=hf;·exact⟨rfl,.inl hA⟩
    ·by_cases hh:lo<=i/\i<hi';·rw[he i j hh] at hf;exact((Z.all _ (AB j hj)).2.2 b k hf).elim
     ·rw[hne i j hh] at hf;exact ku i j hi2 hj b k hf
   have run:∃w',(execOp a.eval o).run P w=.ok (.value (.tuple #[])) w'/\Ext (λb k=>∃o',A=some (b,o',none)) w w'/\∀i j,i<len->j<bM->∃g o',A=some (g,o',none)/\w'.cell? ⟨g,o'+i*bM+j,none⟩=some (e' i j).val:=by
    have lR:∀n' A2 c2 r w',a.eval x'=.slice A2 n' c2->(Builtin.clear_ #[ty] o.type #[.slice A2 n' c2]).run P w=.ok r w'->(execOp a.eval o).run P w=.ok (.value r) w':=by intro n' A2 c2 r w' hh hr;simp[execOp,ho,hh,resolve,invoke,builtin,hr]
    by_cases hn0:hi' - lo=0
    ·refine⟨w,?_,Ext.refl _ _,λi j lT hj=>?_⟩
     ·have As:a.eval x'=.slice (Option.map (λq:Ad=>⟨q.1,q.2.1,q.2.2⟩) A') 0 cap':=by rw[<-q2,C.val,hv,hn0]
      refine lR _ _ _ _ _ As ?_;cases A'<;>simp[Builtin.clear_,run_underlying hu]
     ·obtain⟨g,o',b1,b2,_⟩:=h2 i j lT hj;exact⟨g,o',b1,by rw[b2,hne i j (by omega)]⟩
    ·obtain⟨g,o',b1,_,_⟩:=h2 lo 0 (by omega) h0;have hAs:A'=some (g,o'+lo*bM,none):=by rw[kj (by omega),b1,cg,oW]
     have hall:∀i j,i<len->j<bM->w.cell? ⟨g,o'+i*bM+j,none⟩=some (e i j).val:=λi j lT hj=>by
      obtain⟨g2,o2,c1,c2,_⟩:=h2 i j lT hj;rw[b1] at c1;injection c1 with c1
      injection c1 with c3 c4
      injection c4 with c4
      subst c3;subst c4;exact c2
     have acw:∀k,o'<=k->k<o'+cap*bM->w.frozen? ⟨g,k,none⟩=false:=by
      rcases h4 rfl with ⟨d1,_⟩|⟨g2,o2,arr,t,fz,d1,d2,d3,d4⟩;·rw[b1] at d1;cases d1
      ·rw[b1] at d1;injection d1 with d1
       injection d1 with d5 d6
       injection d6 with d6
       subst d5;subst d6;exact d4
     let vs:List Value:=(Builtin.zeroCells v.cells (hi' - lo)).toList;have hvl:vs.length=(hi' - lo)*bM:=by simp[vs,Builtin.zeroCells,hvs,hzs]
     have Rt:∀k (hk:k<vs.length),vs[k]=(zs.getD (k%bM) (.dead undef)).val:=by
      intro k hk;have hm:k%bM<zs.length:=by rw[hzl,hzs];exact tc _ h0
      have hm2:k%bM<v.cells.size:=by omega
      have e1:vs[k]=v.cells[k%v.cells.size]!:=by simp[vs,Builtin.zeroCells]
      rw[e1,hvs,hzs,getElem!_pos v.cells (k%bM) hm2];have:=dr (λt:List Value=>t[k%bM]?) Z.val;simp only[cR] at this;rw[cm hm] at this;rw[iT,cm hm];simp only[cg,Array.getElem?_toList,Ir hm2,dP] at this;exact this.symm
     have hidx:∀k,k<(hi' - lo)*bM->k / bM<hi' - lo/\k=k / bM*bM+k%bM:=λk hk=>by refine⟨(Nat.div_lt_iff_lt_mul h0).2 hk,?_⟩;have:=C8 k bM;rw[qH] at this;omega
     have Rl:∀k,k<(hi' - lo)*bM->o'+lo*bM+k=o'+(lo+k / bM)*bM+k%bM:=λk hk=>by have:=(hidx k hk).2;rw[e8];omega
     have hsome:∀j,j<vs.length->(w.cell? ⟨g,o'+lo*bM+j,none⟩).isSome=true:=λj hj=>by rw[hvl] at hj;rw[Rl j hj,hall _ _ (by have:=(hidx j hj).1;omega) (tc _ h0)];rfl
     have hst:=run_storeCells_cells (P:=P) g (o'+lo*bM) vs 0 w (by simpa using hsome) (λj hj=>by
      rw[hvl] at hj;refine acw _ (by omega) ?_;rw[nB,Rl j hj];have h7:=(hidx j hj).1;have h8:(lo+j / bM+1)*bM<=cap*bM:=nD _ (by omega);have h9:=tc j h0;rw[e8,Ig] at h8;omega) (λu hu=>by
      obtain⟨k,hk,rfl⟩:=vO hu;rw[Rt k hk];exact Inv.qZ (C.lg (Z.all _ (AB _ (tc _ h0))).1))
     have hE:=Ext.setCells g vs (o'+lo*bM) w;have ab8:=World.cell?_setCells_in g vs (o'+lo*bM) w hsome;simp only[nB] at hst;refine⟨w.setCells g (o'+lo*bM) vs,?_,hE.mono λb k hh _=>⟨o',by rw[b1,hh.1]⟩,λi j lT hj=>⟨g,o',b1,?_⟩⟩
     ·have As:a.eval x'=.slice (some ⟨g,o'+lo*bM,none⟩) (hi' - lo) cap':=by rw[<-q2,C.val,hv,hAs];rfl
      refine lR _ _ _ _ _ As ?_;obtain⟨m,hm⟩:∃m,hi' - lo=m+1:=⟨hi' - lo - 1,by omega⟩;have hzr:∀w,(zeroValue el).run P w=.ok v w:=by intro w;simp[zeroValue,typeInfo,hi,hz]
      simp only[vs,hm] at hst⊢;simp[Builtin.clear_,run_underlying hu,hzr,hst]
     ·by_cases hh:lo<=i/\i<hi'
      ·have hk:(i - lo)*bM+j<vs.length:=by rw[hvl];have:(i - lo+1)*bM<=(hi' - lo)*bM:=nD _ (by omega);rw[e8,Ig] at this;omega
       have:=ab8 _ hk;rw[Rt _ hk,Nat.mul_add_mod_self_right,Nat.mod_eq_of_lt hj] at this;have hq:lo*bM+(i - lo)*bM=i*bM:=by rw[<-e8];congr 1;omega
       rw[show o'+lo*bM+((i - lo)*bM+j)=o'+i*bM+j by omega] at this;rw[he i j hh];exact this
      ·rw[hne i j hh,World.cell?_setCells_out,hall i j lT hj];intro _ _;simp only;rw[hvl];by_cases hl:i<lo;·left;have:(i+1)*bM<=lo*bM:=nD _ (by omega);rw[e8,Ig] at this;omega
       ·right;have t1:hi'*bM<=i*bM:=nD _ (by omega);have t2:lo*bM+(hi' - lo)*bM=hi'*bM:=by rw[<-e8];congr 1;omega
        omega
   obtain⟨w',hrun,hE,hcell⟩:=run;have rE:∀b k,(∃o',A=some (b,o',none))->(C.row .own bM A len cap e).fp b k:=λb k hh=>⟨rfl,.inl hh⟩;have QY:∀m b k,Zf zl c.zb m b k->¬(∃o',A=some (b,o',none)):=λm b k hz hh=>h.inv.zc r m b k hz (hin b k (rE b k hh))
   have J8:(C.row .own bM A len cap e').ok w' (Zf zl c.zb):=by
    refine⟨h1,λi j lT hj=>?_,λi j lT hj=>?_,λhm=>?_,λi j lT hj b k hf=>?_⟩;·obtain⟨g,o',c1,c2⟩:=hcell i j lT hj;exact⟨g,o',c1,c2,λhm=>(hm rfl).elim⟩
    ·obtain⟨a1,a2,a3,a4⟩:=h3 i j lT hj;by_cases hh:lo<=i/\i<hi';·rw[he i j hh];obtain⟨b1,b2,b3⟩:=Z.all _ (AB j hj);exact⟨C.lg b1,C.BE b1,by cases hq:zs.getD j (.dead undef)<;>first|trivial|exact .inl rfl,C.fG hE QY _ (λb k hf=>(b3 b k hf).elim) b2⟩
     ·rw[hne i j hh];exact⟨a1,a2,a3,C.fG hE QY _ (λb k hf hS=>by obtain⟨o',hA⟩:=hS;exact(h5 i j lT hj b k hf).1 rfl o' hA) a4⟩
    ·rcases h4 hm with hh|⟨g,o',arr,t,fz,d1,d2,d3,d4⟩;·exact .inl hh
     ·have hg:g<w.heap.size:=(j9.1 d2).1
      obtain⟨fT,pI,hs'⟩:∃fT,w'.heap[g]?=some (.cells fT t fz)/\fT.size=arr.size:=by
       rcases hE.block g hg with e'|⟨a1,a2,t',lQ,q1,q2,q3,q4⟩;·exact⟨arr,e'.trans d2,rfl⟩
       ·rw[d2] at q1;injection q1 with q1
        injection q1 with b1 b2 b3
        subst b1;subst b2;subst b3;exact⟨a2,q2,q3⟩
      exact .inr ⟨g,o',fT,t,fz,d1,pI,by omega,λk k1 k2=>(hE.frozen hg).trans (d4 k k1 k2)⟩
    ·by_cases hh:lo<=i/\i<hi';·rw[he i j hh] at hf;exact((Z.all _ (AB j hj)).2.2 b k hf).elim
     ·rw[hne i j hh] at hf;obtain⟨a1,a2⟩:=h5 i j lT hj b k hf;refine⟨a1,λi' j' hi2 hj2 Kn hf'=>?_⟩;by_cases pI:lo<=i'/\i'<hi';·rw[he i' j' pI] at hf';exact(Z.all _ (AB j' hj2)).2.2 b k hf'
      ·rw[hne i' j' pI] at hf';exact a2 i' j' hi2 hj2 Kn hf'
   have hk0:=h.inv.eY r p;have hs0:((G r).aA (C.belows r p)).sub p=some (C.row .own bM A len cap e):=C.jg _ p _ _ (h.inv.ok r) hs
   obtain⟨i1,i2,i3⟩:=hk0.IX r p (λt=>C.gD _ _) hs0 (C.gm.row .own .own bM A len cap e e') ⟨rfl,λh=>h,λh=>h,λh=>h,λm h=>h⟩ ⟨trivial,trivial⟩ hE (λb k hs=>.inl (rE b k hs)) J8 (λb k hz=>hz)
    (λb k hz=>⟨λhf=>(h.inv.fz r b k (hin b k (uc b k hf))).1 hz,kL (h.inv.cB b k (.inl hz)) hE.size,λt hf=>by rw[C.cG] at hf;exact((h.inv.fz t b k hf).1 hz).elim⟩) (λb k hf=>.inl (uc b k hf))
   have kq:(C.row .own bM A len cap e').er=.row .own bM (Ed lo hi' z ((List.range len).map λi=>(List.range bM).map λj=>(e i j).er)):=by
    simp only[C.er,Ed];congr 1;apply hO;intro i;rw[Df,C.cU,C.cU];split
    ·simp only[cg,dP];by_cases hh:lo<=i/\i<hi';·rw[au hh,<-Z.er,<-l9 zs (.dead undef) C.er,hzl,hzs];exact b7 λj _=>by rw[he i j hh]
     ·rw[aC hh];exact b7 λj _=>by rw[hne i j hh]
    ·rfl
   rw[kq] at i1
   have hst:St c _ zl _ a w':=h.move i1 (λt=>(i2 t).trans (C.jh _ _)) hE (λb k hs=>h.tr.dom r b k (hin b k (rE b k hs))) (λt b k hf=>by
    rcases i3 t b k hf with hd|⟨hh,_⟩;·exact .inl ⟨r,hin b k (uc b k hd)⟩
    ·rw[C.cG] at hh;exact .inl ⟨t,hh⟩)
   exact⟨.tuple #[],w',.inl hrun,_,zl,_,hK,by rw[hd];exact hst⟩
  |sl=>exact hK.elim
  |af=>exact hK.elim
 |_=>exact hK.elim
end
end M
namespace M
open Go Go.RowKit
variable [Bs]
section
variable {P:Program}{c:Ctx}{G:Nat->C}{zl:Nat->Nat->Prop}{s:ah}{a:Act}{w:World}{o:Oper}{K:ah->Prop}
def Lu{x:C}(hc:x.cell)(hs:x.cO):x.plain:=by cases x<;>first|exact hc|exact hs.elim|trivial
def zV{x:C}{m:Md}{z:Nat}{xs:List (List X)}(h:x.er=.row m z xs):∃A len cap e,x=.row m z A len cap e/\xs=dK z len e:=by
 cases x with
 |row m' z' A len cap e=>
  simp only[C.er] at h;injection h with h1 h2 h3
  subst h1;subst h2;exact⟨A,len,cap,e,rfl,h3.symm⟩
 |_=>simp[C.er] at h
def Ts{z len:Nat}{e:Nat->Nat->C}(h:scalars (dK z len e)){i j:Nat}(hi:i<len)(hj:j<z):scalar (e i j).er=true:=
 h _ (bg.2 ⟨i,by simpa using hi,rfl⟩) _ (bg.2 ⟨j,by simpa using hj,rfl⟩)
def Tt{x:C}(h:scalar x.er=true):x.plain/\∀b k,¬x.fp b k:=by cases x<;>first|exact⟨trivial,λ_ _ h=>h⟩|(simp[C.er,scalar] at h)
def agL{w:World}{zl zb:Nat->Nat->Prop}{G:Nat->C}{s:ah}(h:Inv w zl zb G s){v:Value}{r:Nat}{p:Path}{lo hi:Nat}(hr:(C.cut v r p lo hi).rf G){z:Nat}{xs:List (List X)}(hl:look s r p=some (.row .own z xs)):
  ∃A' cap' e2 G',v=.slice (Option.map (λq:Ad=>⟨q.1,q.2.1,q.2.2⟩) A') (hi - lo) cap'/\((xs.take hi).drop lo)=dK z (hi - lo) e2/\(∀i j,i<hi - lo->j<z->∃g o,A'=some (g,o,none)/\w.cell? ⟨g,o+i*z+j,none⟩=some (e2 i j).val)/\
   (∀i j,i<hi - lo->j<z->(e2 i j).plain)/\bF w zl zb G (cJ (hi - lo) z e2).flatten G' (iy r p (.row .own z (DS lo hi xs)) s):=by
 obtain⟨m,sz,A,len,cap,e,A',cap',hs,hv,hlo,hhi,hcap,kj,-,-⟩:=hr;unfold look at hl;rw[<-h.er,C.gG,hs] at hl;simp only[cg,C.er,dP,X.row.injEq] at hl;obtain⟨rfl,rfl,rfl⟩:=hl;have hok:=C.gY p hs (h.ok r);have hin:∀b k,(C.row .own sz A len cap e).fp b k->(G r).fp b k:=λb k hf=>C.gH p hs (h.ok r) hf;obtain⟨h1,h2,h3,h4,h5⟩:=hok;let e':Nat->Nat->C:=λi j=>if lo<=i/\i<hi then .dead (e i j).val else e i j
 have he:∀i j,(lo<=i/\i<hi)->e' i j=.dead (e i j).val:=λi j hh=>au hh;have hne:∀i j,¬(lo<=i/\i<hi)->e' i j=e i j:=λi j hh=>aC hh;have ku:∀i j,i<len->j<sz->∀b k,(e i j).fp b k->(C.row .own sz A len cap e).fp b k:=λi j hi hj b k hf=>⟨rfl,.inr ⟨i,j,hi,hj,hf⟩⟩
 have uc:∀b k,(C.row .own sz A len cap e').fp b k->(C.row .own sz A len cap e).fp b k:=λb k hf=>by
  obtain⟨_,hA|⟨i,j,hi',hj,hf⟩⟩:=hf;·exact⟨rfl,.inl hA⟩
  ·by_cases hh:lo<=i/\i<hi;·rw[he i j hh] at hf;exact hf.elim
   ·rw[hne i j hh] at hf;exact ku i j hi' hj b k hf
 have J8:(C.row .own sz A len cap e').ok w (Zf zl zb):=by
  refine⟨h1,λi j hi' hj=>?_,λi j hi' hj=>?_,h4,λi j hi' hj b k hf=>?_⟩
  ·obtain⟨g,o,a1,a2,a3⟩:=h2 i j hi' hj;refine⟨g,o,a1,?_,a3⟩;rw[a2];by_cases hh:lo<=i/\i<hi;·rw[he i j hh];rfl
   ·rw[hne i j hh]
  ·obtain⟨a1,a2,a3,a4⟩:=h3 i j hi' hj;by_cases hh:lo<=i/\i<hi;·rw[he i j hh];exact⟨Inv.qZ a1,trivial,trivial,trivial⟩
   ·rw[hne i j hh];exact⟨a1,a2,a3,a4⟩
  ·by_cases hh:lo<=i/\i<hi;·rw[he i j hh] at hf;exact hf.elim
   ·rw[hne i j hh] at hf;obtain⟨a1,a2⟩:=h5 i j hi' hj b k hf;refine⟨a1,λi' j' hi2 hj2 Kn hf'=>?_⟩;by_cases pI:lo<=i'/\i'<hi;·rw[he i' j' pI] at hf';exact hf'
    ·rw[hne i' j' pI] at hf';exact a2 i' j' hi2 hj2 Kn hf'
 have h0:=h.eY r p;have hs0:((G r).aA (C.belows r p)).sub p=some (C.row .own sz A len cap e):=C.jg _ p _ _ (h.ok r) hs
 obtain⟨i1,i2,i3⟩:=h0.IX r p (λt=>C.gD _ _) hs0 (C.gm.row .own .own sz A len cap e e') ⟨rfl,λh=>h,λh=>h,λh=>h,λm h=>h⟩ ⟨trivial,trivial⟩ (Ext.refl (λ_ _=>False) w) (λb k hs=>hs.elim) J8 (λb k hz=>hz)
  (λb k hz=>⟨λhf=>(h.fz r b k (hin b k (uc b k hf))).1 hz,h.cB b k (.inl hz),λt hf=>by rw[C.cG] at hf;exact((h.fz t b k hf).1 hz).elim⟩) (λb k hf=>.inl (uc b k hf))
 have kq:(C.row .own sz A len cap e').er=.row .own sz (DS lo hi ((List.range len).map λi=>(List.range sz).map λj=>(e i j).er)):=by
  simp only[C.er,DS];congr 1;apply hO;intro i;rw[Df,C.cU,C.cU];split
  ·simp only[cg,dP];by_cases hh:lo<=i/\i<hi;·rw[au hh,cH];exact b7 λj _=>by rw[he i j hh];rfl
   ·rw[aC hh];exact b7 λj _=>by rw[hne i j hh]
  ·rfl
 rw[kq] at i1;have hmem:∀x∈(cJ (hi - lo) sz λi j=>e (i+lo) j).flatten,∃i j,i<hi - lo/\j<sz/\x=e (i+lo) j:=λx hx=>by obtain⟨i,j,hi',hj,rfl⟩:=mU hx;exact⟨i,j,hi',hj,rfl⟩
 have hlt:hi - lo≠0->A'=A.map λq=>jq (lo*sz) q:=λhne=>kj (by omega)
 have hrow:(((List.range len).map λi=>(List.range sz).map λj=>(e i j).er).take hi).drop lo=dK sz (hi - lo) λi j=>e (i+lo) j:=by
  unfold dK;rw[<-oL,<-lE,vG,nC hhi];apply hO;intro i;rw[C.cU,cR,oS];by_cases hh:i<hi - lo;·rw[au hh,tj (by omega),oP];rfl
  ·rw[aC hh,kQ (by simp;omega)];rfl
 have Et:∀i j,i<hi - lo->j<sz->(e (i+lo) j).plain:=λi j hi' hj=>Lu (h3 (i+lo) j (by omega) hj).1 (h3 (i+lo) j (by omega) hj).2.1;refine⟨A',cap',λi j=>e (i+lo) j,_,hv,hrow,λi j hi' hj=>?_,Et,⟨i1,λx hx=>?_,?_,λt=>(i2 t).trans (C.jh _ _),λt b k hf=>?_⟩⟩;·obtain⟨g,o,a1,a2,a3⟩:=h2 (i+lo) j (by omega) hj;refine⟨g,o+lo*sz,by rw[hlt (by omega),a1,cg,oW],?_⟩;rw[show o+lo*sz+i*sz+j=o+(i+lo)*sz+j by rw[e8];omega];exact a2
 ·obtain⟨i,j,hi',hj,rfl⟩:=hmem x hx;have hj2:i+lo<len:=by omega
  refine⟨(h3 (i+lo) j hj2 hj).2.2.2,λt b k hf hf'=>?_,λb k hf=>h.fz r b k (hin b k (ku _ _ hj2 hj b k hf)),λb k hf=>⟨r,hin b k (ku _ _ hj2 hj b k hf)⟩⟩;rcases i3 t b k hf' with hd|⟨_,hn⟩
  ·obtain⟨_,⟨o,hA⟩|⟨i',j',hi2,acB,jy⟩⟩:=hd;·exact(h5 _ j hj2 hj b k hf).1 rfl o hA
   ·by_cases hh:lo<=i'/\i'<hi;·rw[he i' j' hh] at jy;exact jy
    ·rw[hne i' j' hh] at jy;refine(h5 _ j hj2 hj b k hf).2 i' j' hi2 acB (λe=>hh ?_) jy;injection e with e1 e2
     omega
  ·exact hn (ku _ _ hj2 hj b k hf)
 ·have hsub:(C.row .own sz (A.map λq=>jq (lo*sz) q) (hi - lo) (cap - lo) λi j=>e (i+lo) j).ok w (Zf zl zb):=(PI ⟨h1,h2,h3,h4,h5⟩ hlo hhi (by omega) (by omega) (.inr rfl)).1;exact KY hsub
 ·by_cases ht:t=r
  ·subst ht;rcases i3 t b k hf with hd|⟨hh,_⟩;·exact hin b k (uc b k hd)
   ·rwa [C.cG] at hh
  ·rw[cX _ _ ht,C.cG] at hf;exact hf
def ae1(h:St c G zl s a w){d sz bytes:Nat}{tk:Tk}{ty ty' el D0:TypeId}{i:TypeInfo}{v:Value}{x y:AV}{x' y':Operand}
  (ho:o.op=.call {callee:=.builtin .append,args:= #[x',y'],argTypes:= #[ty,ty']})(hu:P.underlying ty=some (.slice el))(wP:P.underlying ty'=some (.slice D0))(hi:P.info? el=some i)(hz:i.zero=some v)(hsz:i.size=sz)(hb:i.bytes=bytes)(hb0:0<bytes)(h0:0<sz)(hvs:v.cells.size=sz)
  (hd:o.dst=some d)(hn:d<c.nt)(hx:aM x' x=true)(hy:aM y' y=true)(hK:aP P (.app d tk sz bytes x y) s K):Good P c o a w K:=by
 obtain⟨p,e1,e2,e3⟩:=cj h hx;obtain⟨y1,G1,f1,f2,f3,f4⟩:=qC .mv h.inv e3;simp only[aP] at hK;rw[e1] at f1 f4;rw[<-f1] at hK;have h1:=h.yL f4;have Ku:=(f2.trans e2).symm;cases hE:y1.er with
 |row m z xs=>
  rw[hE] at hK;cases m with
  |own=>
   obtain⟨A,len,cap,e,rfl,rfl⟩:=zV hE;obtain⟨rfl,hK⟩:=hK;obtain⟨q,q1,q2,q3⟩:=cj h1 hy;have hk1:∀i j,i<len->j<z->(e i j).plain:=λi j hi hj=>Lu (f4.ok.2.2.1 i j hi hj).1 (f4.ok.2.2.1 i j hi hj).2.1;have hxl:(dK z len e).length=len:=by simp[dK]
   have other:(∃ys,rowAt (take .mv (av s x) s).2 (av (take .mv (av s x) s).2 y)=some (z,ys)/\((dK z len e).length+ys.length)*bytes<=140737488355328/\scalars ys/\K (put d (.row .own z (dK z len e++ys)) (take .mv (av s x) s).2))->Good P c o a w K:=by
    rintro ⟨ys,k1,k2,k3,k4⟩;rw[<-q1] at k1;obtain⟨A2,m,cap2,e2,rfl,hv⟩:=LM h1.inv q3 k1;have pM:(dK z m e2).length=m:=by simp[dK]
    refine IU h (bF.one f4) ho hu wP hi hz hsz hb hb0 h0 hvs hd hn (fy.2 rfl) Ku (by rw[<-q2];exact hv.val) (λi j hi hj=>hv.cell i j hi hj) (λi j hi hj=>?_) (qS λx hx=>?_) (by rw[hxl,pM] at k2;exact k2) hk1 k4;·obtain⟨s1,s2⟩:=Tt (Ts k3 hi hj);exact⟨s1,(hv.kid i j hi hj).2.2,λb k hf=>(s2 b k hf).elim⟩
    ·obtain⟨i,j,hi,hj,rfl⟩:=mU hx;exact(Tt (Ts k3 hi hj)).2
   cases tk with
   |al=>exact other hK
   |aK=>exact other hK
   |mv=>
    simp only at hK;by_cases hcut:∃v r p lo hi,q=.cut v r p lo hi
    ·obtain⟨vv,r,pp,lo,hi',rfl⟩:=hcut;rw[<-q1] at hK;simp only[C.er,bY] at hK;split at hK
     ·rename_i hh;split at hh
      ·rename_i z2 xs hl;simp only[X.row.injEq,true_and] at hh;obtain⟨rfl,rfl⟩:=hh;obtain⟨rfl,k2,k4⟩:=hK;obtain⟨A2,cap2,e3,G3,c1,c2,c3,c4,c5⟩:=agL h1.inv q3.rf hl;rw[c2] at k2 k4;have pM:(dK z2 (hi' - lo) e3).length=hi' - lo:=by simp[dK]
       simp only[hl] at k4;refine IU h (bF.cons f4 c5) ho hu wP hi hz hsz hb hb0 h0 hvs hd hn (bq ..) Ku (A2:=A2) (m:=hi' - lo) (cap2:=cap2) (e2:=e3) (by rw[<-q2];exact c1) c3 (λi j hi hj=>?_) c5.apart (by rw[hxl,pM] at k2;exact k2) hk1 k4;have hm:e3 i j∈(cJ (hi' - lo) z2 e3).flatten:=Ic.2 ⟨_,bg.2 ⟨i,by simpa using hi,rfl⟩,bg.2 ⟨j,by simpa using hj,rfl⟩⟩;refine⟨c4 i j hi hj,(c5.all _ hm).1,λb k hf=>⟨λhf'=>?_,_,bO _ hm,hf⟩⟩;obtain⟨t,ht⟩:=(c5.all _ hm).2.2.2 b k hf;exact f4.sep t b k hf' ht
      ·cases hh
     ·exact hK.elim
    have hte:bY q.er (take .mv (av s x) s).2=take .mv q.er (take .mv (av s x) s).2:=by
     cases q with
     |cut v r p lo hi=>exact(hcut ⟨v,r,p,lo,hi,rfl⟩).elim
     |_=>rfl
    rw[<-q1,hte,q1] at hK;obtain⟨y2,G2,g1,g2,g3,g4⟩:=qC .mv h1.inv q3;rw[q1] at g1 g4;rw[<-g1] at hK;cases J0:y2.er with
    |row m2 z2 xs2=>
     rw[J0] at hK;cases m2 with
     |own=>
      obtain⟨A2,m,cap2,e2,rfl,rfl⟩:=zV J0;obtain⟨rfl,k2,k4⟩:=hK;have pM:(dK z2 m e2).length=m:=by simp[dK]
      obtain⟨r1,r2,r3,r4,r5⟩:=g4.ok;refine IU h (bF.cons f4 (bF.one g4)) ho hu wP hi hz hsz hb hb0 h0 hvs hd hn (bq ..) Ku (A2:=A2) (m:=m) (cap2:=cap2) (e2:=e2) (by rw[<-q2,<-g2];rfl) (λi j hi hj=>?_) (λi j hi hj=>?_) (KY g4.ok) (by rw[hxl,pM] at k2;exact k2) hk1 k4;·obtain⟨g,o2,a1,a2,_⟩:=r2 i j hi hj;exact⟨g,o2,a1,a2⟩
      ·obtain⟨a1,a2,a3,a4⟩:=r3 i j hi hj;refine⟨Lu a1 a2,a4,λb k hf=>?_⟩;have hin:(C.row .own z2 A2 m cap2 e2).fp b k:=C.jV a1 a3 hi hj hf;refine⟨λhf'=>?_,_,bO _ (fy.2 rfl),hin⟩;obtain⟨t,ht⟩:=g4.dom b k hin;exact f4.sep t b k hf' ht
     |_=>exact hK.elim
    |_=>rw[J0] at hK;exact hK.elim
  |_=>exact hK.elim
 |_=>rw[hE] at hK;exact hK.elim
end
end M
namespace M
open Go Go.RowKit
variable [Bs]
namespace X
def mZ(m:Md){α:Type}(f:α->X):∀l:List α,dS m (l.map f)=l.map λa=>(f a).md m
 |[]=>rfl
 |a::l=>by simp only[bn,dS,mZ m f l]
def FE(m:Md){α β:Type}(g:α->List β)(f:α->β->X):∀l:List α,bV m (l.map λa=>(g a).map (f a))=l.map λa=>(g a).map λb=>(f a b).md m
 |[]=>rfl
 |a::l=>by simp only[bn,bV,mZ,FE m g f l]
end X
namespace C
def dN:C->C
 |.row _ sz A len cap e=>.row .af sz A len cap λi j=>(e i j).dN
 |.ptr _ g o n c=>.ptr .af g o n λj=>(c j).dN
 |.agg n c=>.agg n λj=>(c j).dN
 |.ak n c=>.ak n λj=>(c j).dN
 |.fn f n c=>.fn f n λj=>(c j).dN
 |.ref v _ _=>.dead v
 |.ax v _ _ _ _=>.dead v
 |.cut v _ _ _ _=>.dead v
 |.dead v=>.dead v
 |.int k n=>.int k n
 |.bool b=>.bool b
 |.str s=>.str s
def rX:∀c:C,c.dN.er=c.er.md .af
 |.row m sz A len cap e=>by simp only[dN,er,X.md];rw[X.FE .af (λ_=>List.range sz) (λi j=>(e i j).er)];congr 1;exact b7 λi _=>b7 λj _=>rX (e i j)
 |.ptr m g o n c=>by simp only[dN,er,X.md,X.mZ];congr 1;exact b7 λj _=>rX (c j)
 |.agg n c=>by simp only[dN,er,X.md,X.mZ];congr 1;exact b7 λj _=>rX (c j)
 |.ak n c=>by simp only[dN,er,X.md,X.mZ];congr 1;exact b7 λj _=>rX (c j)
 |.fn f n c=>by simp only[dN,er,X.md,X.mZ];congr 1;exact b7 λj _=>rX (c j)
 |.ref _ _ _=>by simp only[dN,er,X.md]
 |.ax _ _ _ _ _=>by simp only[dN,er,X.md]
 |.cut _ _ _ _ _=>by simp only[dN,er,X.md]
 |.dead _=>by simp only[dN,er,X.md]
 |.int _ _=>by simp only[dN,er,X.md]
 |.bool _=>by simp only[dN,er,X.md]
 |.str _=>by simp only[dN,er,X.md]
def uC:∀c:C,c.dN.val=c.val
 |.row m sz A len cap e=>rfl
 |.ptr m g o n c=>rfl
 |.agg n c=>by simp only[dN,val];congr 2;exact b7 λj _=>uC (c j)
 |.ak n c=>by simp only[dN,val];congr 2;exact b7 λj _=>uC (c j)
 |.fn f n c=>by simp only[dN,val];congr 2;exact b7 λj _=>uC (c j)
 |.ref _ _ _=>rfl
 |.ax _ _ _ _ _=>rfl
 |.cut _ _ _ _ _=>rfl
 |.dead _=>rfl
 |.int _ _=>rfl
 |.bool _=>rfl
 |.str _=>rfl
def Bu:∀c:C,c.dN.bare
 |.row m sz A len cap e=>trivial
 |.ptr m g o n c=>λj _=>Bu (c j)
 |.agg n c=>λj _=>Bu (c j)
 |.ak n c=>λj _=>Bu (c j)
 |.fn f n c=>λj _=>Bu (c j)
 |.ref _ _ _=>trivial
 |.ax _ _ _ _ _=>trivial
 |.cut _ _ _ _ _=>trivial
 |.dead _=>trivial
 |.int _ _=>trivial
 |.bool _=>trivial
 |.str _=>trivial
def pY:∀(c:C) (b k:Nat),¬c.dN.fp b k
 |.row m sz A len cap e,b,k=>λh=>by cases h.1
 |.ptr m g o n c,b,k=>λh=>by cases h.1
 |.agg n c,b,k=>λ⟨j,_,hf⟩=>pY (c j) b k hf
 |.ak n c,b,k=>λ⟨j,_,hf⟩=>pY (c j) b k hf
 |.fn f n c,b,k=>λh=>h
 |.ref _ _ _,b,k=>λh=>h
 |.ax _ _ _ _ _,b,k=>λh=>h
 |.cut _ _ _ _ _,b,k=>λh=>h
 |.dead _,b,k=>λh=>h
 |.int _ _,b,k=>λh=>h
 |.bool _,b,k=>λh=>h
 |.str _,b,k=>λh=>h
def FF{c:C}(h:c.cell):c.dN.cell:=by cases c<;>first|exact h|exact h.elim|trivial
def Sd{c:C}(h:c.fY):c.dN.fY:=by cases c<;>first|exact h|exact h.elim|trivial
def ad6{c:C}(h:c.cO):c.dN.cO:=by cases c<;>first|exact h|exact h.elim|trivial
def Lc(c:C):c.dN.fits .af:=by cases c<;>first|trivial|exact .inr (.inl rfl)
variable {w:World}{zl zb bD:Nat->Nat->Prop}
def xo(hb:∀b k,zb b k->bD b k):∀c:C,(∀b k,c.fp b k->bD b k)->c.ok w (Zf zl zb)->c.dN.ok w (Zf zl bD)
 |.row m sz A len cap e,hf,h=>by
  obtain⟨h1,h2,h3,h4,h5⟩:=h;refine⟨h1,λi j hi hj=>?_,λi j hi hj=>?_,λhm=>by (cases hm),λi j hi hj b k hh=>(pY _ b k hh).elim⟩
  ·obtain⟨g,o,hA,hc,hz⟩:=h2 i j hi hj;refine⟨g,o,hA,by rw[uC];exact hc,λ_=>?_⟩;cases m with
   |own=>exact .inr (hf _ _ ⟨rfl,.inl ⟨o,hA⟩⟩)
   |sl=>exact .inl (hz (by simp))
   |af=>exact(hz (by simp)).imp id (hb _ _)
  ·obtain⟨a1,a2,a3,a4⟩:=h3 i j hi hj;exact⟨FF a1,ad6 a2,Lc _,xo hb (e i j) (λb k hk=>hf b k (jV a1 a3 hi hj hk)) a4⟩
 |.ptr m g o n c,hf,h=>by
  obtain⟨h1,h2,h3,h4⟩:=h;refine⟨λj hj=>?_,h2,λj hj=>?_,λj hj b k hh=>(pY _ b k hh).elim⟩
  ·obtain⟨a1,a2,a3⟩:=h1 j hj;refine⟨by rw[uC];exact a1,λ_=>?_,λhm=>by (cases hm)⟩;cases m with
   |own=>exact .inr (hf _ _ ⟨rfl,.inl ⟨rfl,by omega,by omega⟩⟩)
   |sl=>exact .inl (a2 (by simp))
   |af=>exact(a2 (by simp)).imp id (hb _ _)
  ·obtain⟨a1,a2,a3⟩:=h3 j hj;exact⟨FF a1,Lc _,xo hb (c j) (λb k hk=>hf b k (kC a1 a2 hj hk)) a3⟩
 |.agg n c,hf,h=>⟨λj hj=>⟨FF (h.1 j hj).1,xo hb (c j) (λb k hk=>hf b k ⟨j,hj,hk⟩) (h.1 j hj).2⟩,λj hj b k hh=>(pY _ b k hh).elim⟩
 |.ak n c,hf,h=>⟨λj hj=>⟨Sd (h.1 j hj).1,xo hb (c j) (λb k hk=>hf b k ⟨j,hj,hk⟩) (h.1 j hj).2⟩,λj hj b k hh=>(pY _ b k hh).elim⟩
 |.fn f n c,hf,h=>λj hj=>⟨xo hb (c j) (λb k hk=>((h j hj).2 b k hk).elim) (h j hj).1,λb k hh=>pY _ b k hh⟩
 |.ref _ _ _,_,_=>trivial
 |.ax _ _ _ _ _,_,_=>trivial
 |.cut _ _ _ _ _,_,_=>trivial
 |.dead _,_,_=>trivial
 |.int _ _,_,_=>trivial
 |.bool _,_,_=>trivial
 |.str _,_,h=>h
end C
structure fS (w:World) (zl zb:Nat->Nat->Prop) (x:C):Prop where
 ok:x.ok w (Zf zl zb)
 bare:x.bare
 cM:∀b k,¬x.fp b k
section
variable {w:World}{zl zb bD:Nat->Nat->Prop}{G:Nat->C}{s:ah}
def K3(hb:∀b k,zb b k->bD b k){y:C}(hy:y.ok w (Zf zl zb))(hf:∀b k,y.fp b k->bD b k):fS w zl bD y.dN:=⟨C.xo hb y hf hy,C.Bu y,C.pY y⟩
def Bf(v:Value):fS w zl bD (.dead v):=⟨trivial,trivial,λ_ _ h=>h⟩
def FY(h:Inv w zl zb G s)(hb:∀b k,zb b k->bD b k)(hG:∀t b k,(G t).fp b k->bD b k){y:C}(hy:ew w zl zb G y):∃x:C,x.er=lq s y.er/\x.val=y.val/\fS w zl bD x/\(y.cell->x.cell)/\(y.fY->x.fY)/\x.fits .af:=by
 have ji:lq s y.er=y.er.md .af->∃x:C,x.er=lq s y.er/\x.val=y.val/\fS w zl bD x/\(y.cell->x.cell)/\(y.fY->x.fY)/\x.fits .af:=λe=>
  ⟨y.dN,by rw[C.rX,e],C.uC y,K3 hb hy.ok λb k hf=>(hy.cM b k hf).elim,C.FF,C.Sd,C.Lc _⟩
 cases y with
 |ref v r p=>
  obtain⟨y',z',hs,hF,hv,m,z1,A,len,cap,e,rfl⟩:=hy.rf;cases hF with
  |row m m' sz' A len cap e e'=>refine⟨(C.row m' z1 A len cap e').dN,?_,by rw[C.uC];exact hv,K3 hb (C.gY p hs (h.ok r)) λb k hf=>hG r b k (C.gH p hs (h.ok r) hf),λ_=>trivial,λ_=>trivial,.inr (.inl rfl)⟩;rw[C.rX];simp only[C.er,lq,look];rw[<-h.er,C.gG,hs];rfl
 |cut v r p lo hi=>
  obtain⟨m,sz,A,len,cap,e,A',cap',hs,hv,hlo,hhi,hcap,kj,-,-⟩:=hy.rf;have hok:=C.gY p hs (h.ok r);obtain⟨h1,h2,h3,h4,h5⟩:=(K3 hb hok λb k hf=>hG r b k (C.gH p hs (h.ok r) hf)).ok;refine⟨.row .af sz A' (hi - lo) cap' λi j=>(e (i+lo) j).dN,?_,hv.symm,⟨⟨hcap,λi j hi' hj=>?_,λi j hi' hj=>h3 (i+lo) j (by omega) hj,λhm=>by (cases hm),λi j hi' hj b k hh=>(C.pY _ b k hh).elim⟩,trivial,λb k hh=>by cases hh.1⟩,λ_=>trivial,λ_=>trivial,.inr (.inl rfl)⟩;·simp only[C.er,lq,look];rw[<-h.er,C.gG,hs];simp only[cg,C.er,X.md];rw[<-oL,<-lE,vG,nC hhi,og,cH];show _=X.row .af sz (X.bV .af ((List.range (hi - lo)).map λi=>(List.range sz).map λj=>(e (i+lo) j).er));rw[X.FE .af (λ_=>List.range sz) (λi j=>(e (i+lo) j).er) (List.range (hi - lo))];congr 1;exact b7 λi _=>b7 λj _=>C.rX _
  ·obtain⟨g,o,q1,q2,q3⟩:=h2 (i+lo) j (by omega) hj;refine⟨g,o+lo*sz,by rw[kj (by omega),q1,cg,oW],?_,λhm=>?_⟩;·rw[show o+lo*sz+i*sz+j=o+(i+lo)*sz+j by rw[e8];omega];exact q2
   ·rw[show o+lo*sz+i*sz+j=o+(i+lo)*sz+j by rw[e8];omega];exact q3 hm
 |_=>exact ji rfl
def adH(h:Inv w zl zb G s){y:C}(hy:ew w zl zb G y){cs:List X}(hc:gw s y.er=some cs):∃g k,y.val=.pointer (some ⟨g,k,none⟩)/\∀j,j<cs.length->zl g (k+j)\/zb g (k+j)\/∃t,(G t).fp g (k+j):=by
 have zs:∀{m:Md} {b k:Nat},m≠.own->Zf zl zb m b k->zl b k\/zb b k\/∃t,(G t).fp b k:=λ{m b k} hm hz=>by
  cases m with
  |own=>exact(hm rfl).elim
  |sl=>exact .inl hz
  |af=>exact hz.imp id .inl
 cases y with
 |ptr m g o n f=>
  simp only[C.er,gw] at hc;injection hc with hc
  refine⟨g,o,rfl,λj hj=>?_⟩;have hj:j<n:=by rw[<-hc] at hj;simpa using hj
  obtain⟨h1,h2,h3,h4⟩:=hy.ok;by_cases hm:m=.own;·exact(hy.cM g (o+j) ⟨hm,.inl ⟨rfl,by omega,by omega⟩⟩).elim
  ·exact zs hm ((h1 j hj).2.1 hm)
 |ax v r p i k0=>
  obtain⟨z,hz,hp⟩:=hy.rf;have rP:=C.gY p hz (h.ok r);simp only[C.er,gw,look] at hc;rw[<-h.er,C.gG,hz] at hc;simp only[cg] at hc;rcases hp with ⟨m,sz,g,o,len,cap,e,rfl,rfl⟩|⟨m,g,o,n,f,rfl,rfl,rfl⟩
  ·simp only[C.er,C.cU] at hc;by_cases hi:i<len
   ·rw[au hi] at hc;simp only[cg,dP] at hc;refine⟨g,o+i*sz+k0,rfl,λj hj=>?_⟩;have hj:k0+j<sz:=by rw[<-hc] at hj;rw[<-lE,og,C.vW r p i ((List.range (sz - k0)).map (· +k0)) k0 (λj=>e i j) (by simp)] at hj;simp at hj;omega
    by_cases hm:m=.own;·subst hm;exact .inr (.inr ⟨r,C.gH p hz (h.ok r) ⟨rfl,.inl ⟨o,rfl⟩⟩⟩)
    ·obtain⟨g',o',hA,hcell,um⟩:=rP.2.1 i (k0+j) hi hj;injection hA with hA
     injection hA with e1 e2
     injection e2 with e2
     subst e1;subst e2;rw[s9];exact zs hm (um hm)
   ·rw[aC hi] at hc;cases hc
  ·simp only[C.er,dP] at hc;refine⟨g,o+k0,rfl,λj hj=>?_⟩;have hj:k0+j<n:=by rw[<-hc] at hj;rw[<-lE,og,C.vW r p 0 ((List.range (n - k0)).map (· +k0)) k0 f (by simp)] at hj;simp at hj;omega
   by_cases hm:m=.own;·subst hm;exact .inr (.inr ⟨r,C.gH p hz (h.ok r) ⟨rfl,.inl ⟨rfl,by omega,by omega⟩⟩⟩)
   ·have:=(rP.1 (k0+j) hj).2.1 hm;rw[s9];exact zs hm this
 |_=>simp[C.er,gw] at hc
def LD(h:Inv w zl zb G s)(hb:∀b k,zb b k->bD b k)(hG:∀t b k,(G t).fp b k->bD b k):∀l:List C,(∀x∈l,ew w zl zb G x/\x.cell)->∃l':List C,l'.map C.er=oh s (l.map C.er)/\l'.map C.val=l.map C.val/\∀x∈l',fS w zl bD x/\x.cell/\x.fits .af
 |[],hl=>⟨[],rfl,rfl,λ_ hx=>(by cases hx)⟩
 |y::l,hl=>by
  obtain⟨x,x1,x2,x3,x4,_,x6⟩:=FY h hb hG (hl y (bq ..)).1;obtain⟨l',l1,l2,l3⟩:=LD h hb hG l λx hx=>hl x (bO _ hx);refine⟨x::l',by simp[oh,x1,l1],by simp[x2,l2],λz hz=>?_⟩;rcases b9.1 hz with rfl|hz;·exact⟨x3,x4 (hl y (bq ..)).2,x6⟩
  ·exact l3 z hz
def Tb(F:List X->List X)(hF:∀l:List C,(∀x∈l,ew w zl zb G x/\x.cell)->∃l':List C,l'.map C.er=F (l.map C.er)/\l'.map C.val=l.map C.val/\∀x∈l',fS w zl bD x/\x.cell/\x.fits .af)(h:Inv w zl zb G s)(hb:∀b k,zb b k->bD b k)(hG:∀t b k,(G t).fp b k->bD b k){y:C}(hy:ew w zl zb G y){cs:List X}(hc:gw s y.er=some cs)(hne:cs≠[])(n:Nat)(hn:0<n):
  ∃x:C,x.er=.ptr .af (F (cs.take n))/\x.val=y.val/\fS w zl bD x:=by
 obtain⟨l,l1,⟨g,k,hv,hcell⟩,l3⟩:=RW h hy hc;obtain⟨g',k',ey,hmem⟩:=adH h hy hc;rw[hv] at ey;injection ey with ey;injection ey with ey;injection ey with e1 e2 e3
 subst e1;subst e2;have nP:l.length=cs.length:=by rw[<-l1];simp
 obtain⟨l',m1,m2,m3⟩:=hF (l.take n) λx hx=>l3 x (Ns hx);have hl':l'.length=min n l.length:=by have:=dr List.length m2;simpa using this
 have hpos:0<l.length:=by rw[nP];exact Dg.2 hne
 refine⟨.ptr .af g k l'.length λj=>l'.getD j (.dead undef),?_,hv.symm,⟨⟨λj hj=>⟨?_,λ_=>?_,λhm=>by (cases hm)⟩,?_,λj hj=>⟨(m3 _ (cI hj _)).2.1,(m3 _ (cI hj _)).2.2,(m3 _ (cI hj _)).1.ok⟩,λj hj b k hh=>((m3 _ (cI hj _)).1.cM b k hh).elim⟩,λj hj=>(m3 _ (cI hj _)).1.bare,λb k hh=>by cases hh.1⟩⟩;·simp only[C.er,l9];rw[m1,oL,l1]
 ·have hj':j<l.length:=by omega
  have ug:(l'.getD j (.dead undef)).val=(l[j]).val:=by have:=dr (λt:List Value=>t[j]?) m2;simp only[cR,cm hj,cg] at this;rw[NV (by omega),cm hj'] at this;rw[pq (cm hj)];simpa using this
  rw[ug];exact hcell j hj'
 ·rcases hmem j (by omega) with hz|hz|⟨t,ht⟩;·exact .inl hz
  ·exact .inr (hb _ _ hz)
  ·exact .inr (hG t _ _ ht)
 ·have:=hcell 0 hpos;rcases gI g w.heap.size with hg|hg;·exact hg
  ·simp[World.cell?,kP hg] at this
def Tc(h:Inv w zl zb G s)(hb:∀b k,zb b k->bD b k)(hG:∀t b k,(G t).fp b k->bD b k){y:C}(hy:ew w zl zb G y){cs:List X}(hc:gw s y.er=some cs)(hne:cs≠[])(n:Nat)(hn:0<n):
  ∃x:C,x.er=.ptr .af (oh s (cs.take n))/\x.val=y.val/\fS w zl bD x:=Tb (oh s) (LD h hb hG) h hb hG hy hc hne n hn
def afS(h:Inv w zl zb G s)(hb:∀b k,zb b k->bD b k)(hG:∀t b k,(G t).fp b k->bD b k){y:C}(hy:ew w zl zb G y)(lV:y.cell):∃x:C,x.er=gV s y.er/\x.val=y.val/\fS w zl bD x/\x.cell/\x.fits .af:=by
 have ji:gV s y.er=lq s y.er->∃x:C,x.er=gV s y.er/\x.val=y.val/\fS w zl bD x/\x.cell/\x.fits .af:=λe=>by obtain⟨x,x1,x2,x3,x4,_,x6⟩:=FY h hb hG hy;exact⟨x,by rw[e,x1],x2,x3,x4 lV,x6⟩
 cases y with
 |ax v r p i k=>
  have dead:gV s (C.ax v r p i k).er=.dead->∃x:C,x.er=gV s (C.ax v r p i k).er/\x.val=(C.ax v r p i k).val/\fS w zl bD x/\x.cell/\x.fits .af:=λe=>⟨.dead v,e.symm,rfl,Bf v,lV,trivial⟩;cases hc:gw s (.ax r p i k) with
  |none=>exact dead (by simp only[C.er,gV,hc])
  |some cs=>
   cases cs with
   |nil=>exact dead (by simp only[C.er,gV,hc])
   |cons a cs=>
    obtain⟨x,x1,x2,x3⟩:=Tc h hb hG hy hc (by simp) (a::cs).length (by simp);rw[vF] at x1;have he:gV s (C.ax v r p i k).er=.ptr .af (oh s (a::cs)):=by simp only[C.er,gV,hc]
    rw[he];refine⟨x,x1,x2,x3,?_,?_⟩;·cases x<;>first|trivial|(simp[C.er] at x1)
    ·cases x with
     |ptr m g o n f=>simp only[C.er,X.ptr.injEq] at x1;exact .inr (.inl x1.1)
     |_=>simp[C.er] at x1
 |_=>exact ji rfl
def Ta(h:Inv w zl zb G s)(hb:∀b k,zb b k->bD b k)(hG:∀t b k,(G t).fp b k->bD b k):∀l:List C,(∀x∈l,ew w zl zb G x/\x.cell)->∃l':List C,l'.map C.er=jZ s (l.map C.er)/\l'.map C.val=l.map C.val/\∀x∈l',fS w zl bD x/\x.cell/\x.fits .af
 |[],hl=>⟨[],rfl,rfl,λ_ hx=>(by cases hx)⟩
 |y::l,hl=>by
  obtain⟨x,x1,x2,x3⟩:=afS h hb hG (hl y (bq ..)).1 (hl y (bq ..)).2;obtain⟨l',l1,l2,l3⟩:=Ta h hb hG l λx hx=>hl x (bO _ hx);refine⟨x::l',by simp[jZ,x1,l1],by simp[x2,l2],λz hz=>?_⟩;rcases b9.1 hz with rfl|hz;·exact x3
  ·exact l3 z hz
end
end M
namespace M
open Go Go.RowKit
variable [Bs]
section
variable {w:World}{zl zb bD:Nat->Nat->Prop}{G:Nat->C}{s:ah}
def LC(h:Inv w zl zb G s)(hb:∀b k,zb b k->bD b k)(hG:∀t b k,(G t).fp b k->bD b k):∀l:List C,(∀x∈l,ew w zl zb G x)->∃l':List C,l'.map C.er=fN s (l.map C.er)/\l'.map C.val=l.map C.val/\∀x∈l',fS w zl bD x
 |[],hl=>⟨[],rfl,rfl,λ_ hx=>(by cases hx)⟩
 |y::l,hl=>by
  obtain⟨l',l1,l2,l3⟩:=LC h hb hG l λx hx=>hl x (bO _ hx);have hy:=hl y (bq ..)
  have done:∀x:C,x.val=y.val->fS w zl bD x->(fN s ((y::l).map C.er))=x.er::fN s (l.map C.er)->∃l':List C,l'.map C.er=fN s ((y::l).map C.er)/\l'.map C.val=(y::l).map C.val/\∀x∈l',fS w zl bD x:=λx x1 x2 x3=>
   ⟨x::l',by rw[x3,bn,l1],by simp[x1,l2],λz hz=>(b9.1 hz).elim (λe=>e▸x2) (l3 z)⟩
  have ji:(fN s ((y::l).map C.er))=lq s y.er::fN s (l.map C.er)->∃l':List C,l'.map C.er=fN s ((y::l).map C.er)/\l'.map C.val=(y::l).map C.val/\∀x∈l',fS w zl bD x:=λe=>by obtain⟨x,x1,x2,x3,_⟩:=FY h hb hG hy;exact done x x2 x3 (by rw[e,x1])
  cases y with
  |ax v r p i k=>
   cases hc:gw s (.ax r p i k) with
   |none=>exact done (.dead v) rfl (Bf v) (by simp only[bn,C.er,fN,hc])
   |some cs=>
    cases cs with
    |nil=>exact done (.dead v) rfl (Bf v) (by simp only[bn,C.er,fN,hc])
    |cons a cs=>obtain⟨x,x1,x2,x3⟩:=Tb (jZ s) (Ta h hb hG) h hb hG hy hc (by simp) (a::cs).length (by simp);refine done x x2 x3 ?_;rw[x1,vF];simp only[bn,C.er,fN,hc]
  |_=>exact ji rfl
def afU(h:Inv w zl zb G s)(hb:∀b k,zb b k->bD b k)(hG:∀t b k,(G t).fp b k->bD b k){y:C}(hy:ew w zl zb G y):∃x:C,x.er=res s y.er/\x.val=y.val/\fS w zl bD x:=by
 have ji:res s y.er=lq s y.er->∃x:C,x.er=res s y.er/\x.val=y.val/\fS w zl bD x:=λe=>by obtain⟨x,x1,x2,x3,_⟩:=FY h hb hG hy;exact⟨x,by rw[x1,e],x2,x3⟩
 cases y with
 |agg n f=>
  obtain⟨l',l1,l2,l3⟩:=LD h hb hG ((List.range n).map f) λx hx=>by
   obtain⟨j,hj,rfl⟩:=bg.1 hx;have hj':j<n:=by simpa using hj
   exact⟨Od hy hj',(hy.ok.1 j hj').1⟩
  refine⟨gJ l',?_,?_,⟨⟨λj hj=>⟨(l3 _ (cI hj _)).2.1,(l3 _ (cI hj _)).1.ok⟩,λj hj b k hf=>((l3 _ (cI hj _)).1.cM b k hf).elim⟩,λj hj=>(l3 _ (cI hj _)).1.bare,λb k hf=>?_⟩⟩;·rw[vV,l1,cH];rfl
  ·rw[zj,l2,cH];rfl
  ·obtain⟨x,hx,hf⟩:=(qQ _ _ _).1 hf;exact(l3 x hx).1.cM b k hf
 |fn g n f=>
  obtain⟨l',l1,l2,l3⟩:=LC h hb hG ((List.range n).map f) λx hx=>by
   obtain⟨j,hj,rfl⟩:=bg.1 hx;have hj':j<n:=by simpa using hj
   exact⟨(hy.ok j hj').1,hy.rf j hj',(hy.ok j hj').2⟩
  refine⟨.fn g l'.length λj=>l'.getD j (.dead undef),?_,?_,⟨λj hj=>⟨(l3 _ (cI hj _)).ok,(l3 _ (cI hj _)).cM⟩,λj hj=>(l3 _ (cI hj _)).bare,λb k hf=>hf⟩⟩;·show X.fn _ _=_;rw[l9 l' _ C.er,l1,cH];rfl
  ·show Value.func _ _ _=_;rw[l9 l' _ C.val,l2,cH];rfl
 |_=>exact ji rfl
def afT(h:Inv w zl zb G s)(hb:∀b k,zb b k->bD b k)(hG:∀t b k,(G t).fp b k->bD b k){y:C}(hy:ew w zl zb G y)(n:Nat)(hn:0<n):∃x:C,x.er=xL n s y.er/\x.val=y.val/\fS w zl bD x:=by
 cases hc:gw s y.er with
 |none=>exact⟨.dead y.val,by simp only[xL,hc,C.er],rfl,Bf _⟩
 |some cs=>
  cases cs with
  |nil=>exact⟨.dead y.val,by simp only[xL,hc,C.er],rfl,Bf _⟩
  |cons a cs=>obtain⟨x,x1,x2,x3⟩:=Tc h hb hG hy hc (by simp) n hn;exact⟨x,by rw[x1];simp only[xL,hc],x2,x3⟩
end
section
variable {P:Program}{c:Ctx}{G:Nat->C}{zl:Nat->Nat->Prop}{s:ah}{a:Act}{w:World}{o:Oper}{K:ah->Prop}
def gM:List Operand->List (AV×PM)->Bool
 |[],[]=>true
 |x'::l',(x,m)::l=>aM x' x && (match m with|.jr n=>decide (0<n)|.mut _=>(dU l).isNone|_=>true) && gM l' l
 |_,_=>false
def MV(a:Act):List Operand->List (AV×PM)->List C->Prop
 |[],[],[]=>True
 |x'::l',(_,.mv)::l,m::ms=>m.val=a.eval x'/\MV a l' l ms
 |_::l',(_,.af)::l,_::ms=>MV a l' l ms
 |_::l',(_,.jr _)::l,_::ms=>MV a l' l ms
 |_::l',(_,.mut _)::l,_::ms=>MV a l' l ms
 |_,_,_=>False
def FG:∀{l':List Operand} {l:List (AV×PM)},gM l' l=true->∀{G:Nat->C} {s:ah},St c G zl s a w->
  ∃ms G',ms.map C.er=(bR l s).1/\MV a l' l ms/\bF w zl c.zb G ms G' (bR l s).2
 |[],[],_,G,s,h=>⟨[],G,rfl,trivial,bF.nil h.inv⟩
 |x'::l',(x,pm)::l,hc,G,s,h=>by
  simp only[gM,az] at hc;have other:(bR ((x,pm)::l) s=(.dead::(bR l s).1,(bR l s).2))->(∀m ms,MV a l' l ms->MV a (x'::l') ((x,pm)::l) (m::ms))->∃ms G',ms.map C.er=(bR ((x,pm)::l) s).1/\MV a (x'::l') ((x,pm)::l) ms/\bF w zl c.zb G ms G' (bR ((x,pm)::l) s).2:=λe hm=>by obtain⟨ms,G',g1,g2,g3⟩:=FG hc.2 h;rw[e];exact⟨.dead undef::ms,G',by simp[C.er,g1],hm _ _ g2,bF.cons (fB.self h.inv trivial trivial λ_ _ h=>h) g3⟩
  cases pm with
  |mv=>obtain⟨p,p1,p2,p3⟩:=cj h hc.1.1;obtain⟨y,G1,f1,f2,f3,f4⟩:=qC .mv h.inv p3;obtain⟨ms,G',g1,g2,g3⟩:=FG hc.2 (h.yL f4);rw[p1] at f1 g1 g3 f4;exact⟨y::ms,G',by simp[bR,f1,g1],⟨by rw[f2,p2],g2⟩,bF.cons f4 g3⟩
  |af=>exact other rfl λ_ _ h=>h
  |jr n=>exact other rfl λ_ _ h=>h
  | «mut» n=>exact other rfl λ_ _ h=>h
 |[],_::_,hc,_,_,_=>by cases hc
 |_::_,[],hc,_,_,_=>by cases hc
def Ds{G2:Nat->C}{s2:ah}{bD:Nat->Nat->Prop}(h:St c G2 zl s2 a w)(hb:∀b k,c.zb b k->bD b k)(hG:∀t b k,(G2 t).fp b k->bD b k){y:C}(hy:y.ok w (Zf zl bD))(EO:y.bare):∀{l':List Operand} {l:List (AV×PM)},gM l' l=true->∀{ms:List C},MV a l' l ms->
  (∀x∈ms,x.ok w (Zf zl bD)/\x.bare/\∀b k,x.fp b k->¬y.fp b k)->(ms.Pairwise λa b=>∀x k,a.fp x k->¬b.fp x k)->(∀(i:Nat) (x:AV) (n:Nat) (x':Operand),l[i]?=some (x,PM.mut n)->l'[i]?=some x'->y.val=a.eval x')->
  ∃cs:List C,cs.map C.er=gu s2 y.er l (ms.map C.er)/\cs.map C.val=l'.map a.eval/\(∀x∈cs,x.ok w (Zf zl bD)/\x.bare/\∀b k,x.fp b k->(∃m∈ms,m.fp b k)\/((dU l).isSome=true/\y.fp b k))/\cs.Pairwise λa b=>∀x k,a.fp x k->¬b.fp x k
 |[],[],_,[],_,_,_,_=>⟨[],rfl,rfl,λ_ hx=>(by cases hx),List.Pairwise.nil⟩
 |x'::l',(x,pm)::l,hc,[],hm,_,_,_=>by cases pm<;>exact hm.elim
 |x'::l',(x,pm)::l,hc,m::ms,hm,uf,gQ,nQ=>by
  simp only[gM,az] at hc;have wN:=eZ.1 gQ;have ih:=λ(hm:MV a l' l ms)=>Ds h hb hG hy EO hc.2 hm (λx hx=>uf x (bO _ hx)) wN.2 (λi x n x' h1 h2=>nQ (i+1) x n x' (by simpa using h1) (by simpa using h2))
  have RU:∀z:C,z.val=a.eval x'->fS w zl bD z->MV a l' l ms->gu s2 y.er ((x,pm)::l) ((m::ms).map C.er)=z.er::gu s2 y.er l (ms.map C.er)->((dU l).isSome=true->(dU ((x,pm)::l)).isSome=true)->∃cs:List C,cs.map C.er=gu s2 y.er ((x,pm)::l) ((m::ms).map C.er)/\cs.map C.val=(x'::l').map a.eval/\
    (∀z∈cs,z.ok w (Zf zl bD)/\z.bare/\∀b k,z.fp b k->(∃m'∈m::ms,m'.fp b k)\/((dU ((x,pm)::l)).isSome=true/\y.fp b k))/\cs.Pairwise λa b=>∀x k,a.fp x k->¬b.fp x k:=λz z1 z2 hm' he hmo=>by
   obtain⟨cs,c1,c2,c3,c4⟩:=ih hm';refine⟨z::cs,by rw[he,bn,c1],by simp[z1,c2],λu hu=>?_,eZ.2 ⟨λu _ b k hf=>(z2.cM b k hf).elim,c4⟩⟩;rcases b9.1 hu with rfl|hu;·exact⟨z2.ok,z2.bare,λb k hf=>(z2.cM b k hf).elim⟩
   ·obtain⟨u1,u2,u3⟩:=c3 u hu;exact⟨u1,u2,λb k hf=>(u3 b k hf).imp (λ⟨m',hm',hf⟩=>⟨m',bO _ hm',hf⟩) λhh=>⟨hmo hh.1,hh.2⟩⟩
  obtain⟨p,p1,p2,p3⟩:=cj h hc.1.1;cases pm with
  |af=>obtain⟨z,z1,z2,z3⟩:=afU h.inv hb hG p3;rw[p1] at z1;exact RU z (by rw[z2,p2]) z3 hm (by simp only[bn,gu,z1]) λhh=>hh
  |jr n=>obtain⟨z,z1,z2,z3⟩:=afT h.inv hb hG p3 n (by simpa using hc.1.2);rw[p1] at z1;exact RU z (by rw[z2,p2]) z3 hm (by simp only[bn,gu,z1]) λhh=>hh
  |mv=>
   obtain⟨hv,hm⟩:=hm;obtain⟨cs,c1,c2,c3,c4⟩:=ih hm;obtain⟨m1,m2,m3⟩:=uf m (bq ..);refine⟨m::cs,by simp only[bn,gu,c1],by simp[hv,c2],λu hu=>?_,eZ.2 ⟨λu hu b k hf hf'=>?_,c4⟩⟩
   ·rcases b9.1 hu with rfl|hu;·exact⟨m1,m2,λb k hf=>.inl ⟨u,bq ..,hf⟩⟩
    ·obtain⟨u1,u2,u3⟩:=c3 u hu;exact⟨u1,u2,λb k hf=>(u3 b k hf).imp (λ⟨m',hm',hf⟩=>⟨m',bO _ hm',hf⟩) id⟩
   ·rcases(c3 u hu).2.2 b k hf' with ⟨m',hm',jy⟩|⟨_,jy⟩;·exact wN.1 m' hm' b k hf jy
    ·exact m3 b k hf jy
  | «mut» n=>
   obtain⟨cs,c1,c2,c3,c4⟩:=ih hm;have hno:dU l=none:=by simpa using hc.1.2
   have hv:=nQ 0 x n x' rfl rfl;refine⟨y::cs,by simp only[bn,gu,c1],by simp[hv,c2],λu hu=>?_,eZ.2 ⟨λu hu b k hf hf'=>?_,c4⟩⟩
   ·rcases b9.1 hu with rfl|hu;·exact⟨hy,EO,λb k hf=>.inr ⟨rfl,hf⟩⟩
    ·obtain⟨u1,u2,u3⟩:=c3 u hu;refine⟨u1,u2,λb k hf=>(u3 b k hf).imp (λ⟨m',hm',hf⟩=>⟨m',bO _ hm',hf⟩) λhh=>⟨rfl,hh.2⟩⟩
   ·rcases(c3 u hu).2.2 b k hf' with ⟨m',hm',jy⟩|⟨hh,_⟩;·exact(uf m' (bO _ hm')).2.2 b k jy hf
    ·rw[hno] at hh;cases hh
 |[],_::_,hc,_,_,_,_,_=>by cases hc
 |_::_,[],hc,_,_,_,_,_=>by cases hc
 |[],[],_,_::_,hm,_,_,_=>hm.elim
def Yy{G2:Nat->C}{s2:ah}{bD:Nat->Nat->Prop}(h:St c G2 zl s2 a w)(hb:∀b k,c.zb b k->bD b k)(hG:∀t b k,(G2 t).fp b k->bD b k){x:AV}{x':Operand}(hx:aM x' x=true){f:FuncId}{cs:List X}(he:av s2 x=.fn f cs):
  ∃l:List C,l.map C.er=nI s2 (some x)/\a.eval x'=.func (.func f) #[] (l.map C.val).toArray/\∀x∈l,fS w zl bD x:=by
 obtain⟨p,p1,p2,p3⟩:=cj h hx;rw[he] at p1;cases p with
 |fn g n fc=>
  simp only[C.er,X.fn.injEq] at p1;obtain⟨rfl,p1⟩:=p1
  obtain⟨l',l1,l2,l3⟩:=LC h.inv hb hG ((List.range n).map fc) λx hx=>by
   obtain⟨j,hj,rfl⟩:=bg.1 hx;have hj':j<n:=by simpa using hj
   exact⟨(p3.ok j hj').1,p3.rf j hj',(p3.ok j hj').2⟩
  refine⟨l',?_,?_,l3⟩;·rw[l1,nI,he,<-p1,cH];rfl
  ·rw[<-p2,l2,cH];rfl
 |_=>simp[C.er] at p1
end
end M
namespace M
open Go Go.RowKit
variable [Bs]
def jJ{l:List X}:X.clean.cz l=true↔∀x∈l,x.clean=true:=by
 induction l with
 |nil=>simp[X.clean.cz]
 |cons a l ih=>simp[X.clean.cz,ih]
def Pt{l:List (List X)}:X.clean.bz l=true↔∀x∈l,∀y∈x,y.clean=true:=by
 induction l with
 |nil=>simp[X.clean.bz]
 |cons a l ih=>simp[X.clean.bz,ih,jJ]
namespace C
def ef:C->C
 |.row _ sz A len cap e=>.row .sl sz A len cap λi j=>(e i j).ef
 |.ptr _ g o n c=>.ptr .sl g o n λj=>(c j).ef
 |.agg n c=>.agg n λj=>(c j).ef
 |.ak n c=>.ak n λj=>(c j).ef
 |.fn f n c=>.fn f n λj=>(c j).ef
 |.ref v _ _=>.dead v
 |.ax v _ _ _ _=>.dead v
 |.cut v _ _ _ _=>.dead v
 |.dead v=>.dead v
 |.int k n=>.int k n
 |.bool b=>.bool b
 |.str s=>.str s
def xp:∀c:C,c.ef.er=c.er.md .sl
 |.row m sz A len cap e=>by simp only[ef,er,X.md];rw[X.FE .sl (λ_=>List.range sz) (λi j=>(e i j).er)];congr 1;exact b7 λi _=>b7 λj _=>xp (e i j)
 |.ptr m g o n c=>by simp only[ef,er,X.md,X.mZ];congr 1;exact b7 λj _=>xp (c j)
 |.agg n c=>by simp only[ef,er,X.md,X.mZ];congr 1;exact b7 λj _=>xp (c j)
 |.ak n c=>by simp only[ef,er,X.md,X.mZ];congr 1;exact b7 λj _=>xp (c j)
 |.fn f n c=>by simp only[ef,er,X.md,X.mZ];congr 1;exact b7 λj _=>xp (c j)
 |.ref _ _ _=>by simp only[ef,er,X.md]
 |.ax _ _ _ _ _=>by simp only[ef,er,X.md]
 |.cut _ _ _ _ _=>by simp only[ef,er,X.md]
 |.dead _=>by simp only[ef,er,X.md]
 |.int _ _=>by simp only[ef,er,X.md]
 |.bool _=>by simp only[ef,er,X.md]
 |.str _=>by simp only[ef,er,X.md]
def xu:∀c:C,c.ef.val=c.val
 |.row m sz A len cap e=>rfl
 |.ptr m g o n c=>rfl
 |.agg n c=>by simp only[ef,val];congr 2;exact b7 λj _=>xu (c j)
 |.ak n c=>by simp only[ef,val];congr 2;exact b7 λj _=>xu (c j)
 |.fn f n c=>by simp only[ef,val];congr 2;exact b7 λj _=>xu (c j)
 |.ref _ _ _=>rfl
 |.ax _ _ _ _ _=>rfl
 |.cut _ _ _ _ _=>rfl
 |.dead _=>rfl
 |.int _ _=>rfl
 |.bool _=>rfl
 |.str _=>rfl
def rY:∀(c:C) (b k:Nat),¬c.ef.fp b k
 |.row m sz A len cap e,b,k=>λh=>by cases h.1
 |.ptr m g o n c,b,k=>λh=>by cases h.1
 |.agg n c,b,k=>λ⟨j,_,hf⟩=>rY (c j) b k hf
 |.ak n c,b,k=>λ⟨j,_,hf⟩=>rY (c j) b k hf
 |.fn f n c,b,k=>λh=>h
 |.ref _ _ _,b,k=>λh=>h
 |.ax _ _ _ _ _,b,k=>λh=>h
 |.cut _ _ _ _ _,b,k=>λh=>h
 |.dead _,b,k=>λh=>h
 |.int _ _,b,k=>λh=>h
 |.bool _,b,k=>λh=>h
 |.str _,b,k=>λh=>h
def Ld{c:C}(h:c.cell):c.ef.cell:=by cases c<;>first|exact h|exact h.elim|trivial
def ad7{c:C}(h:c.fY):c.ef.fY:=by cases c<;>first|exact h|exact h.elim|trivial
def ad9{c:C}(h:c.cO):c.ef.cO:=by cases c<;>first|exact h|exact h.elim|trivial
def Sf(c:C):c.ef.fits .sl:=by cases c<;>first|trivial|exact .inr (.inl rfl)
def ad8{c:C}(h:c.plain):c.ef.plain:=by cases c<;>first|exact h|exact h.elim|trivial
variable {w:World}{zl aF zb:Nat->Nat->Prop}
def xq(hz:∀b k,zl b k->aF b k):∀c:C,c.er.clean=true->(∀b k,c.fp b k->aF b k)->c.ok w (Zf zl zb)->c.ef.ok w (Zf aF zb)
 |.row m sz A len cap e,hcl,hf,h=>by
  obtain⟨h1,h2,h3,h4,h5⟩:=h;simp only[er,X.clean,az] at hcl;refine⟨h1,λi j hi hj=>?_,λi j hi hj=>?_,λhm=>by (cases hm),λi j hi hj b k hh=>(rY _ b k hh).elim⟩
  ·obtain⟨g,o,hA,hc,um⟩:=h2 i j hi hj;refine⟨g,o,hA,by rw[xu];exact hc,λ_=>?_⟩;cases m with
   |own=>exact hf _ _ ⟨rfl,.inl ⟨o,hA⟩⟩
   |sl=>exact hz _ _ (um (by simp))
   |af=>simp at hcl
  ·obtain⟨a1,a2,a3,a4⟩:=h3 i j hi hj;exact⟨Ld a1,ad9 a2,Sf _,xq hz (e i j) (Pt.1 hcl.2 _ (bg.2 ⟨i,by simpa using hi,rfl⟩) _ (bg.2 ⟨j,by simpa using hj,rfl⟩)) (λb k hk=>hf b k (jV a1 a3 hi hj hk)) a4⟩
 |.ptr m g o n c,hcl,hf,h=>by
  obtain⟨h1,h2,h3,h4⟩:=h;simp only[er,X.clean,az] at hcl;refine⟨λj hj=>?_,h2,λj hj=>?_,λj hj b k hh=>(rY _ b k hh).elim⟩
  ·obtain⟨a1,a2,a3⟩:=h1 j hj;refine⟨by rw[xu];exact a1,λ_=>?_,λhm=>by (cases hm)⟩;cases m with
   |own=>exact hf _ _ ⟨rfl,.inl ⟨rfl,by omega,by omega⟩⟩
   |sl=>exact hz _ _ (a2 (by simp))
   |af=>simp at hcl
  ·obtain⟨a1,a2,a3⟩:=h3 j hj;exact⟨Ld a1,Sf _,xq hz (c j) (jJ.1 hcl.2 _ (bg.2 ⟨j,by simpa using hj,rfl⟩)) (λb k hk=>hf b k (kC a1 a2 hj hk)) a3⟩
 |.agg n c,hcl,hf,h=>by simp only[er,X.clean] at hcl;exact⟨λj hj=>⟨Ld (h.1 j hj).1,xq hz (c j) (jJ.1 hcl _ (bg.2 ⟨j,by simpa using hj,rfl⟩)) (λb k hk=>hf b k ⟨j,hj,hk⟩) (h.1 j hj).2⟩,λj hj b k hh=>(rY _ b k hh).elim⟩
 |.ak n c,hcl,hf,h=>by simp only[er,X.clean] at hcl;exact⟨λj hj=>⟨ad7 (h.1 j hj).1,xq hz (c j) (jJ.1 hcl _ (bg.2 ⟨j,by simpa using hj,rfl⟩)) (λb k hk=>hf b k ⟨j,hj,hk⟩) (h.1 j hj).2⟩,λj hj b k hh=>(rY _ b k hh).elim⟩
 |.fn f n c,hcl,hf,h=>by simp only[er,X.clean] at hcl;exact λj hj=>⟨xq hz (c j) (jJ.1 hcl _ (bg.2 ⟨j,by simpa using hj,rfl⟩)) (λb k hk=>((h j hj).2 b k hk).elim) (h j hj).1,λb k hh=>rY _ b k hh⟩
 |.ref _ _ _,_,_,_=>trivial
 |.ax _ _ _ _ _,_,_,_=>trivial
 |.cut _ _ _ _ _,_,_,_=>trivial
 |.dead _,_,_,_=>trivial
 |.int _ _,_,_,_=>trivial
 |.bool _,_,_,_=>trivial
 |.str _,_,_,h=>h
end C
variable {w:World}{zl zb:Nat->Nat->Prop}{G:Nat->C}{s:ah}
def Inv.more{aF:Nat->Nat->Prop}(h:Inv w zl zb G s)(h1:∀b k,zl b k->aF b k)(h2:∀b k,aF b k->(zl b k\/∀t,¬(G t).fp b k)/\b<w.heap.size):Inv w aF zb G s where
 er:=h.er
 ok:=λt=>C.gE (λm b k hz=>by
  cases m with
  |own=>exact hz
  |sl=>exact h1 b k hz
  |af=>exact hz.imp (h1 b k) id) _ (h.ok t)
 sep:=h.sep
 fz:=λt b k hf=>⟨λhz=>by
  rcases(h2 b k hz).1 with hh|hh;·exact(h.fz t b k hf).1 hh
  ·exact hh t hf,(h.fz t b k hf).2⟩
 rf:=h.rf
 cB:=λb k hz=>hz.elim (λhz=>(h2 b k hz).2) λhz=>h.cB b k (.inr hz)
section
variable {P:Program}{c:Ctx}{a:Act}{o:Oper}{K:ah->Prop}
def St.more{aF:Nat->Nat->Prop}(h:St c G zl s a w)(h1:∀b k,zl b k->aF b k)(h2:∀b k,aF b k->(zl b k\/∀t,¬(G t).fp b k)/\b<w.heap.size)(h3:∀b k,aF b k->zl b k\/c.F0 b k\/c.w0.heap.size<=b):St c G aF s a w where
 inv:=h.inv.more h1 h2
 val:=h.val
 size:=h.size
 small:=h.small
 defers:=h.defers
 tr:=⟨h.tr.ext,h.tr.dom,λb k hz=>h1 b k (h.tr.oT b k hz),λb k hz=>(h3 b k hz).elim (h.tr.zl b k) .inr,h.tr.gl,h.tr.z7⟩
 args:=h.args
def S4{d:Nat}{v:Value}(hd:a.tmps.getD d undef=v)(hn:d<a.tmps.size):a.put (some d) v=a:=by
 unfold Act.put;simp only;congr 1;apply Il;intro i;by_cases e:d=i;·subst e;rw[UY hn,<-hd,vJ,Ir hn];rfl
 ·rw[N0 e]
def Qw{d:Nat}{s':ah}(h:St c G zl s a w)(hn:d<c.nt)(cs:List C)(hcs:∀x∈cs,zi w zl c.zb G x)(k:List C->C)(kx:List X->X)(hk:∀l:List C,l.length=cs.length->(k l).er=kx (l.map C.er))
  (hkv:∀l:List C,l.map C.val=cs.map C.val->(k l).val=a.tmps.getD d undef)(hko:∀{aF:Nat->Nat->Prop},∀l:List C,l.length=cs.length->(∀x∈l,x.plain/\x.ok w (Zf aF c.zb)/\∀b k,¬x.fp b k)->(k l).ok w (Zf aF c.zb)/\(∀b q,¬(k l).fp b q)/\∀G,(k l).rf G)
  (hg:z6 d (cs.map C.er) kx s=some s'):∃G' aF,St c G' aF s' a w:=by
 obtain⟨l,G1,e1,e2,e3,e4,e5⟩:=CL cs G s h.inv hcs;unfold z6 at hg;rw[<-e1] at hg;cases hcl:X.clean.cz (l.map C.er) with
 |false=>rw[hcl] at hg;cases hg
 |true=>
  rw[hcl,lG] at hg;have hlen:l.length=cs.length:=by have:=dr List.length e2;simpa using this
  let aF:Nat->Nat->Prop:=λb k=>zl b k\/∃y∈l,y.fp b k;have h1:St c G1 zl (bT (cs.map C.er) s).2 a w:=h.move e4.inv e4.val (Ext.refl (λ_ _=>False) w) (λ_ _ hs=>hs.elim) (λt b k hf=>.inl ⟨t,e4.mono t b k hf⟩)
  have h2:St c G1 aF (bT (cs.map C.er) s).2 a w:=h1.more (λb k hz=>.inl hz) (λb k hz=>by
   rcases hz with hz|⟨y,hy,hf⟩;·exact⟨.inl hz,h1.inv.cB b k (.inl hz)⟩
   ·exact⟨.inr λt=>(e4.all y hy).2.1 t b k hf,C.fC _ (e4.all y hy).1 b k hf⟩) (λb k hz=>by
   rcases hz with hz|⟨y,hy,hf⟩;·exact .inl hz
   ·obtain⟨t,ht⟩:=(e4.all y hy).2.2.2 b k hf;exact .inr (h.tr.dom t b k ht))
  let m:=l.map C.ef;have hml:m.length=cs.length:=by simp[m,hlen]
  have acG:m.map C.er=X.dS .sl (l.map C.er):=by rw[X.mZ];simp only[m,cH];exact b7 λx _=>C.xp x
  have Rj:m.map C.val=cs.map C.val:=by rw[<-e2];simp only[m,cH];exact b7 λx _=>C.xu x
  have hmem:∀x∈m,x.plain/\x.ok w (Zf aF c.zb)/\∀b k,¬x.fp b k:=λx hx=>by obtain⟨y,hy,rfl⟩:=bg.1 hx;exact⟨C.ad8 (e3 y hy),C.xq (λb k hz=>.inl hz) y (jJ.1 hcl _ (j6 hy)) (λb k hf=>.inr ⟨y,hy,hf⟩) (e4.all y hy).1,C.rY y⟩
  rw[<-acG] at hg;cases hb:mF (cs.map C.er) (m.map C.er) (bT (cs.map C.er) s).2 with
  |none=>rw[hb] at hg;cases hg
  |some s3=>
   rw[hb] at hg;simp only[cg,dP] at hg;subst hg;obtain⟨G2,g1,g2,g3⟩:=Dv cs m h2.inv hml (λv r p hm=>e5 v r p ((hcs _ hm).weak v r p rfl)) (λi x y hx hy=>by have hy':=hmem y (mB hy);refine⟨hy'.1,?_,hy'.2.1⟩;have:=dr (λt:List Value=>t[i]?) Rj;simpa [cR,hx,hy] using this) (λy hy=>⟨λt b k hf=>((hmem y hy).2.2 b k hf).elim,λb k hf=>((hmem y hy).2.2 b k hf).elim⟩) (qS λx hx=>(hmem x hx).2.2) hb
   have h3:St c G2 aF s3 a w:=h2.move g1 g2 (Ext.refl (λ_ _=>False) w) (λ_ _ hs=>hs.elim) (λt b k hf=>by
    rcases g3 t b k hf with hh|⟨y,hy,hh⟩;·exact .inl ⟨t,hh⟩
    ·exact((hmem y hy).2.2 b k hh).elim)
   obtain⟨o1,o2,o3⟩:=hko m hml hmem;obtain⟨G3,h4⟩:=h3.put hn o1 (λt _ b k hf=>(o2 b k hf).elim) (λb k hf=>(o2 b k hf).elim) (o3 G2) (λb k hf=>(o2 b k hf).elim);rw[hk m hml,S4 (hkv m Rj).symm (by rw[h.size];exact hn)] at h4;exact⟨G3,aF,h4⟩
def abQ{fz:Bool}{d:Nat}{s':ah}(h:St c G zl s a w)(hn:d<c.nt)(hg:ghost fz d s=some s'):∃G' aF,St c G' aF s' a w:=by
 obtain⟨e1,e2,e3⟩:=SK h d;have hd:d<base:=kL hn h.small;have hval:a.tmps.getD d undef=(G d).val:=(h.val d hd).symm;unfold ghost at hg;cases fz with
 |false=>
  obtain⟨y,G1,f1,f2,f3,f4⟩:=qC .mv h.inv e3;rw[e1] at f1 f4;have nS:y.val=a.tmps.getD d undef:=by rw[f2,e2,hval]
  simp only[qI,dP] at hg;subst hg;obtain⟨G2,h2⟩:=h.MY f4 hn;rw[f1,S4 nS.symm (by rw[h.size];exact hn)] at h2;exact⟨G2,zl,h2⟩
 |true=>
  simp only[lG] at hg;rw[<-e1] at hg;cases hx:(G d).alias d [] with
  |agg n f=>
   rw[hx] at hg e2 e3;have er:(C.agg n f).er=.agg (((List.range n).map f).map C.er):=by simp only[C.er,cH];rfl
   rw[er] at hg;have hlen:((List.range n).map f).length=n:=by simp
   refine Qw h hn ((List.range n).map f) (λx hx=>?_) gJ .agg (λl _=>vV l) (λl hl=>?_) (λl hl hm=>⟨⟨λj hj=>⟨C.lg (hm _ (cI hj _)).1,(hm _ (cI hj _)).2.1⟩,λj hj b q hf=>((hm _ (cI hj _)).2.2 b q hf).elim⟩,λb q hf=>?_,λG j hj=>C.oc (hm _ (cI hj _)).1 G⟩) hg
   ·obtain⟨j,hj,rfl⟩:=bg.1 hx;have hj':j<n:=by simpa using hj
    exact⟨(e3.ok.1 j hj').1,(e3.ok.1 j hj').2,λb k hf=>e3.cM b k ⟨j,hj',hf⟩,λv r p e=>CQ (by rw[<-e];exact e3.rf j hj')⟩
   ·rw[zj,hl,hval,<-e2];simp only[C.val,cH];rfl
   ·obtain⟨x,hx,hf⟩:=(qQ _ _ _).1 hf;exact(hm x hx).2.2 b q hf
  |ref v r p=>
   rw[hx] at hg e2 e3;refine Qw h hn [.ref v r p] (λx hx=>?_) (λl=>l.headD (.dead undef)) (λl=>l.headD .dead) (λl hl=>?_) (λl hl=>?_) (λl hl hm=>?_) hg;·obtain rfl:=fy.1 hx;exact⟨LK e3.rf,trivial,λb k hf=>hf,λv' r' p' e=>by cases e;exact CQ e3.rf⟩
   ·cases l with
    |nil=>simp at hl
    |cons x l=>rfl
   ·cases l with
    |nil=>simp at hl
    |cons x l=>
     have:x.val=v:=by have:=dr List.head? hl;simpa [C.val] using this
     show x.val=_;rw[this,hval,<-e2];rfl
   ·cases l with
    |nil=>simp at hl
    |cons x l=>obtain⟨a1,a2,a3⟩:=hm x (bq ..);exact⟨a2,a3,λG=>C.oc a1 G⟩
  |_=>rw[hx] at hg;simp only[C.er,dP] at hg;subst hg;exact⟨G,zl,h⟩
def afk(h:St c G zl s a w){d sz:Nat}{fz agg:Bool}{ty:TypeId}{x:AV}{x':Operand}(ho:o.op=.load ty x')(hsz:∃i,P.info? ty=some i/\i.size=sz)(mN:∃dd,P.underlying ty=some dd/\(match dd with|.struct _=>true|.array _ _=>true|_=>false)=agg)
  (h1:agg=true\/sz=1)(hd:o.dst=some d)(hn:d<c.nt)(hx:aM x' x=true)
  (hK:aP P (.mW d fz sz agg x) s K):dL P c o a w K:=by obtain⟨cs,k1,k2,s',k3,k4⟩:=hK;obtain⟨v,hr,G1,tn,s1,q1,q2⟩:=SI (K:=λt=>t=put d (bif agg then .agg (cs.take sz) else cs.headD .dead) s) h ho hsz mN h1 hd hn hx ⟨cs,k1,k2,rfl⟩;subst q1;obtain⟨G2,tq,h2⟩:=abQ q2 hn k3;exact⟨v,hr,G2,tq,s',k4,h2⟩
end
end M
namespace M
open Go Go.RowKit
variable [Bs]
section
variable {P:Program}{c:Ctx}{G:Nat->C}{zl:Nat->Nat->Prop}{s:ah}{a:Act}{w:World}{o:Oper}{K:ah->Prop}
def qO(P:Program)(c:Ctx)(o:Oper)(a:Act)(w:World)(K:ah->Prop)(q:Bool):Prop:=
 ∃f args,(execOp a.eval o).run P w=.ok (.enter f args) w/\Calls P f args w λe w'=>∃v,e=.returned v/\Rel q w w'/\∃G' aF s',K s'/\St c G' aF s' (a.put o.dst v) w'
def LR{f:FuncId}{fn:Func}(hf:P.funcs[f]?=some fn)(hname:(fn.name== "runtime.NumGoroutine")=false) (hb:fn.body.isNone=false) (args:Array Value) (w:World):(callFunc f args).run P w=.ok (.enter f args) w:=by simp only[callFunc,Sem.run_bind,run_program,Result.andThen_ok,hf,hname,hb,fA,dQ,Sem.run_pure]
def St.result{aF:Nat->Nat->Prop}(h:St c G aF s a w){x:C}(d:Option Nat)(hn:∀n,d=some n->n<c.nt)(hok:x.ok w (Zf aF λ_ _=>False))(hb:x.bare)(hsep:∀t b k,x.fp b k->¬(G t).fp b k)(hfz:∀b k,x.fp b k->¬aF b k/\¬c.zb b k)
  (hdom:∀b k,x.fp b k->c.F0 b k\/c.w0.heap.size<=b):∃G',St c G' aF (fM d x.er s) (a.put d x.val) w:=by
 cases d with
 |none=>exact⟨G,h⟩
 |some n=>
  refine h.put (hn n rfl) (C.gE (λm b k hz=>?_) _ hok) (λt _=>hsep t) hfz (C.qU G _ hb) hdom;cases m with
  |own=>exact hz
  |sl=>exact hz
  |af=>exact hz.imp id λh=>h.elim
def St.after{aF:Nat->Nat->Prop}{w':World}{G1:Nat->C}{s1:ah}{S:Nat->Nat->Prop}(h:St c G zl s a w)(hi:Inv w' aF c.zb G1 s1)(hv:∀t,(G1 t).val=(G t).val)(hE:Ext S w w')(hS:∀b k,S b k->∃t,(G t).fp b k)
  (hd:∀t b k,(G1 t).fp b k->(∃u,(G u).fp b k)\/w.heap.size<=b)(hz1:∀b k,zl b k->aF b k)(hz2:∀b k,aF b k->zl b k\/(∃t,(G t).fp b k)\/w.heap.size<=b):St c G1 aF s1 a w' where
 inv:=hi
 val:=λt ht=>(hv t).trans (h.val t ht)
 size:=h.size
 small:=h.small
 defers:=h.defers
 tr:=⟨h.tr.ext.trans hE (λb k hs hb=>by
   obtain⟨t,ht⟩:=hS b k hs;rcases h.tr.dom t b k ht with hh|hh;·exact hh
   ·omega),λt b k hf=>by
   rcases hd t b k hf with ⟨u,hu⟩|hb;·exact h.tr.dom u b k hu
   ·exact .inr (jo h.tr.ext.size hb),λb k hz=>hz1 b k (h.tr.oT b k hz),λb k hz=>by
   rcases hz2 b k hz with hz|⟨t,ht⟩|hb;·exact h.tr.zl b k hz
   ·exact .inr (h.tr.dom t b k ht)
   ·exact .inr (.inr (jo h.tr.ext.size hb)),h.tr.gl,h.tr.z7⟩
 args:=λi v hi=>(hv _).trans (h.args i v hi)
def St.JW(h:St c G zl s a w)(bD:Nat->Nat->Prop)(hz:∀b k,c.zb b k->bD b k):Dl w zl bD:=λb hb=>by
 obtain⟨h1,h2⟩:=h.tr.gl b hb;refine⟨?_,λk=>(h2 k).imp (h.tr.oT b k) (hz b k)⟩;rw[<-h1]
 have hlt:b<c.w0.heap.size:=by
  rcases gI b c.w0.heap.size with h|h;·exact h
  ·rw[kP h] at h1;have:=Array.getElem?_eq_none_iff.1 h1.symm;omega
 rcases h.tr.ext.block b hlt with e|⟨arr,fT,t,fz,e1,e2,e3,e4⟩;·exact e
 ·have:fT=arr:=by apply Il;intro i;exact e4 i (h.tr.z7 b i hb)
  rw[e1,e2,this]
def HI{G1:Nat->C}{s1:ah}{l:List C}(h:St c G zl s a w)(hT:bF w zl c.zb G l G1 s1):St c G1 zl s1 a w:=
 h.move hT.inv hT.val (Ext.refl (λ_ _=>False) w) (λ_ _ hs=>hs.elim) (λt b k hf=>.inl ⟨t,hT.mono t b k hf⟩)
structure tu (P:Program) (c:Ctx) (zl:Nat->Nat->Prop) (o:Oper) (a:Act) (w:World) (l':List Operand) (f:FuncId) (fv:Option AV):Prop where
 run:∃oZ:List Value,(execOp a.eval o).run P w=.ok (.enter f ((l'.map a.eval)++oZ).toArray) w/\
  ∀{G2:Nat->C} {s2:ah} {bD:Nat->Nat->Prop},St c G2 zl s2 a w->(∀b k,c.zb b k->bD b k)->(∀t b k,(G2 t).fp b k->bD b k)->qY s2 fv f->∃l:List C,l.map C.er=nI s2 fv/\l.map C.val=oZ/\∀x∈l,fS w zl bD x
def jj:List (AV×PM)->Bool
 |[]=>true
 |(_,.af)::l=>jj l
 |(_,.jr _)::l=>jj l
 |_::_=>false
def Lg:∀{l:List (AV×PM)} (s:ah),jj l=true->∀x∈(bR l s).1,x=.dead
 |[],s,_,x,hx=>by cases hx
 |(_,.af)::l,s,h,x,hx=>(b9.1 hx).elim id (Lg (l:=l) s h x)
 |(_,.jr _)::l,s,h,x,hx=>(b9.1 hx).elim id (Lg (l:=l) s h x)
 |(_,.mv)::l,s,h,x,hx=>by cases h
 |(_,.mut _)::l,s,h,x,hx=>by cases h
def xy:∀{l:List (AV×PM)},jj l=true->dU l=none
 |[],_=>rfl
 |(_,.af)::l,h=>xy (l:=l) h
 |(_,.jr _)::l,h=>xy (l:=l) h
 |(_,.mv)::l,h=>by cases h
 |(_,.mut _)::l,h=>by cases h
def Pj(q:Bool)(h:St c G zl s a w){l':List Operand}{as:List (AV×PM)}(hc:gM l' as=true)(hno:dU as=none){f:FuncId}{fv:Option AV}(hop:tu P c zl o a w l' f fv)(hq:q=true->jj as=true)(hn:∀n,o.dst=some n->n<c.nt)(hK:tM P f o.dst as fv s K):qO P c o a w K q:=by
 obtain⟨k1,k2⟩:=hK;rw[hno] at k2;obtain⟨k2,k3⟩:=k2;obtain⟨ms,G1,g1,g2,hT⟩:=FG hc h;obtain⟨oZ,hrun,Af⟩:=hop.run;have h1:=HI h hT;rw[<-g1] at k1 k3;have jz:∀b k,c.zb b k->(c.zb b k\/∃t,(G1 t).fp b k):=λb k hz=>.inl hz;have rO:∀t b k,(G1 t).fp b k->(c.zb b k\/∃t,(G1 t).fp b k):=λt b k hf=>.inr ⟨t,hf⟩;obtain⟨l,l1,l2,l3⟩:=Af (bD:=λb k=>c.zb b k\/∃t,(G1 t).fp b k) h1 jz rO k2
 have acH:∀x∈ms,x.ok w (Zf zl λb k=>c.zb b k\/∃t,(G1 t).fp b k)/\x.bare/\∀b k,x.fp b k->¬(C.dead undef).fp b k:=λx hx=>by
  refine⟨C.gE (λm b k hz=>?_) _ (hT.all x hx).1,(C.lI x).1 (C.vX.1 k1 _ (j6 hx)),λ_ _ _ h=>h⟩;cases m with
  |own=>exact hz
  |sl=>exact hz
  |af=>exact hz.imp id .inl
 obtain⟨cs,c1,c2,c3,c4⟩:=Ds (bD:=λb k=>c.zb b k\/∃t,(G1 t).fp b k) h1 jz rO (y:=.dead undef) trivial trivial hc g2 acH hT.apart (λi x n x' hi _=>by
  exfalso
  have:∀{l:List (AV×PM)} {i:Nat},l[i]?=some (x,PM.mut n)->dU l≠none:=by
   intro l;induction l with
   |nil=>intro i hi;simp at hi
   |cons p l ih=>
    intro i hi;obtain⟨y,pm⟩:=p;cases i with
    |zero=>simp only[y9,dP,jE] at hi;obtain⟨_,rfl⟩:=hi;simp[dU]
    |succ i=>have:=ih (by simpa using hi);cases pm<;>simp[dU]<;>first|exact this|skip
  exact this hi hno)
 have cr:∀x∈cs++l,∀b k,x.fp b k->∃m∈ms,m.fp b k:=λx hx b k hf=>by
  rcases dO.1 hx with hx|hx
  ·rcases(c3 x hx).2.2 b k hf with hh|hh;·exact hh
   ·exact hh.2.elim
  ·exact((l3 x hx).cM b k hf).elim
 have hA:qL w zl (λb k=>c.zb b k\/∃t,(G1 t).fp b k) (cs++l):={
  ok:=λx hx=>(dO.1 hx).elim (λhx=>(c3 x hx).1) λhx=>(l3 x hx).ok
  bare:=λx hx=>(dO.1 hx).elim (λhx=>(c3 x hx).2.1) λhx=>(l3 x hx).bare
  fz:=λx hx b k hf=>by obtain⟨m,hm,hf⟩:=cr x hx b k hf;exact⟨((hT.all m hm).2.2.1 b k hf).1,λhz=>hz.elim ((hT.all m hm).2.2.1 b k hf).2 λ⟨t,ht⟩=>(hT.all m hm).2.1 t b k hf ht⟩
  cB:=λb k hz=>by
   rcases hz with hz|hz|⟨t,ht⟩;·exact hT.inv.cB b k (.inl hz)
   ·exact hT.inv.cB b k (.inr hz)
   ·exact C.fC _ (hT.inv.ok t) b k ht
  apart:=s7.2 ⟨c4,qS λx hx=>(l3 x hx).cM,λx _ y hy b k _ hf=>(l3 y hy).cM b k hf⟩}
 have rH:=k3 w zl _ (cs++l) (by rw[iS,c1,l1];rfl) hA (h.JW _ λb k hz=>.inl hz);have uk:(cs++l).map C.val=l'.map a.eval++oZ:=by rw[iS,c2,l2]
 rw[uk] at rH;refine⟨f,_,hrun,rH.mono ?_⟩;rintro e w' ⟨r,ps,aF,hD,hk⟩;have hin:∀b k,aF b k->b<w'.heap.size:=λb k hz=>hD.all.cB b k (.inl hz);have kz:∀b k,(∃m∈ms,m.fp b k)->(∀t,¬(G1 t).fp b k)/\¬zl b k/\¬c.zb b k:=λb k ⟨m,hm,hf⟩=>⟨λt=>(hT.all m hm).2.1 t b k hf,(hT.all m hm).2.2.1 b k hf⟩;have jR:∀b k,(∃x∈cs++l,x.fp b k)->∃m∈ms,m.fp b k:=λb k ⟨x,hx,hf⟩=>cr x hx b k hf;have AA:∀b k,aF b k->zl b k\/(∃m∈ms,m.fp b k)\/w.heap.size<=b:=λb k hz=>(hD.tq b k hz).imp id λhh=>hh.imp (jR b k) id
 have hi:=hT.inv.Ov hD.ext (λb k hs=>kz b k (jR b k hs)) hD.tn (λb k hz=>⟨hin b k hz,λt hf=>by
  rcases AA b k hz with hz|hm|hb;·exact(hT.inv.fz t b k hf).1 hz
  ·exact(kz b k hm).1 t hf
  ·have:=C.fC _ (hT.inv.ok t) b k hf;omega⟩)
 have kA:∀b k,(∃m∈ms,m.fp b k)->∃t,(G t).fp b k:=λb k ⟨m,hm,hf⟩=>(hT.all m hm).2.2.2 b k hf;have h2:St c G1 aF (bR as s).2 a w':=h.after hi hT.val hD.ext (λb k hs=>kA b k (jR b k hs)) (λt b k hf=>.inl ⟨t,hT.mono t b k hf⟩) hD.tn (λb k hz=>(AA b k hz).imp id λhh=>hh.imp (kA b k) id);have hrd:∀b k,r.fp b k->(∃m∈ms,m.fp b k)\/w.heap.size<=b:=λb k hf=>(hD.dom r (bq ..) b k hf).imp (jR b k) id
 obtain⟨G3,h3⟩:=h2.result (x:=r) o.dst hn (hD.all.ok r (bq ..)) (hD.all.bare r (bq ..)) (λt b k hf hf'=>by
   rcases hrd b k hf with hm|hb;·exact(kz b k hm).1 t hf'
   ·have:=C.fC _ (hT.inv.ok t) b k hf';omega) (λb k hf=>⟨(hD.all.fz r (bq ..) b k hf).1,λhz=>by
   rcases hrd b k hf with hm|hb;·exact(kz b k hm).2.2 hz
   ·have:=hT.inv.cB b k (.inr hz);omega⟩) (λb k hf=>by
   rcases hrd b k hf with hm|hb;·obtain⟨t,ht⟩:=kA b k hm;exact h.tr.dom t b k ht
   ·exact .inr (jo h.tr.ext.size hb))
 refine⟨r.val,hD.ends,λKr=>hD.ext.mono λb k hs _=>?_,G3,aF,_,hk,h3⟩;obtain⟨m,hm,hf⟩:=jR b k hs;have hd:=Lg s (hq Kr) m.er (by rw[<-g1];exact j6 hm);cases m<;>first|exact hf|(simp[C.er] at hd)
end
end M
namespace M
open Go Go.RowKit
variable [Bs]
structure eV (w w':World) (zl aF zb:Nat->Nat->Prop) (G:Nat->C) (r:Nat) (p:Path) (D y q:C) (S M:Nat->Nat->Prop):Prop where
 sub:(G r).sub p=some D
 yD:∀b k,y.fp b k->D.fp b k
 ext:Ext S w w'
 rT:∀b k,S b k->M b k\/y.fp b k
 xG:∀b k,M b k->(∀t,¬(G t).fp b k)/\¬zl b k/\¬zb b k
 FQ:q.ok w' (Zf aF zb)
 bare:q.bare
 val:q.val=y.val
 fp:∀b k,q.fp b k->S b k\/w.heap.size<=b
 qz:∀b k,q.fp b k->¬aF b k
 z1:∀b k,zl b k->aF b k
 z2:∀b k,aF b k->zl b k\/S b k\/w.heap.size<=b
 cB:∀b k,aF b k->b<w'.heap.size
section
variable {w w':World}{zl aF zb:Nat->Nat->Prop}{G:Nat->C}{s:ah}{r:Nat}{p:Path}{D y q:C}{S M:Nat->Nat->Prop}
def eV.DG(h:eV w w' zl aF zb G r p D y q S M)(hi:Inv w zl zb G s){b k:Nat}(hf:D.fp b k):(G r).fp b k:=C.gH p h.sub (hi.ok r) hf
def eV.notM(h:eV w w' zl aF zb G r p D y q S M)(hi:Inv w zl zb G s){b k:Nat}(hf:D.fp b k):¬M b k:=λhm=>(h.xG b k hm).1 r (h.DG hi hf)
def eV.Sq(h:eV w w' zl aF zb G r p D y q S M)(hi:Inv w zl zb G s){b k:Nat}(hf:D.fp b k):¬w.heap.size<=b:=λhb=>by have:=C.fC _ (hi.ok r) b k (h.DG hi hf);omega
def eV.qD(h:eV w w' zl aF zb G r p D y q S M)(hi:Inv w zl zb G s){b k:Nat}(hq:q.fp b k)(hf:D.fp b k):y.fp b k:=by
 rcases h.fp b k hq with hs|hb;·exact(h.rT b k hs).resolve_left (h.notM hi hf)
 ·exact(h.Sq hi hf hb).elim
def eV.zD(h:eV w w' zl aF zb G r p D y q S M)(hi:Inv w zl zb G s){b k:Nat}(hz:aF b k)(hf:D.fp b k):y.fp b k:=by
 rcases h.z2 b k hz with hz|hs|hb;·exact((hi.fz r b k (h.DG hi hf)).1 hz).elim
 ·exact(h.rT b k hs).resolve_left (h.notM hi hf)
 ·exact(h.Sq hi hf hb).elim
def eV.SD(h:eV w w' zl aF zb G r p D y q S M)(hi:Inv w zl zb G s){b k:Nat}(hs:S b k)(hf:D.fp b k):y.fp b k:=(h.rT b k hs).resolve_left (h.notM hi hf)
def eV.Z(h:eV w w' zl aF zb G r p D y q S M)(hi:Inv w zl zb G s):∀m b k,Zf zl zb m b k->¬S b k:=λm b k hz hs=>by
 rcases h.rT b k hs with hm|hy
 ·obtain⟨_,a1,a2⟩:=h.xG b k hm;cases m with
  |own=>exact hz
  |sl=>exact a1 hz
  |af=>exact hz.elim a1 a2
 ·exact hi.zc r m b k hz (h.DG hi (h.yD b k hy))
def eV.mono(h:eV w w' zl aF zb G r p D y q S M):∀m b k,Zf zl zb m b k->Zf aF zb m b k:=λm b k hz=>by
 cases m with
 |own=>exact hz
 |sl=>exact h.z1 b k hz
 |af=>exact hz.imp (h.z1 b k) id
def eV.back(h:eV w w' zl aF zb G r p D y q S M)(hi:Inv w zl zb G s){d0:C}(hok:d0.ok w' (Zf aF zb))(hF:C.gm D d0)(hl:C.hU D d0)(hrf:(d0.aA (C.belows r p)).rf λt=>(G t).aA (C.belows r p))(cr:∀b k,d0.fp b k->q.fp b k\/(D.fp b k/\¬y.fp b k))(hz:∀b k,d0.fp b k->¬aF b k):
  ∃G',Inv w' aF zb G' (iy r p d0.er s)/\(∀t,(G' t).val=(G t).val)/\∀t b k,(G' t).fp b k->q.fp b k\/((∃u,(G u).fp b k)/\¬y.fp b k):=by
 have h1:=hi.eY r p;have hs1:((G r).aA (C.belows r p)).sub p=some (D.aA (C.belows r p)):=C.jg _ p _ _ (hi.ok r) h.sub;have Aj:∀t b k,((G t).aA (C.belows r p)).fp b k↔(G t).fp b k:=λt b k=>C.cG _ _ b k
 have hFB:C.gm (D.aA (C.belows r p)) (d0.aA (C.belows r p)):=by
  cases hF with
  |row=>exact .row ..
  |ptr=>exact .ptr ..
 have rJ:C.hU (D.aA (C.belows r p)) (d0.aA (C.belows r p)):=by
  cases hF with
  |row m m' sz A len cap e e'=>exact⟨rfl,λh=>h,λh=>h,λh=>h,hl.fits⟩
  |ptr m m' g o n c c'=>exact⟨rfl,λh=>h,λh=>h,λh=>h,hl.fits⟩
 obtain⟨i1,i2,i3⟩:=h1.IX r p (λt=>C.gD _ _) hs1 hFB rJ ⟨hrf,C.gD _ _⟩ h.ext (λb k hs=>by
   rcases h.rT b k hs with hm|hy;·obtain⟨a1,a2,a3⟩:=h.xG b k hm;exact .inr ⟨λt hf=>a1 t ((Aj t b k).1 hf),a2,a3⟩
   ·exact .inl ((C.cG _ D b k).2 (h.yD b k hy))) (C.l5 _ _ hok) h.z1 (λb k um=>⟨λhf=>hz b k ((C.cG _ d0 b k).1 hf) um,h.cB b k um,λt hf=>by
   refine(C.cG _ D b k).2 ?_;have hf:=(Aj t b k).1 hf;rcases h.z2 b k um with fE|hs|hb;·exact((hi.fz t b k hf).1 fE).elim
   ·rcases h.rT b k hs with hm|hy;·exact((h.xG b k hm).1 t hf).elim
    ·exact h.yD b k hy
   ·have:=C.fC _ (hi.ok t) b k hf;omega⟩) (λb k hf=>by
   rcases(cr b k ((C.cG _ d0 b k).1 hf)).symm with hf|hf;·exact .inl ((C.cG _ D b k).2 hf.1)
   ·rcases h.fp b k hf with hs|hb
    ·rcases h.rT b k hs with hm|hy;·obtain⟨a1,a2,a3⟩:=h.xG b k hm;exact .inr ⟨λt hf=>a1 t ((Aj t b k).1 hf),a3⟩
     ·exact .inl ((C.cG _ D b k).2 (h.yD b k hy))
    ·exact .inr ⟨λt hf=>by have:=C.fC _ (hi.ok t) b k ((Aj t b k).1 hf);omega,λhz=>by have:=hi.cB b k (.inr hz);omega⟩)
 rw[C.xe] at i1;refine⟨_,i1,λt=>(i2 t).trans (C.jh _ _),λt b k hf=>?_⟩;rcases i3 t b k hf with hf|hf
 ·rcases cr b k ((C.cG _ d0 b k).1 hf) with hf|hf;·exact .inl hf
  ·exact .inr ⟨⟨r,h.DG hi hf.1⟩,hf.2⟩
 ·exact .inr ⟨⟨t,(Aj t b k).1 hf.1⟩,λhy=>hf.2 ((C.cG _ D b k).2 (h.yD b k hy))⟩
end
end M
namespace M
open Go Go.RowKit
variable [Bs]
def TJ{α:Type}(f g:Nat->α){nn c n:Nat}(h:c+n<=nn):((List.range nn).map λj=>if c<=j/\j<c+n then g (j - c) else f j)=((List.range nn).map f).take c++(List.range n).map g++((List.range nn).map f).drop (c+n):=by
 apply hO;intro i;rw[C.cU];have Ri:(((List.range nn).map f).take c).length=c:=by simp;omega
 have pK:(((List.range nn).map f).take c++(List.range n).map g).length=c+n:=by rw[e9,Ri];simp
 by_cases h0:i<nn
 ·rw[au h0];by_cases h1:i<c;·rw[aC (by omega),nF (by omega),nF (by omega),NV h1,C.cU,au h0]
  ·by_cases h2:i<c+n;·rw[au ⟨by omega,h2⟩,nF (by omega),iB (by omega),Ri,C.cU,au (by omega)]
   ·rw[aC (by omega),iB (by omega),pK,oS,C.cU,show c+n+(i - (c+n))=i by omega,au h0]
 ·rw[aC h0,iB (by omega),pK,oS,C.cU,aC (by omega)]
section
variable {w w':World}{zl aF zb:Nat->Nat->Prop}{G:Nat->C}{s:ah}{r:Nat}{p:Path}{S M:Nat->Nat->Prop}
def eV.ptr{g o nn n c:Nat}{f qf:Nat->C}(h:eV w w' zl aF zb G r p (.ptr .own g o nn f) (.ptr .own g (o+c) n λj=>f (j+c)) (.ptr .own g (o+c) n qf) S M)(hi:Inv w zl zb G s)(hn:c+n<=nn):
  ∃G',Inv w' aF zb G' (iy r p (.ptr .own (((List.range nn).map λj=>(f j).er).take c++((List.range n).map λj=>(qf j).er)++((List.range nn).map λj=>(f j).er).drop (c+n))) s)/\(∀t,(G' t).val=(G t).val)/\∀t b k,(G' t).fp b k->(C.ptr .own g (o+c) n qf).fp b k\/((∃u,(G u).fp b k)/\¬(C.ptr .own g (o+c) n λj=>f (j+c)).fp b k):=by
 obtain⟨D1,D2,D3,D4⟩:=C.gY p h.sub (hi.ok r);obtain⟨q1,q2,q3,q4⟩:=h.FQ;have mO:∀j,j<n->∀b k,(qf j).fp b k->(C.ptr .own g (o+c) n qf).fp b k:=λj hj b k hf=>C.kC (q3 j hj).1 (q3 j hj).2.1 hj hf;have mM:∀j,j<nn->∀b k,(f j).fp b k->(C.ptr .own g o nn f).fp b k:=λj hj b k hf=>C.kC (D3 j hj).1 (D3 j hj).2.1 hj hf;have pF:∀k,o<=k->k<o+nn->(C.ptr .own g o nn f).fp g k:=λk h1 h2=>⟨rfl,.inl ⟨rfl,h1,h2⟩⟩
 have lV:∀k,o<=k->k<o+nn->(C.ptr .own g (o+c) n λj=>f (j+c)).fp g k->o+c<=k/\k<o+c+n:=λk h1 h2 ⟨_,hf⟩=>by
  rcases hf with hf|⟨j,hj,hf⟩;·exact hf.2
  ·exact((D4 (j+c) (by omega) g k hf).1 rfl ⟨rfl,h1,h2⟩).elim
 have mQ:∀j,j<nn->¬(c<=j/\j<c+n)->∀b k,(f j).fp b k->¬(C.ptr .own g (o+c) n λj=>f (j+c)).fp b k:=λj hj hne b k hf ⟨_,hf'⟩=>by
  rcases hf' with hf'|⟨j',hj',hf'⟩;·exact(D4 j hj b k hf).1 rfl ⟨hf'.1,by omega,by omega⟩
  ·exact(D4 j hj b k hf).2 (j'+c) (by omega) (by omega) hf'
 let d:Nat->C:=λj=>if c<=j/\j<c+n then qf (j - c) else f j
 have iE:∀j,c<=j/\j<c+n->d j=qf (j - c):=λj hj=>au hj;have iF:∀j,¬(c<=j/\j<c+n)->d j=f j:=λj hj=>aC hj
 have hok:(C.ptr .own g o nn d).ok w' (Zf aF zb):=by
  refine⟨λj hj=>⟨?_,λhm=>(hm rfl).elim,λ_=>(h.ext.frozen D2).trans ((D1 j hj).2.2 rfl)⟩,kL D2 h.ext.size,λj hj=>?_,λj hj b k hf=>⟨λ_ hb=>?_,λj' hj' hne=>?_⟩⟩
  ·by_cases hr:c<=j/\j<c+n;·rw[iE j hr];have:=(q1 (j - c) (by omega)).1;rwa [show o+c+(j - c)=o+j by omega] at this
   ·rw[iF j hr];exact h.ext.cell (λhs=>hr (by have:=lV (o+j) (by omega) (by omega) (h.SD hi hs (pF _ (by omega) (by omega)));omega)) (D1 j hj).1
  ·by_cases hr:c<=j/\j<c+n;·rw[iE j hr];obtain⟨a1,a2,a3⟩:=q3 (j - c) (by omega);exact⟨a1,a2,a3⟩
   ·rw[iF j hr];obtain⟨a1,a2,a3⟩:=D3 j hj;exact⟨a1,a2,C.gE h.mono _ (C.fG h.ext (h.Z hi) _ (λb k hf hs=>mQ j hj hr b k hf (h.SD hi hs (mM j hj b k hf))) a3)⟩
  ·obtain⟨rfl,jx,kn⟩:=hb;by_cases hr:c<=j/\j<c+n;·rw[iE j hr] at hf;have:=lV k jx kn (h.qD hi (mO _ (by omega) _ _ hf) (pF k jx kn));exact(q4 (j - c) (by omega) _ k hf).1 rfl ⟨rfl,this.1,this.2⟩
   ·rw[iF j hr] at hf;exact(D4 j hj _ k hf).1 rfl ⟨rfl,jx,kn⟩
  ·by_cases hr:c<=j/\j<c+n
   ·rw[iE j hr] at hf;by_cases hr':c<=j'/\j'<c+n;·rw[iE j' hr'];exact(q4 (j - c) (by omega) b k hf).2 (j' - c) (by omega) (by omega)
    ·rw[iF j' hr'];exact λhf'=>mQ j' hj' hr' b k hf' (h.qD hi (mO _ (by omega) _ _ hf) (mM j' hj' b k hf'))
   ·rw[iF j hr] at hf;by_cases hr':c<=j'/\j'<c+n;·rw[iE j' hr'];exact λhf'=>mQ j hj hr b k hf (h.qD hi (mO _ (by omega) _ _ hf') (mM j hj b k hf))
    ·rw[iF j' hr'];exact(D4 j hj b k hf).2 j' hj' hne
 have ab3:=Inv.vz.CI p ((hi.eY r p).ok r) (C.jg (C.belows r p) p _ _ (hi.ok r) h.sub) ((hi.eY r p).rf r)
 obtain⟨G',i1,i2,i3⟩:=h.back hi (d0:=.ptr .own g o nn d) hok (.ptr ..) ⟨rfl,λh=>h,λh=>h,λh=>h,λ_ h=>h⟩ (λj hj=>by
   by_cases hr:c<=j/\j<c+n;·show ((d j).aA _).rf _;rw[iE j hr];exact C.nh _ _ (C.qU _ _ (h.bare (j - c) (by omega)))
   ·show ((d j).aA _).rf _;rw[iF j hr];exact ab3 j hj) (λb k hf=>by
   obtain⟨_,hf|⟨j,hj,hf⟩⟩:=hf
   ·obtain⟨rfl,h1,h2⟩:=hf;by_cases hr:o+c<=k/\k<o+c+n;·exact .inl ⟨rfl,.inl ⟨rfl,hr.1,hr.2⟩⟩
    ·exact .inr ⟨pF k h1 h2,λhy=>hr (lV k h1 h2 hy)⟩
   ·by_cases hr:c<=j/\j<c+n;·rw[iE j hr] at hf;exact .inl (mO _ (by omega) _ _ hf)
    ·rw[iF j hr] at hf;exact .inr ⟨mM j hj b k hf,mQ j hj hr b k hf⟩) (λb k hf hz=>by
   obtain⟨_,hf|⟨j,hj,hf⟩⟩:=hf;·obtain⟨rfl,h1,h2⟩:=hf;have:=lV k h1 h2 (h.zD hi hz (pF k h1 h2));exact h.qz _ k ⟨rfl,.inl ⟨rfl,this.1,this.2⟩⟩ hz
   ·by_cases hr:c<=j/\j<c+n;·rw[iE j hr] at hf;exact h.qz b k (mO _ (by omega) _ _ hf) hz
    ·rw[iF j hr] at hf;exact mQ j hj hr b k hf (h.zD hi hz (mM j hj b k hf)))
 have kq:(C.ptr .own g o nn d).er=.ptr .own (((List.range nn).map λj=>(f j).er).take c++((List.range n).map λj=>(qf j).er)++((List.range nn).map λj=>(f j).er).drop (c+n)):=by rw[<-TJ (λj=>(f j).er) (λj=>(qf j).er) hn];simp only[C.er];congr 1;refine b7 λj _=>?_;show (if _ then _ else _:C).er=_;split<;>rfl
 rw[kq] at i1;exact⟨G',i1,i2,i3⟩
def eV.row{z len cap:Nat}{A:Option Ad}{e qe:Nat->Nat->C}(h:eV w w' zl aF zb G r p (.row .own z A len cap e) (.row .own z A len cap e) (.row .own z A len cap qe) S M)(hi:Inv w zl zb G s):
  ∃G',Inv w' aF zb G' (iy r p (.row .own z (dK z len qe)) s)/\(∀t,(G' t).val=(G t).val)/\∀t b k,(G' t).fp b k->(C.row .own z A len cap qe).fp b k\/((∃u,(G u).fp b k)/\¬(C.row .own z A len cap e).fp b k):=
 h.back hi (d0:=.row .own z A len cap qe) h.FQ (.row ..) ⟨rfl,λh=>h,λh=>h,λh=>h,λ_ h=>h⟩ trivial (λb k hf=>.inl hf) (λb k hf=>h.qz b k hf)
def eV.elem{z g o len cap n c i:Nat}{e:Nat->Nat->C}{qf:Nat->C}(h:eV w w' zl aF zb G r p (.row .own z (some (g,o,none)) len cap e) (.ptr .own g (o+i*z+c) n λj=>e i (j+c)) (.ptr .own g (o+i*z+c) n qf) S M)(hi:Inv w zl zb G s)(Ak:i<len)(hn:c+n<=z)(hqs:∀j,j<n->(qf j).cO):
  ∃G',Inv w' aF zb G' (iy r p (.row .own z ((dK z len e).set i (((List.range z).map λj=>(e i j).er).take c++((List.range n).map λj=>(qf j).er)++((List.range z).map λj=>(e i j).er).drop (c+n)))) s)/\(∀t,(G' t).val=(G t).val)/\∀t b k,(G' t).fp b k->(C.ptr .own g (o+i*z+c) n qf).fp b k\/((∃u,(G u).fp b k)/\¬(C.ptr .own g (o+i*z+c) n λj=>e i (j+c)).fp b k):=by
 obtain⟨D1,D2,D3,D4,D5⟩:=C.gY p h.sub (hi.ok r);obtain⟨q1,q2,q3,q4⟩:=h.FQ;have mO:∀j,j<n->∀b k,(qf j).fp b k->(C.ptr .own g (o+i*z+c) n qf).fp b k:=λj hj b k hf=>C.kC (q3 j hj).1 (q3 j hj).2.1 hj hf;have mM:∀i' j,i'<len->j<z->∀b k,(e i' j).fp b k->(C.row .own z (some (g,o,none)) len cap e).fp b k:=λi' j hi' hj b k hf=>C.jV (D3 i' j hi' hj).1 (D3 i' j hi' hj).2.2.1 hi' hj hf;have pF:∀k,(C.row .own z (some (g,o,none)) len cap e).fp g k:=λk=>⟨rfl,.inl ⟨o,rfl⟩⟩
 have lV:∀k,(C.ptr .own g (o+i*z+c) n λj=>e i (j+c)).fp g k->o+i*z+c<=k/\k<o+i*z+c+n:=λk ⟨_,hf⟩=>by
  rcases hf with hf|⟨j,hj,hf⟩;·exact hf.2
  ·exact((D5 i (j+c) Ak (by omega) g k hf).1 rfl o rfl).elim
 have mQ:∀i' j,i'<len->j<z->¬(i'=i/\c<=j/\j<c+n)->∀b k,(e i' j).fp b k->¬(C.ptr .own g (o+i*z+c) n λj=>e i (j+c)).fp b k:=λi' j hi' hj hne b k hf ⟨_,hf'⟩=>by
  rcases hf' with hf'|⟨j',hj',hf'⟩;·exact(D5 i' j hi' hj b k hf).1 rfl o (by rw[hf'.1])
  ·exact(D5 i' j hi' hj b k hf).2 i (j'+c) Ak (by omega) (λe=>by simp only[jE] at e;exact hne ⟨e.1,by omega,by omega⟩) hf'
 let d:Nat->Nat->C:=λi' j=>if i'=i/\c<=j/\j<c+n then qf (j - c) else e i' j
 have iE:∀i' j,i'=i/\c<=j/\j<c+n->d i' j=qf (j - c):=λi' j hj=>au hj;have iF:∀i' j,¬(i'=i/\c<=j/\j<c+n)->d i' j=e i' j:=λi' j hj=>aC hj
 have hok:(C.row .own z (some (g,o,none)) len cap d).ok w' (Zf aF zb):=by
  refine⟨D1,λi' j hi' hj=>⟨g,o,rfl,?_,λhm=>(hm rfl).elim⟩,λi' j hi' hj=>?_,λ_=>?_,λi' j hi' hj b k hf=>⟨λ_ o' hA=>?_,λi2 j2 hi2 hj2 hne=>?_⟩⟩
  ·by_cases hr:i'=i/\c<=j/\j<c+n;·rw[iE i' j hr];obtain⟨rfl,h1,h2⟩:=hr;have:=(q1 (j - c) (by omega)).1;rwa [show o+i'*z+c+(j - c)=o+i'*z+j by omega] at this
   ·rw[iF i' j hr];obtain⟨g',o',hA,hcl,_⟩:=D2 i' j hi' hj;injection hA with hA
    injection hA with e1 e2
    injection e2 with e2
    subst e1;subst e2;refine h.ext.cell (λhs=>hr ?_) hcl;have:=lV _ (h.SD hi hs (pF _));have hj0:o+i'*z+j - (o+i*z)<z:=by omega
    have:=Lt hj hj0 (show i'*z+j=i*z+(o+i'*z+j - (o+i*z)) by omega);exact⟨this.1,by omega,by omega⟩
  ·by_cases hr:i'=i/\c<=j/\j<c+n;·rw[iE i' j hr];obtain⟨a1,a2,a3⟩:=q3 (j - c) (by omega);exact⟨a1,hqs _ (by omega),a2,a3⟩
   ·rw[iF i' j hr];obtain⟨a1,a2,a3,a4⟩:=D3 i' j hi' hj;exact⟨a1,a2,a3,C.gE h.mono _ (C.fG h.ext (h.Z hi) _ (λb k hf hs=>mQ i' j hi' hj hr b k hf (h.SD hi hs (mM i' j hi' hj b k hf))) a4)⟩
  ·rcases D4 rfl with ⟨hA,_⟩|⟨g',o',arr,t,fz,hA,hh,hsz,hfr⟩;·cases hA
   ·injection hA with hA
    injection hA with e1 e2
    injection e2 with e2
    subst e1;subst e2;have hg:g<w.heap.size:=(j9.1 hh).1;rcases h.ext.block g hg with e'|⟨a1,a2,t',lQ,r1,r2,r3,r4⟩;·exact .inr ⟨g,o,arr,t,fz,rfl,e'.trans hh,hsz,λk hk hk'=>(h.ext.frozen hg).trans (hfr k hk hk')⟩
    ·rw[hh] at r1;injection r1 with r1
     injection r1 with s1 s2 s3
     subst s1;exact .inr ⟨g,o,a2,t',lQ,rfl,r2,by omega,λk hk hk'=>(h.ext.frozen hg).trans (hfr k hk hk')⟩
  ·injection hA with hA
   injection hA with e1 e2
   subst e1;by_cases hr:i'=i/\c<=j/\j<c+n;·rw[iE i' j hr] at hf;have:=lV k (h.qD hi (mO _ (by omega) _ _ hf) (pF k));exact(q4 (j - c) (by omega) _ k hf).1 rfl ⟨rfl,this.1,this.2⟩
   ·rw[iF i' j hr] at hf;exact(D5 i' j hi' hj _ k hf).1 rfl o rfl
  ·by_cases hr:i'=i/\c<=j/\j<c+n
   ·rw[iE i' j hr] at hf;by_cases hr':i2=i/\c<=j2/\j2<c+n;·rw[iE i2 j2 hr'];exact(q4 (j - c) (by omega) b k hf).2 (j2 - c) (by omega) (λe=>hne (by simp only[jE];exact⟨by rw[hr.1,hr'.1],by omega⟩))
    ·rw[iF i2 j2 hr'];exact λhf'=>mQ i2 j2 hi2 hj2 hr' b k hf' (h.qD hi (mO _ (by omega) _ _ hf) (mM i2 j2 hi2 hj2 b k hf'))
   ·rw[iF i' j hr] at hf;by_cases hr':i2=i/\c<=j2/\j2<c+n;·rw[iE i2 j2 hr'];exact λhf'=>mQ i' j hi' hj hr b k hf (h.qD hi (mO _ (by omega) _ _ hf') (mM i' j hi' hj b k hf))
    ·rw[iF i2 j2 hr'];exact(D5 i' j hi' hj b k hf).2 i2 j2 hi2 hj2 hne
 obtain⟨G',i1,i2,i3⟩:=h.back hi (d0:=.row .own z (some (g,o,none)) len cap d) hok (.row ..) ⟨rfl,λh=>h,λh=>h,λh=>h,λ_ h=>h⟩ trivial (λb k hf=>by
   obtain⟨_,hf|⟨i',j,hi',hj,hf⟩⟩:=hf
   ·obtain⟨o',hA⟩:=hf;injection hA with hA
    injection hA with e1 e2
    subst e1;by_cases hr:o+i*z+c<=k/\k<o+i*z+c+n;·exact .inl ⟨rfl,.inl ⟨rfl,hr.1,hr.2⟩⟩
    ·exact .inr ⟨pF k,λhy=>hr (lV k hy)⟩
   ·by_cases hr:i'=i/\c<=j/\j<c+n;·rw[iE i' j hr] at hf;exact .inl (mO _ (by omega) _ _ hf)
    ·rw[iF i' j hr] at hf;exact .inr ⟨mM i' j hi' hj b k hf,mQ i' j hi' hj hr b k hf⟩) (λb k hf hz=>by
   obtain⟨_,⟨o',hA⟩|⟨i',j,hi',hj,hf⟩⟩:=hf
   ·injection hA with hA
    injection hA with e1 e2
    subst e1;have:=lV k (h.zD hi hz (pF k));exact h.qz _ k ⟨rfl,.inl ⟨rfl,this.1,this.2⟩⟩ hz
   ·by_cases hr:i'=i/\c<=j/\j<c+n;·rw[iE i' j hr] at hf;exact h.qz b k (mO _ (by omega) _ _ hf) hz
    ·rw[iF i' j hr] at hf;exact mQ i' j hi' hj hr b k hf (h.zD hi hz (mM i' j hi' hj b k hf)))
 have kq:(C.row .own z (some (g,o,none)) len cap d).er=.row .own z ((dK z len e).set i (((List.range z).map λj=>(e i j).er).take c++((List.range n).map λj=>(qf j).er)++((List.range z).map λj=>(e i j).er).drop (c+n))):=by
  rw[<-TJ (λj=>(e i j).er) (λj=>(qf j).er) hn];simp only[C.er];congr 1;symm;refine C.Bp _ _ len i _ λi' hi'=>?_;split;·rename_i hii;subst hii;refine b7 λj _=>?_;show (if _ then _ else _:C).er=_;simp only[true_and];split<;>rfl
  ·rename_i hii;refine b7 λj _=>?_;show (if _ then _ else _:C).er=_;rw[aC (λhh=>hii hh.1)]
 rw[kq] at i1;exact⟨G',i1,i2,i3⟩
end
end M
namespace M
open Go Go.RowKit
variable [Bs]
section
variable {P:Program}{c:Ctx}{G:Nat->C}{zl:Nat->Nat->Prop}{s:ah}{a:Act}{w:World}{o:Oper}{K:ah->Prop}
def Lh:∀{l':List Operand} {l:List (AV×PM)} {x:AV} {n:Nat},gM l' l=true->dU l=some (x,n)->∃i x',l[i]?=some (x,PM.mut n)/\l'[i]?=some x'/\aM x' x=true/\(∀(j:Nat) (x2:AV) (n2:Nat),l[j]?=some (x2,PM.mut n2)->j=i)/\∀ps:List X,kF l ps=ps.getD i .dead
 |[],[],x,n,_,h=>by cases h
 |UA::l',(x0,pm)::l,x,n,hc,h=>by
  simp only[gM,az] at hc
  have other:dU l=some (x,n)->(∀n2,pm≠PM.mut n2)->(∀(y:X) ps,kF ((x0,pm)::l) (y::ps)=kF l ps)->(kF ((x0,pm)::l) []=.dead)->∃i x',((x0,pm)::l)[i]?=some (x,PM.mut n)/\(UA::l')[i]?=some x'/\aM x' x=true/\(∀(j:Nat) (x2:AV) (n2:Nat),((x0,pm)::l)[j]?=some (x2,PM.mut n2)->j=i)/\∀ps:List X,kF ((x0,pm)::l) ps=ps.getD i .dead:=λhm hpm h1 h2=>by
   obtain⟨i,x',i1,i2,i3,i4,i5⟩:=Lh hc.2 hm;refine⟨i+1,x',by simpa using i1,by simpa using i2,i3,λj x2 n2 hj=>?_,λps=>?_⟩
   ·cases j with
    |zero=>simp only[y9,dP,jE] at hj;exact(hpm n2 hj.2).elim
    |succ j=>rw[i4 j x2 n2 (by simpa using hj)]
   ·cases ps with
    |nil=>rw[h2];rfl
    |cons y ps=>rw[h1,i5];rfl
  cases pm with
  |mv=>exact other h (λ_ e=>by cases e) (λ_ _=>rfl) rfl
  |af=>exact other h (λ_ e=>by cases e) (λ_ _=>rfl) rfl
  |jr m=>exact other h (λ_ e=>by cases e) (λ_ _=>rfl) rfl
  | «mut» m=>
   simp only[dU,dP,jE] at h;obtain⟨rfl,rfl⟩:=h;refine⟨0,UA,rfl,rfl,hc.1.1,λj x2 n2 hj=>?_,λps=>?_⟩
   ·cases j with
    |zero=>rfl
    |succ j=>
     exfalso;have hno:dU l=none:=by simpa using hc.1.2
     have:∀{l:List (AV×PM)} {i:Nat},l[i]?=some (x2,PM.mut n2)->dU l≠none:=by
      intro l;induction l with
      |nil=>intro i hi;simp at hi
      |cons p l ih=>
       intro i hi;obtain⟨y,pm⟩:=p;cases i with
       |zero=>simp only[y9,dP,jE] at hi;obtain⟨_,rfl⟩:=hi;simp[dU]
       |succ i=>have:=ih (by simpa using hi);cases pm<;>simp[dU]<;>first|exact this|skip
     exact this (by simpa using hj) hno
   ·cases ps<;>rfl
 |[],_::_,_,_,hc,_=>by cases hc
 |_::_,[],_,_,hc,_=>by cases hc
def Li(h:St c G zl s a w){l':List Operand}{as:List (AV×PM)}(hc:gM l' as=true){x:AV}{n:Nat}(nQ:dU as=some (x,n)){f:FuncId}{fv:Option AV}(hop:tu P c zl o a w l' f fv)(hn:∀n,o.dst=some n->n<c.nt)
  {ms:List C}{G1:Nat->C}{sm:ah}(hT:bF w zl c.zb G ms G1 sm)(g2:MV a l' as ms)(hmb:∀m∈ms,m.bare){r:Nat}{p:Path}{D y:C}(hsub:(G1 r).sub p=some D)(pN:y.ok w (Zf zl c.zb))(EO:y.bare)(nS:∀(i:Nat) (x':Operand),as[i]?=some (x,PM.mut n)->l'[i]?=some x'->y.val=a.eval x')(Kw:∀b k,y.fp b k->D.fp b k)
  (Af:qY (iN r p .dead sm) fv f){back:X->(ah->Prop)->Prop}(hk:AC P f (gu (iN r p .dead sm) y.er as (ms.map C.er)++nI (iN r p .dead sm) fv) λq ps=>back (kF as ps) λs'=>K (fM o.dst q s'))
  (ace:∀{w':World} {aF:Nat->Nat->Prop} {S M:Nat->Nat->Prop} {q:C},eV w w' zl aF c.zb G1 r p D y q S M->∀Kx,back q.er Kx->∃s',Kx s'/\∃G',Inv w' aF c.zb G' s'/\(∀t,(G' t).val=(G1 t).val)/\∀t b k,(G' t).fp b k->q.fp b k\/((∃u,(G1 u).fp b k)/\¬y.fp b k)):qO P c o a w K false:=by
 obtain⟨oZ,hrun,aci⟩:=hop.run;have h1:=HI h hT;obtain⟨D',G2,t1,t2,t3,t4,t5,t6,t7,t8,t9,t10,t11,t12⟩:=h1.inv.vz r p D hsub;have h2:St c G2 zl (iN r p .dead sm) a w:=h1.move t3 t10 (Ext.refl (λ_ _=>False) w) (λ_ _ hs=>hs.elim) (λt b k hf=>.inl ⟨t,t11 t b k hf⟩);have ac8:∀b k,y.fp b k->∀t,¬(G2 t).fp b k:=λb k hf t=>t8 t b k ((t12 b k).2 (Kw b k hf));have EN:∀b k,y.fp b k->(G1 r).fp b k:=λb k hf=>C.gH p hsub (hT.inv.ok r) (Kw b k hf);have jz:∀b k,c.zb b k->(c.zb b k\/∃t,(G2 t).fp b k):=λb k hz=>.inl hz;have rO:∀t b k,(G2 t).fp b k->(c.zb b k\/∃t,(G2 t).fp b k):=λt b k hf=>.inr ⟨t,hf⟩;obtain⟨l,l1,l2,l3⟩:=aci (bD:=λb k=>c.zb b k\/∃t,(G2 t).fp b k) h2 jz rO Af
 have Rs:∀m b k,Zf zl c.zb m b k->Zf zl (λb k=>c.zb b k\/∃t,(G2 t).fp b k) m b k:=λm b k hz=>by
  cases m with
  |own=>exact hz
  |sl=>exact hz
  |af=>exact hz.imp id .inl
 obtain⟨i,x',i1,i2,i3,i4,i5⟩:=Lh hc nQ;have Rz:=nS i x' i1 i2
 obtain⟨cs,c1,c2,c3,c4⟩:=Ds (bD:=λb k=>c.zb b k\/∃t,(G2 t).fp b k) h2 jz rO (y:=y) (C.gE Rs _ pN) EO hc g2 (λx hx=>⟨C.gE Rs _ (hT.all x hx).1,hmb x hx,λb k hf hf'=>(hT.all x hx).2.1 r b k hf (EN b k hf')⟩) hT.apart (λj x2 n2 x2' hj hj'=>by
  have:=i4 j x2 n2 hj;subst this;rw[i2] at hj';injection hj' with hj'
  rw[<-hj'];exact Rz)
 have cr:∀x∈cs++l,∀b k,x.fp b k->(∃m∈ms,m.fp b k)\/y.fp b k:=λx hx b k hf=>by
  rcases dO.1 hx with hx|hx;·exact((c3 x hx).2.2 b k hf).imp id λhh=>hh.2
  ·exact((l3 x hx).cM b k hf).elim
 have kz:∀b k,(∃m∈ms,m.fp b k)->(∀t,¬(G1 t).fp b k)/\¬zl b k/\¬c.zb b k:=λb k ⟨m,hm,hf⟩=>⟨λt=>(hT.all m hm).2.1 t b k hf,(hT.all m hm).2.2.1 b k hf⟩
 have hA:qL w zl (λb k=>c.zb b k\/∃t,(G2 t).fp b k) (cs++l):={
  ok:=λx hx=>(dO.1 hx).elim (λhx=>(c3 x hx).1) λhx=>(l3 x hx).ok
  bare:=λx hx=>(dO.1 hx).elim (λhx=>(c3 x hx).2.1) λhx=>(l3 x hx).bare
  fz:=λx hx b k hf=>by
   rcases cr x hx b k hf with hm|hy;·obtain⟨a1,a2,a3⟩:=kz b k hm;exact⟨a2,λhz=>hz.elim a3 λ⟨t,ht⟩=>a1 t (t11 t b k ht)⟩
   ·have:=hT.inv.fz r b k (EN b k hy);exact⟨this.1,λhz=>hz.elim this.2 λ⟨t,ht⟩=>ac8 b k hy t ht⟩
  cB:=λb k hz=>by
   rcases hz with hz|hz|⟨t,ht⟩;·exact hT.inv.cB b k (.inl hz)
   ·exact hT.inv.cB b k (.inr hz)
   ·exact C.fC _ (t3.ok t) b k ht
  apart:=s7.2 ⟨c4,qS λx hx=>(l3 x hx).cM,λx _ y hy b k _ hf=>(l3 y hy).cM b k hf⟩}
 have rH:=hk w zl _ (cs++l) (by rw[iS,c1,l1]) hA (h.JW _ λb k hz=>.inl hz);have uk:(cs++l).map C.val=l'.map a.eval++oZ:=by rw[iS,c2,l2]
 rw[uk] at rH;refine⟨f,_,hrun,rH.mono ?_⟩;rintro e w' ⟨r0,ps,aF,hD,hkk⟩;have Ak:i<ps.length:=by have h1:=dr List.length hD.vals;have h2:=dr List.length uk;simp only[cZ,e9] at h1 h2;have h3:=(aL.1 i2).1;omega
 have hq:ps[i]?=some ps[i]:=cm Ak;have Rn:ps[i]∈ps:=cy Ak
 have hqv:(ps[i]).val=y.val:=by
  have:(ps.map C.val)[i]?=(l'.map a.eval++oZ)[i]?:=by rw[hD.vals,uk]
  rw[cR,hq,nF (by simpa using (aL.1 i2).1),cR,i2] at this;simp only[cg,dP] at this;rw[this,Rz]
 have hmp:kF as (ps.map C.er)=(ps[i]).er:=by rw[i5];exact pq (by rw[cR,hq];rfl) _
 rw[hmp] at hkk;have EJ:=bO r0 Rn
 have QX:eV w w' zl aF c.zb G1 r p D y ps[i] (λb k=>∃x∈cs++l,x.fp b k) (λb k=>∃m∈ms,m.fp b k):={
  sub:=hsub
  yD:=Kw
  ext:=hD.ext
  rT:=λb k ⟨x,hx,hf⟩=>cr x hx b k hf
  xG:=kz
  FQ:=C.gE (λm b k hz=>by
   cases m with
   |own=>exact hz
   |sl=>exact hz
   |af=>exact hz.imp id λh=>h.elim) _ (hD.all.ok _ EJ)
  bare:=hD.all.bare _ EJ
  val:=hqv
  fp:=λb k hf=>hD.dom _ EJ b k hf
  qz:=λb k hf=>(hD.all.fz _ EJ b k hf).1
  z1:=hD.tn
  z2:=hD.tq
  cB:=λb k hz=>hD.all.cB b k (.inl hz)}
 obtain⟨s',hKs,G',j1,j2,j3⟩:=ace QX _ hkk;have kA:∀b k,(∃m∈ms,m.fp b k)->∃t,(G t).fp b k:=λb k ⟨m,hm,hf⟩=>(hT.all m hm).2.2.2 b k hf
 have rE:∀b k,(∃x∈cs++l,x.fp b k)->∃t,(G t).fp b k:=λb k ⟨x,hx,hf⟩=>by
  rcases cr x hx b k hf with hm|hy;·exact kA b k hm
  ·exact⟨r,hT.mono r b k (EN b k hy)⟩
 have h3:St c G' aF s' a w':=h.after j1 (λt=>(j2 t).trans (hT.val t)) hD.ext rE (λt b k hf=>by
   rcases j3 t b k hf with hq|⟨⟨u,hu⟩,_⟩;·exact(QX.fp b k hq).imp (rE b k) id
   ·exact .inl ⟨u,hT.mono u b k hu⟩) hD.tn (λb k hz=>(hD.tq b k hz).imp id λhh=>hh.imp (rE b k) id)
 have hrm:=bq (a:=r0) (l:=ps)
 obtain⟨G3,h4⟩:=h3.result (x:=r0) o.dst hn (hD.all.ok r0 hrm) (hD.all.bare r0 hrm) (λt b k hf hf'=>by
   rcases j3 t b k hf' with hq|⟨⟨u,hu⟩,hny⟩;·exact(eZ.1 hD.all.apart).1 _ Rn b k hf hq
   ·rcases hD.dom r0 hrm b k hf with ⟨x,hx,hf⟩|hb
    ·rcases cr x hx b k hf with hm|hy;·exact(kz b k hm).1 u hu
     ·exact hny hy
    ·have:=C.fC _ (hT.inv.ok u) b k hu;omega) (λb k hf=>⟨(hD.all.fz r0 hrm b k hf).1,λhz=>by
   rcases hD.dom r0 hrm b k hf with ⟨x,hx,hf⟩|hb
   ·rcases cr x hx b k hf with hm|hy;·exact(kz b k hm).2.2 hz
    ·exact(hT.inv.fz r b k (EN b k hy)).2 hz
   ·have:=hT.inv.cB b k (.inr hz);omega⟩) (λb k hf=>by
   rcases hD.dom r0 hrm b k hf with hs|hb;·obtain⟨t,ht⟩:=rE b k hs;exact h.tr.dom t b k ht
   ·exact .inr (jo h.tr.ext.size hb))
 exact⟨r0.val,hD.ends,(λh=>by cases h),G3,aF,_,hKs,h4⟩
end
end M
namespace M
open Go Go.RowKit
variable [Bs]
section
variable {P:Program}{c:Ctx}{G:Nat->C}{zl:Nat->Nat->Prop}{s:ah}{a:Act}{w:World}{o:Oper}{K:ah->Prop}
def JF{x:C}{m:Md}{xs:List X}(h:x.er=.ptr m xs):∃g o n f,x=.ptr m g o n f/\xs=(List.range n).map λj=>(f j).er:=by
 cases x with
 |ptr m' g o n f=>
  simp only[C.er] at h;injection h with h1 h2
  subst h1;exact⟨g,o,n,f,rfl,h2.symm⟩
 |_=>simp[C.er] at h
def af2{m m':Md}{z z' len len' cap cap':Nat}{A A':Option Ad}{e e':Nat->Nat->C}(h:(C.row m z A len cap e).val=(C.row m' z' A' len' cap' e').val):A=A'/\len=len'/\cap=cap':=by
 simp only[C.val] at h;injection h with h1 h2 h3
 refine⟨?_,h2,h3⟩;cases A with
 |none=>cases A' with
  |none=>rfl
  |some q=>simp at h1
 |some q=>cases A' with
  |none=>simp at h1
  |some q'=>
   simp only[cg,dP,Addr.mk.injEq,and_true] at h1
   rw[show q=q' from Prod.ext h1.1 (Prod.ext h1.2.1 h1.2.2)]
def SV(n:Nat)(f:Nat->C){k sz:Nat}(h:k+sz<=n):((List.range sz).map λj=>(f (j+k)).er)=(((List.range n).map λj=>(f j).er).drop k).take sz:=by rw[<-lE,og,<-oL,<-oL,vG,nC (by omega),cH];rfl
def Ph(h:St c G zl s a w){l':List Operand}{as:List (AV×PM)}(hc:gM l' as=true){x:AV}{n:Nat}(nQ:dU as=some (x,n)){f:FuncId}{fv:Option AV}(hop:tu P c zl o a w l' f fv)(hn:∀n,o.dst=some n->n<c.nt)(hK:tM P f o.dst as fv s K):qO P c o a w K false:=by
 obtain⟨k1,k2⟩:=hK;rw[nQ] at k2;simp only at k2;obtain⟨ms,G1,g1,g2,hT⟩:=FG hc h;have h1:=HI h hT;rw[<-g1] at k1 k2;have hmb:∀m∈ms,m.bare:=λm hm=>(C.lI m).1 (C.vX.1 k1 _ (j6 hm));obtain⟨i,x',i1,i2,i3,i4,i5⟩:=Lh hc nQ;obtain⟨u,u1,u2,u3⟩:=cj h1 i3;rw[<-u1] at k2
 have hval:∀y:C,y.val=u.val->∀(j:Nat) (x2:Operand),as[j]?=some (x,PM.mut n)->l'[j]?=some x2->y.val=a.eval x2:=λy hy j x2 hj hj'=>by
  have:=i4 j x n hj;subst this;rw[i2] at hj';injection hj' with hj'
  rw[hy,u2,hj']
 cases u with
 |ref v r p=>
  obtain⟨y',z',hs,hF,hv,m,z1,A,len,cap,e,rfl⟩:=u3.rf;cases hF with
  |row m m' sz' A len cap e e'=>
   simp only[C.er,placeOf,xx] at k2;split at k2
   ·rename_i z xs hlk;obtain⟨k2,k3,k4⟩:=k2;simp only[look] at hlk;rw[<-h1.inv.er,C.gG,hs] at hlk;simp only[cg,dP] at hlk;obtain⟨A2,amI,cap2,e2,he,rfl⟩:=zV hlk;injection he with b1 b2 b3 b4 b5 b6
    subst b1;subst b2;subst b3;subst b4;subst b5;subst b6;have hok:=C.gY p hs (h1.inv.ok r)
    refine Li h hc nQ hop hn hT g2 hmb hs (y:=.row .own z1 A len cap e') (back:=λy Kx=>match y with
     |.row .own z' ys=>z'=z1/\Kx (iy r p (.row .own z1 ys) (bR as s).2)
     |_=>False) hok trivial (hval _ hv) (λb k hf=>hf) k3 (by rw[hlk];exact k4) λ{w' aF S M q} hM Kx hb=>?_
    split at hb;·rename_i z' ys hq;obtain⟨rfl,hb⟩:=hb;obtain⟨A3,amJ,akO,e3,rfl,rfl⟩:=zV hq;obtain⟨c1,c2,c3⟩:=af2 hM.val;subst c1;subst c2;subst c3;obtain⟨G',j1,j2,j3⟩:=hM.row h1.inv;exact⟨_,hb,G',j1,j2,j3⟩
    ·exact hb.elim
   ·exact k2.elim
 |ax v r p i k=>
  obtain⟨D,hs,hp⟩:=u3.rf;have hok:=C.gY p hs (h1.inv.ok r);simp only[C.er,placeOf,xx] at k2;have hlk:look (bR as s).2 r p=some D.er:=by simp only[look];rw[<-h1.inv.er,C.gG,hs];rfl
  rw[hlk] at k2;rcases hp with ⟨m,z,g,o',len,cap,e,rfl,rfl⟩|⟨m,g,o',nn,f',rfl,rfl,rfl⟩
  ·simp only[C.er] at k2;cases m with
   |own=>
    simp only[C.cU] at k2;split at k2
    ·rename_i e0 jT;split at jT
     ·rename_i hi;injection jT with jT
      obtain⟨k0,k2,k3,k4⟩:=k2;have hkn:k+n<=z:=by rw[<-jT] at k0;simpa using k0
      obtain⟨D1,D2,D3,D4,D5⟩:=hok;have Ay:(C.ptr .own g (o'+i*z+k) n λj=>e i (j+k)).er=.ptr .own ((e0.drop k).take n):=by rw[<-jT,<-SV z (λj=>e i j) hkn];rfl
      have hfr:∀j,j<z->w.frozen? ⟨g,o'+i*z+j,none⟩=false/\g<w.heap.size:=λj hj=>by
       rcases D4 rfl with ⟨hA,_⟩|⟨g',o2,arr,t,fz,hA,hh,hsz,hfr⟩;·cases hA
       ·injection hA with hA
        injection hA with e1 e2
        injection e2 with e2
        subst e1;subst e2;refine⟨hfr _ (by omega) ?_,(j9.1 hh).1⟩;have:(i+1)*z<=cap*z:=nD _ (by omega);rw[e8] at this;omega
      have lS:g<w.heap.size:=by
       rcases D4 rfl with ⟨hA,_⟩|⟨g',o2,arr,t,fz,hA,hh,hsz,hfr⟩;·cases hA
       ·injection hA with hA
        injection hA with e1 e2
        subst e1;exact(j9.1 hh).1
      have pN:(C.ptr .own g (o'+i*z+k) n λj=>e i (j+k)).ok w (Zf zl c.zb):=by
       refine⟨λj hj=>⟨?_,λhm=>(hm rfl).elim,λ_=>?_⟩,lS,λj hj=>?_,λj hj b k' hf=>⟨λ_ hb=>?_,λj' hj' hne=>?_⟩⟩
       ·obtain⟨g',o2,hA,hcl,_⟩:=D2 i (j+k) hi (by omega);injection hA with hA
        injection hA with e1 e2
        injection e2 with e2
        subst e1;subst e2;rw[show o'+i*z+k+j=o'+i*z+(j+k) by omega];exact hcl
       ·rw[show o'+i*z+k+j=o'+i*z+(j+k) by omega];exact(hfr (j+k) (by omega)).1
       ·obtain⟨a1,a2,a3,a4⟩:=D3 i (j+k) hi (by omega);exact⟨a1,a3,a4⟩
       ·exact(D5 i (j+k) hi (by omega) b k' hf).1 rfl o' (by rw[hb.1])
       ·exact(D5 i (j+k) hi (by omega) b k' hf).2 i (j'+k) hi (by omega) (λe=>by simp only[jE] at e;omega)
      refine Li h hc nQ hop hn hT g2 hmb hs (back:=λy Kx=>match y with
       |.ptr .own ys=>ys.length=n/\gX ys=true/\Kx (iy r p (.row .own z ((dK z len e).set i (e0.take k++ys++e0.drop (k+n)))) (bR as s).2)
       |_=>False) pN ((C.lI _).1 (by rw[Ay];exact k2)) (hval _ rfl) (λb k' hf=>?_) k3 (by rw[Ay];exact k4) λ{w' aF S M q} hM Kx hb=>?_
      ·obtain⟨_,hf|⟨j,hj,hf⟩⟩:=hf;·exact⟨rfl,.inl ⟨o',by rw[hf.1]⟩⟩
       ·exact⟨rfl,.inr ⟨i,j+k,hi,by omega,hf⟩⟩
      ·split at hb
       ·rename_i ys hq;obtain⟨jx,kn,J5⟩:=hb;obtain⟨g3,o3,n3,f3,rfl,rfl⟩:=JF hq;have k6:=hM.val;simp only[C.val] at k6;injection k6 with k6
        injection k6 with k6
        injection k6 with c1 c2 c3
        subst c1;subst c2;have wK:n3=n:=by simpa using jx
        subst wK;obtain⟨G',j1,j2,j3⟩:=hM.elem h1.inv hi hkn (λj hj=>TH (Hv kn _ (bg.2 ⟨j,by simpa using hj,rfl⟩)));rw[jT] at j1;exact⟨_,J5,G',j1,j2,j3⟩
       ·exact hb.elim
     ·cases jT
    ·exact k2.elim
   |sl=>exact k2.elim
   |af=>exact k2.elim
  ·simp only[C.er] at k2;cases m with
   |own=>
    obtain⟨k0,k2,k3,k4⟩:=k2;have hkn:k+n<=nn:=by simpa using k0
    obtain⟨D1,D2,D3,D4⟩:=hok;have Ay:(C.ptr .own g (o'+k) n λj=>f' (j+k)).er=.ptr .own ((((List.range nn).map λj=>(f' j).er).drop k).take n):=by rw[<-SV nn f' hkn];rfl
    have pN:(C.ptr .own g (o'+k) n λj=>f' (j+k)).ok w (Zf zl c.zb):=by
     refine⟨λj hj=>⟨?_,λhm=>(hm rfl).elim,λ_=>?_⟩,D2,λj hj=>D3 (j+k) (by omega),λj hj b k' hf=>⟨λ_ hb=>?_,λj' hj' hne=>?_⟩⟩;·rw[show o'+k+j=o'+(j+k) by omega];exact(D1 (j+k) (by omega)).1
     ·rw[show o'+k+j=o'+(j+k) by omega];exact(D1 (j+k) (by omega)).2.2 rfl
     ·exact(D4 (j+k) (by omega) b k' hf).1 rfl ⟨hb.1,by omega,by omega⟩
     ·exact(D4 (j+k) (by omega) b k' hf).2 (j'+k) (by omega) (by omega)
    refine Li h hc nQ hop hn hT g2 hmb hs (back:=λy Kx=>match y with
     |.ptr .own ys=>ys.length=n/\Kx (iy r p (.ptr .own (((List.range nn).map λj=>(f' j).er).take k++ys++((List.range nn).map λj=>(f' j).er).drop (k+n))) (bR as s).2)
     |_=>False) pN ((C.lI _).1 (by rw[Ay];exact k2)) (hval _ rfl) (λb k' hf=>?_) k3 (by rw[Ay];exact k4) λ{w' aF S M q} hM Kx hb=>?_
    ·obtain⟨_,hf|⟨j,hj,hf⟩⟩:=hf;·exact⟨rfl,.inl ⟨hf.1,by omega,by omega⟩⟩
     ·exact⟨rfl,.inr ⟨j+k,by omega,hf⟩⟩
    ·split at hb
     ·rename_i ys hq;obtain⟨jx,J5⟩:=hb;obtain⟨g3,o3,n3,f3,rfl,rfl⟩:=JF hq;have k6:=hM.val;simp only[C.val] at k6;injection k6 with k6
      injection k6 with k6
      injection k6 with c1 c2 c3
      subst c1;subst c2;have wK:n3=n:=by simpa using jx
      subst wK;obtain⟨G',j1,j2,j3⟩:=hM.ptr h1.inv hkn;exact⟨_,J5,G',j1,j2,j3⟩
     ·exact hb.elim
   |sl=>exact k2.elim
   |af=>exact k2.elim
 |_=>exact k2.elim
def JN{f:FuncId}(h:aB P f=true):∃fn,P.funcs[f]?=some fn/\(fn.name== "runtime.NumGoroutine")=false/\fn.body.isNone=false:=by
 unfold aB at h;split at h;·rename_i fn hf;simp only[az,tf] at h;exact⟨fn,hf,h.1,h.2⟩
 ·cases h
def ae8(h:St c G zl s a w){f:FuncId}{fn:Func}{as':Array Operand}{as:List (AV×PM)}{ts:Array TypeId}(ho:o.op=.call {callee:=.value (.func f),args:=as',argTypes:=ts})(hf:P.funcs[f]?=some fn)(hname:(fn.name== "runtime.NumGoroutine")=false) (hb:fn.body.isNone=false)
  (hn:∀n,o.dst=some n->n<c.nt) (hc:gM as'.toList as=true) (hK:aP P (.call o.dst f as) s K):qO P c o a w K (jj as):=by
 have hop:tu P c zl o a w as'.toList f none:=⟨[],by simp only[execOp,ho,resolve,Act.eval,Deferred.ofValue,Sem.run_bind,Sem.run_pure,Result.andThen_ok,invoke,LR hf hname hb];congr 2;apply oK;simp,λ_ _ _ _=>⟨[],rfl,rfl,λ_ hx=>(by cases hx)⟩⟩
 cases hm:dU as with
 |none=>exact Pj _ h hc hm hop (λh=>h) hn hK
 |some q=>
  have hq:jj as=false:=by
   cases hq:jj as with
   |false=>rfl
   |true=>rw[xy hq] at hm;cases hm
  rw[hq];exact Ph h hc hm hop hn hK
def afa(h:St c G zl s a w){x:AV}{x':Operand}{as':Array Operand}{as:List (AV×PM)}{ts:Array TypeId}(ho:o.op=.call {callee:=.value x',args:=as',argTypes:=ts})(hx:aM x' x=true)
  (hn:∀n,o.dst=some n->n<c.nt)(hc:gM as'.toList as=true)(hK:aP P (.kg o.dst x as) s K):qO P c o a w K (jj as):=by
 simp only[aP] at hK;split at hK
 ·rename_i f cs he;obtain⟨hf,hK⟩:=hK;obtain⟨fn,hf1,jy,hf3⟩:=JN hf;obtain⟨p,p1,p2,p3⟩:=cj h hx;rw[he] at p1;cases p with
  |fn g n fc=>
   simp only[C.er,X.fn.injEq] at p1;obtain⟨rfl,p1⟩:=p1
   have hop:tu P c zl o a w as'.toList g (some x):=⟨(List.range n).map λj=>(fc j).val,by
    simp only[execOp,ho,resolve,<-p2,C.val,Deferred.ofValue,Sem.run_bind,Sem.run_pure,Result.andThen_ok,invoke,LR hf1 jy hf3];congr 2;apply oK;simp,λ{G2 s2 bD} h2 hb hG hi=>by
    simp only[qY] at hi;split at hi;·rename_i g' cs' he';subst hi;obtain⟨l,l1,l2,l3⟩:=Yy h2 hb hG hx he';refine⟨l,l1,?_,l3⟩;rw[<-p2] at l2;simp only[C.val,Value.func.injEq,true_and] at l2;exact(Array.mk.injEq _ _▸l2:_).symm
    ·exact hi.elim⟩
   cases hm:dU as with
   |none=>exact Pj _ h hc hm hop (λh=>h) hn hK
   |some q=>
    have hq:jj as=false:=by
     cases hq:jj as with
     |false=>rfl
     |true=>rw[xy hq] at hm;cases hm
    rw[hq];exact Ph h hc hm hop hn hK
  |_=>simp[C.er] at p1
 ·exact hK.elim
end
end M
namespace M
open Go Go.RowKit
variable [Bs]
section
variable {P:Program}{c:Ctx}{G:Nat->C}{zl:Nat->Nat->Prop}{s:ah}{a:Act}{w:World}{o:Oper}{K:ah->Prop}
def ago{x:C}(hc:x.cell)(hs:M.cO x.er=true):x.plain:=by cases x<;>first|trivial|exact hc|(simp[C.er,M.cO] at hs)
def afE{x:C}(h:x.plain):x.bare:=by cases x<;>first|trivial|exact h.elim
def agn{l:List X}(h:gX l=true):∀x∈l,M.cO x=true:=by
 induction l with
 |nil=>intro x hx;cases hx
 |cons a l ih=>
  simp only[gX,az] at h;intro x hx;rcases b9.1 hx with rfl|hx;·exact h.1
  ·exact ih h.2 x hx
def ID:∀{l':List Operand} {l:List (AV×PM)},gM l' l=true->jj l=true->MV a l' l (l.map λ_=>.dead undef)
 |[],[],_,_=>trivial
 |x'::l',(x,.af)::l,hc,hq=>ID (l':=l') (l:=l) (by simp only[gM,az] at hc;exact hc.2) hq
 |x'::l',(x,.jr n)::l,hc,hq=>ID (l':=l') (l:=l) (by simp only[gM,az] at hc;exact hc.2) hq
 |x'::l',(x,.mv)::l,hc,hq=>by cases hq
 |x'::l',(x,.mut _)::l,hc,hq=>by cases hq
 |[],_::_,hc,_=>by cases hc
 |_::_,[],hc,_=>by cases hc
def Yx(h:St c G zl s a w){x':Operand}{l':List Operand}{x:AV}{as:List (AV×PM)}(hx:aM x' x=true)(hc:gM l' as=true)(hq:jj as=true){f:FuncId}(hop:tu P c zl o a w (x'::l') f none)(hn:∀n,o.dst=some n->n<c.nt)(hK:aP P (.qW o.dst f x as) s K):qO P c o a w K false:=by
 obtain⟨p,p1,p2,p3⟩:=cj h hx;simp only[aP] at hK;rw[<-p1] at hK;cases p with
 |agg n f0=>
  have per:(C.agg n f0).er=.agg (((List.range n).map f0).map C.er):=by simp only[C.er,cH];rfl
  rw[per] at hK;simp only at hK;obtain⟨k1,k3⟩:=hK
  have hcells:∀c'∈(List.range n).map f0,zi w zl c.zb G c':=λc' iH=>by
   obtain⟨j,hj,rfl⟩:=bg.1 iH;have hj':j<n:=by simpa using hj
   exact⟨(p3.ok.1 j hj').1,(p3.ok.1 j hj').2,λb k hf=>p3.cM b k ⟨j,hj',hf⟩,λv r p e=>CQ (by rw[<-e];exact p3.rf j hj')⟩
  obtain⟨l0,G1,e1,e2,e3,e4,e5⟩:=CL _ G s h.inv hcells;obtain⟨oZ,hrun,Af⟩:=hop.run;have h1:=HI h e4;rw[<-e1] at k1 k3;have jz:∀b k,c.zb b k->(c.zb b k\/∃t,(G1 t).fp b k):=λb k hz=>.inl hz;have rO:∀t b k,(G1 t).fp b k->(c.zb b k\/∃t,(G1 t).fp b k):=λt b k hf=>.inr ⟨t,hf⟩;obtain⟨l,q1,q2,q3⟩:=Af h1 jz rO trivial;have hl0:l=[]:=by simpa [nI] using q1
  subst hl0;have hcap:oZ=[]:=by simpa using q2.symm
  subst hcap
  obtain⟨zN,r1,r2,r3,r4⟩:=Ds h1 jz rO (y:=.dead undef) trivial trivial hc (ID hc hq) (λx hx=>by
   obtain⟨_,_,rfl⟩:=bg.1 hx;exact⟨trivial,trivial,λb k hf=>hf.elim⟩) (qS λx hx=>by
   obtain⟨_,_,rfl⟩:=bg.1 hx
   exact λb k hf=>hf) (λi x n x' hi _=>by
    exfalso;have hno:=xy hq
    have:∀{l:List (AV×PM)} {i:Nat},l[i]?=some (x,PM.mut n)->dU l≠none:=by
     intro l;induction l with
     |nil=>intro i hi;simp at hi
     |cons y l ih=>
      intro i hi;obtain⟨y,pm⟩:=y;cases i with
      |zero=>simp only[y9,dP,jE] at hi;obtain⟨_,rfl⟩:=hi;simp[dU]
      |succ i=>have:=ih (by simpa using hi);cases pm<;>simp[dU]<;>first|exact this|skip
    exact this hi hno)
  have EH:∀x∈zN,∀b k,¬x.fp b k:=λx hx b k hf=>by
   rcases(r3 x hx).2.2 b k hf with ⟨m,hm,hh⟩|⟨hh,_⟩;·obtain⟨_,_,rfl⟩:=bg.1 hm;exact hh
   ·rw[xy hq] at hh;cases hh
  have pM:l0.length=n:=by have:=dr List.length e2;simpa using this
  have Ry:∀b k,(gJ l0).fp b k->∃m∈l0,m.fp b k:=λb k hf=>(qQ _ _ _).1 hf
  have hpl:∀x∈l0,x.ok w (Zf zl λb k=>c.zb b k\/∃t,(G1 t).fp b k):=λx hx=>C.gE (λm b k hz=>by
   cases m with
   |own=>exact hz
   |sl=>exact hz
   |af=>exact hz.imp id .inl) _ (e4.all x hx).1
  have hA:qL w zl (λb k=>c.zb b k\/∃t,(G1 t).fp b k) (gJ l0::zN):={
   ok:=λx hx=>by
    rcases b9.1 hx with rfl|hx;·exact⟨λj hj=>⟨C.lg (e3 _ (cI hj _)),hpl _ (cI hj _)⟩,λj hj b k hf j' hj' hne=>xI e4.apart _ hj hj' hne hf⟩
    ·exact(r3 x hx).1
   bare:=λx hx=>by
    rcases b9.1 hx with rfl|hx;·exact λj hj=>afE (e3 _ (cI hj (C.dead undef)))
    ·exact(r3 x hx).2.1
   fz:=λx hx b k hf=>by
    rcases b9.1 hx with rfl|hx;·obtain⟨m,hm,hf⟩:=Ry b k hf;exact⟨((e4.all m hm).2.2.1 b k hf).1,λhz=>hz.elim ((e4.all m hm).2.2.1 b k hf).2 λ⟨t,ht⟩=>(e4.all m hm).2.1 t b k hf ht⟩
    ·exact(EH x hx b k hf).elim
   cB:=λb k hz=>by
    rcases hz with hz|hz|⟨t,ht⟩;·exact e4.inv.cB b k (.inl hz)
    ·exact e4.inv.cB b k (.inr hz)
    ·exact C.fC _ (e4.inv.ok t) b k ht
   apart:=eZ.2 ⟨λx hx b k _ hf=>EH x hx b k hf,qS EH⟩}
  have rH:=k3 w zl _ (gJ l0::zN) (by rw[bn,r1,vV];simp only[cH];rfl) hA (h1.JW _ λb k hz=>.inl hz)
  have RA:(gJ l0).val=a.eval x':=by rw[zj,e2,<-p2];simp only[C.val,cH];rfl
  have uk:(gJ l0::zN).map C.val=(x'::l').map a.eval++[]:=by rw[bn,RA,r2];simp
  rw[uk] at rH;refine⟨f,_,hrun,rH.mono ?_⟩;rintro e w' ⟨r,ps,aF,hD,hk⟩;have hin:∀b k,aF b k->b<w'.heap.size:=λb k hz=>hD.all.cB b k (.inl hz);have kz:∀b k,(∃m∈l0,m.fp b k)->(∀t,¬(G1 t).fp b k)/\¬zl b k/\¬c.zb b k:=λb k ⟨m,hm,hf⟩=>⟨λt=>(e4.all m hm).2.1 t b k hf,(e4.all m hm).2.2.1 b k hf⟩
  have jR:∀b k,(∃x∈gJ l0::zN,x.fp b k)->∃m∈l0,m.fp b k:=λb k ⟨x,hx,hf⟩=>by
   rcases b9.1 hx with rfl|hx;·exact Ry b k hf
   ·exact(EH x hx b k hf).elim
  have AA:∀b k,aF b k->zl b k\/(∃m∈l0,m.fp b k)\/w.heap.size<=b:=λb k hz=>(hD.tq b k hz).imp id λhh=>hh.imp (jR b k) id
  have hi:=e4.inv.Ov hD.ext (λb k hs=>kz b k (jR b k hs)) hD.tn (λb k hz=>⟨hin b k hz,λt hf=>by
   rcases AA b k hz with hz|hm|hb;·exact(e4.inv.fz t b k hf).1 hz
   ·exact(kz b k hm).1 t hf
   ·have:=C.fC _ (e4.inv.ok t) b k hf;omega⟩)
  have kA:∀b k,(∃m∈l0,m.fp b k)->∃t,(G t).fp b k:=λb k ⟨m,hm,hf⟩=>(e4.all m hm).2.2.2 b k hf;have EI:∀x∈r::ps,∀b k,x.fp b k->(∃m∈l0,m.fp b k)\/w.heap.size<=b:=λx hx b k hf=>(hD.dom x hx b k hf).imp (jR b k) id
  have Rk:∀x∈r::ps,∀t b k,x.fp b k->¬(G1 t).fp b k:=λx hx t b k hf hf'=>by
   rcases EI x hx b k hf with hm|hb;·exact(kz b k hm).1 t hf'
   ·have:=C.fC _ (e4.inv.ok t) b k hf';omega
  have Rm:∀x∈r::ps,∀b k,x.fp b k->¬aF b k/\¬c.zb b k:=λx hx b k hf=>⟨(hD.all.fz x hx b k hf).1,λhz=>by
   rcases EI x hx b k hf with hm|hb;·exact(kz b k hm).2.2 hz
   ·have:=e4.inv.cB b k (.inr hz);omega⟩
  cases ps with
  |nil=>exact hk.elim
  |cons p0 ps=>
   cases p0 with
   |agg n0 g0=>
    simp only[bn,C.er] at hk;obtain⟨j1,s',j2,j3⟩:=hk;have An:(C.agg n0 g0)∈r::C.agg n0 g0::ps:=bO _ (bq ..);have hv0:(C.agg n0 g0).val=(C.agg n f0).val:=by have:=dr List.head? hD.vals;simp only[bn,List.head?_cons,dP] at this;rw[this,RA,p2]
    simp only[C.val,Value.agg.injEq,Array.mk.injEq,List.toArray_inj] at hv0;have jc:n0=n:=by have:=dr List.length hv0;simpa using this
    subst jc;have Kq:=hD.all.ok _ An;have EE:∀y∈(List.range n0).map g0,∀b k,y.fp b k->(C.agg n0 g0).fp b k:=λy hy b k hf=>by obtain⟨j,hj,rfl⟩:=bg.1 hy;exact⟨j,by simpa using hj,hf⟩
    rw[show ((List.range n0).map λj=>(g0 j).er)=((List.range n0).map g0).map C.er by simp only[cH];rfl] at j1 j2
    obtain⟨G2,g1,g2,g3⟩:=Dv ((List.range n0).map f0) ((List.range n0).map g0) hi (by simp) (λv r p hm=>e5 v r p ((hcells _ hm).weak v r p rfl)) (λi cc y hi1 hi2=>by
     have hy:y∈(List.range n0).map g0:=mB hi2;obtain⟨j,hj,rfl⟩:=bg.1 hy;have hj':j<n0:=by simpa using hj
     refine⟨ago (Kq.1 j hj').1 (agn j1 _ (j6 hy)),?_,C.gE (λm b k hz=>by
      cases m with
      |own=>exact hz
      |sl=>exact hz
      |af=>exact hz.imp id λh=>h.elim) _ (Kq.1 j hj').2⟩
     have:=dr (λt:List Value=>t[i]?) hv0;rw[show ((List.range n0).map λj=>(g0 j).val)=((List.range n0).map g0).map C.val by simp only[cH];rfl,show ((List.range n0).map λj=>(f0 j).val)=((List.range n0).map f0).map C.val by simp only[cH];rfl,cR (l:=(List.range n0).map g0),cR (l:=(List.range n0).map f0),hi1,hi2] at this;simpa using this) (λy hy=>⟨λt b k hf=>Rk _ An t b k (EE y hy b k hf),λb k hf=>Rm _ An b k (EE y hy b k hf)⟩) (by
     rw[C3];refine Io ?_ List.nodup_range;intro i j hi hj hne b k hf;exact Kq.2 i (by simpa using hi) b k hf j (by simpa using hj) hne) j2
    have Aw:∀b k,(∃y∈(List.range n0).map g0,y.fp b k)->(∃m∈l0,m.fp b k)\/w.heap.size<=b:=λb k ⟨y,hy,hf⟩=>EI _ An b k (EE y hy b k hf)
    have h2:St c G2 aF s' a w':=h.after g1 (λt=>(g2 t).trans (e4.val t)) hD.ext (λb k hs=>kA b k (jR b k hs)) (λt b k hf=>by
     rcases g3 t b k hf with hh|hh;·exact .inl ⟨t,e4.mono t b k hh⟩
     ·exact(Aw b k hh).imp (kA b k) id) hD.tn (λb k hz=>(AA b k hz).imp id λhh=>hh.imp (kA b k) id)
    have hr:r∈r::C.agg n0 g0::ps:=bq ..
    obtain⟨G3,h3⟩:=h2.result (x:=r) o.dst hn (hD.all.ok r hr) (hD.all.bare r hr) (λt b k hf hf'=>by
      rcases g3 t b k hf' with hh|⟨y,hy,hh⟩;·exact Rk r hr t b k hf hh
      ·exact(eZ.1 hD.all.apart).1 _ (bq ..) b k hf (EE y hy b k hh)) (Rm r hr) (λb k hf=>by
      rcases EI r hr b k hf with hm|hb;·obtain⟨t,ht⟩:=kA b k hm;exact h.tr.dom t b k ht
      ·exact .inr (jo h.tr.ext.size hb))
    exact⟨r.val,hD.ends,λKr=>by (cases Kr),G3,aF,_,j3,h3⟩
   |_=>exact hk.elim
 |_=>exact hK.elim
def ae9(h:St c G zl s a w){f:FuncId}{fn:Func}{as':Array Operand}{x:AV}{x':Operand}{l':List Operand}{as:List (AV×PM)}{ts:Array TypeId}(ho:o.op=.call {callee:=.value (.func f),args:=as',argTypes:=ts})(hl:as'.toList=x'::l')(hf:P.funcs[f]?=some fn)(hname:(fn.name== "runtime.NumGoroutine")=false) (hb:fn.body.isNone=false)
  (hn:∀n,o.dst=some n->n<c.nt) (hx:aM x' x=true) (hc:gM l' as=true) (hq:jj as=true) (hK:aP P (.qW o.dst f x as) s K):qO P c o a w K false:=by
 have hop:tu P c zl o a w (x'::l') f none:=⟨[],by simp only[execOp,ho,resolve,Act.eval,Deferred.ofValue,Sem.run_bind,Sem.run_pure,Result.andThen_ok,invoke,LR hf hname hb];rw[<-hl];congr 2;apply oK;simp,λ_ _ _ _=>⟨[],rfl,rfl,λ_ hx=>(by cases hx)⟩⟩
 exact Yx h hx hc hq hop hn hK
end
end M
namespace M
open Go Go.RowKit
variable [Bs]
section
variable {P:Program}{ops:Array Oper}{Q:Exit->Act->World->Prop}
def wpAnyQ(P:Program)(ops:Array Oper)(quiet:Nat->Bool)(Q:Exit->Act->World->Prop):Nat->Array Bool->Act->World->Prop
 |0,listed,a,w=>Region.ready .any ops listed=[]/\Q .normal a w
 |fuel+1,listed,a,w=>(Region.ready .any ops listed=[]->Q .normal a w)/\
  ∀i∈Region.ready .any ops listed,wpOp P ops Q i (λa' w'=>Rel (quiet i) w w'/\wpAnyQ P ops quiet Q fuel (listed.setIfInBounds i true) a' w') a w
def wpAnyQ.any{quiet:Nat->Bool}:∀{fuel:Nat} {listed:Array Bool} {a:Act} {w:World},wpAnyQ P ops quiet Q fuel listed a w->wpAny P .any ops Q fuel listed a w
 |0,_,_,_,h=>h
 |fuel+1,_,_,_,h=>⟨h.1,λi hi=>wpOp_mono (λ_ _ h=>h.2.any) (h.2 i hi)⟩
def nG(P:Program)(ops:Array Oper)(o:Oper)(v:Value)(a:Act)(w:World):Prop:=
 (Region.wanted o (yielded ops a.tmps)=true/\∀w',Ext (λ_ _=>False) w w'->(execOp a.eval o).run P w'=.ok (.value v) w')\/
 (Region.wanted o (yielded ops a.tmps)=false/\v=undef)
def nG.wpOp{i:Nat}{o:Oper}{v:Value}{a:Act}{w:World}(hi:ops[i]?=some o)(hy:nG P ops o v a w){K:Act->World->Prop}(h:K (a.put o.dst v) w):wpOp P ops Q i K a w:=by
 unfold Go.wpOp;simp only[hi];rcases hy with ⟨hw,hv⟩|⟨hw,rfl⟩;·simp only[hw,cY,Oper.wp,hv w (Ext.refl _ _),Oper.upon];exact .inl h
 ·simp only[hw,fA,dQ];exact h
def qM(P:Program)(ops:Array Oper)(o:Oper)(v:Value)(a:Act):Prop:=
 (Region.wanted o (yielded ops a.tmps)=true/\∀w',(execOp a.eval o).run P w'=.ok (.value v) w')\/
 (Region.wanted o (yielded ops a.tmps)=false/\v=undef)
def qM.later{o:Oper}{v:Value}{a:Act}(h:qM P ops o v a)(w:World):nG P ops o v a w:=h.imp (λh=>⟨h.1,λw' _=>h.2 w'⟩) id
def Dm(ops:Array Oper)(o:Oper)(a a':Act):Prop:=execOp a'.eval o=execOp a.eval o/\Region.wanted o (yielded ops a'.tmps)=Region.wanted o (yielded ops a.tmps)
def nG.same{o:Oper}{v:Value}{a a':Act}{w w':World}(hy:nG P ops o v a w)(h:Dm ops o a a')(hE:Ext (λ_ _=>False) w w'):nG P ops o v a' w':=by unfold nG;rw[h.1,h.2];exact hy.imp (λhh=>⟨hh.1,λw2 h2=>hh.2 w2 (hE.trans h2 λ_ _ h _=>h)⟩) id
def qM.same{o:Oper}{v:Value}{a a':Act}(hy:qM P ops o v a)(h:Dm ops o a a'):qM P ops o v a':=by unfold qM;rw[h.1,h.2];exact hy
def Uy{j:Nat}{oi oj:Oper}{v:Value}(hj:ops[j]?=some oj)(hap:oi.apart ops oj=true)(hsi:∀cs b,oi.op≠.select cs b)(hsj:∀cs b,oj.op≠.select cs b)
  (hQ:∀c a w,Q (.panic c) (a.put oi.dst v) w->Q (.panic c) a w){K:Act->World->Prop}{a:Act}{w:World}(h:wpOp P ops Q j K (a.put oi.dst v) w):
  wpOp P ops Q j (λa' w'=>Dm ops oi a a'/\K (a'.put oi.dst v) w') a w:=by
 obtain⟨h1,h2,h3⟩:=Oper.apart_spec hap;have keep:∀u,Dm ops oi a (a.put oj.dst u):=λu=>⟨execOp_put oi hsi a oj.dst u h3,wanted_put oi a oj.dst u h3⟩;have put:∀u,(a.put oj.dst u).put oi.dst v=(a.put oi.dst v).put oj.dst u:=λu=>(Act.put_comm a v u h2).symm;unfold Go.wpOp at*;simp only[hj] at*;rw[wanted_put oj a oi.dst v h1] at h;by_cases hw:Region.wanted oj (yielded ops a.tmps)=true
 ·rw[au hw] at h⊢;have lR:execOp (a.put oi.dst v).eval oj=execOp a.eval oj:=execOp_put oj hsj a oi.dst v h1;refine h.imp (λh=>?_) λh=>⟨?_,h.2⟩
  ·unfold Oper.wp at*;rw[lR] at h;generalize (execOp a.eval oj).run P w=r at h⊢;match r,h with
   |.ok (.value u) w',h=>exact⟨keep u,by rw[put];exact h⟩
   |.ok .skip w',h=>exact⟨keep _,by rw[put];exact h⟩
   |.ok (.defer d) w',h=>
    refine⟨by have k:=keep undef;unfold Act.put at*;cases hd:oj.dst<;>rw[hd] at k<;>exact⟨k.1,k.2⟩,?_⟩
    have h':K (({a.put oi.dst v with defers:=d::(a.put oi.dst v).defers}:Act).put oj.dst undef) w':=h;rw[Act.put_defers,Act.put_comm _ v undef h2] at h';exact h'
   |.ok (.enter f args) w',h=>
    refine Calls.mono h λe w'' he=>?_;match e,he with
    |.returned u,he=>exact⟨keep u,by rw[put];exact he⟩
    |.panicked c,he=>exact hQ _ _ _ he
    |.outgrown,he=>exact he
   |.ok (.row row args) w',h=>exact Rows.mono h λu w'' he=>⟨keep u,by rw[put];exact he⟩
   |.halt (.panic u) w',h=>exact hQ _ _ _ h
  ·have:=h.1;unfold Oper.asks at this⊢;rwa [lR] at this
 ·rw[aC hw] at h⊢;exact⟨keep _,by rw[put];exact h⟩
def Down(ops:Array Oper)(listed:Array Bool):Prop:=∀k ok,ops[k]?=some ok->listed.getD k false=true->∀e∈ok.after,Region.binds .any e=true->listed.getD e.on false=true
def wo(ops : Array Oper)(t : Nat -> Nat -> Bool) : Bool := (List.range ops.size).all λj => (List.range ops.size).all λi => !t j i || (match ops[j]? with
 |some oj=>oj.after.any λe=>Region.binds .any e && (e.on==i||(decide (e.on<j) && t e.on i))
 |none=>false)
def LB{t:Nat->Nat->Bool}(iH:wo ops t=true){listed:Array Bool}(hd:Down ops listed){i:Nat}(hi:listed.getD i false=false):∀(n j:Nat),j<n->j<ops.size->i<ops.size->(∀oj,ops[j]?=some oj->∀e∈oj.after,Region.binds .any e=true->listed.getD e.on false=true)->t j i=false
 |0,j,hj,_,_,_=>by omega
 |n+1,j,hj,EF,Rf,hall=>by
  cases ht:t j i with
  |false=>rfl
  |true=>
   exfalso;have hc:=iH;simp only[wo,oR,s6] at hc;have h1:=hc j EF i Rf;rw[ht] at h1;simp only[Bool.not_true,Bool.false_or] at h1;split at h1
   ·rename_i oj gy;obtain⟨e,he,hb⟩:=Array.any_eq_true'.1 h1;simp only[az,tg,eu,aY] at hb;have hl:=hall oj gy e he hb.1;rcases hb.2 with h2|⟨h2,h3⟩;·rw[h2,hi] at hl;cases hl
    ·have:=LB iH hd hi n e.on (by omega) (by omega) Rf (λoe hoe e' he' hb'=>hd e.on oe hoe hl e' he' hb');rw[this] at h3;cases h3
   ·cases h1
def Down.set{listed:Array Bool}(h:Down ops listed){j:Nat}{oj:Oper}(hj:ops[j]?=some oj)(hall:∀e∈oj.after,Region.binds .any e=true->listed.getD e.on false=true):Down ops (listed.setIfInBounds j true):=by
 intro k ok hk hl e he hb;by_cases hjk:j=k
 ·subst hjk;rw[hj] at hk;injection hk with hk
  subst hk;exact getD_set_true (hall e he hb)
 ·rw[getD_set_ne false hjk] at hl;exact getD_set_true (h k ok hk hl e he hb)
def wpAnyQ_first{quiet:Nat->Bool}{i:Nat}{oi:Oper}{v:Value}(hi:ops[i]?=some oi)(hsel:∀(j:Nat) (o:Oper) cs b,ops[j]?=some o->o.op≠.select cs b)(hQ:∀c a w,Q (.panic c) (a.put oi.dst v) w->Q (.panic c) a w){t:Nat->Nat->Bool}(kB:wo ops t=true):
  ∀(fuel:Nat) (listed:Array Bool) (a:Act) (w:World),
   Down ops listed->(∀j oj,ops[j]?=some oj->j≠i->listed.getD j true=false->t j i=false->oi.apart ops oj=true/\quiet j=true)->
   i∈Region.ready .any ops listed->nG P ops oi v a w->
   wpAnyQ P ops quiet Q fuel (listed.setIfInBounds i true) (a.put oi.dst v) w->wpAnyQ P ops quiet Q (fuel+1) listed a w:=by
 intro fuel;induction fuel with
 |zero=>
  intro listed a w _ _ hr hy H;refine⟨λh=>(by rw[h] at hr;cases hr),λj hj=>?_⟩;by_cases hji:j=i;·subst hji;exact hy.wpOp hi ⟨Rel.refl _ _,H⟩
  ·have:=ready_mono hj hji;rw[H.1] at this;cases this
 |succ fuel ih=>
  intro listed a w Ah hfree hr hy H;refine⟨λh=>(by rw[h] at hr;cases hr),λj hj=>?_⟩;by_cases hji:j=i;·subst hji;exact hy.wpOp hi ⟨Rel.refl _ _,H⟩
  ·have h1:=H.2 j (ready_mono hj hji);obtain⟨Al,oj,gy,hall⟩:=mem_ready.1 hj
   have hi0:listed.getD i false=false:=by
    have h0:=(mem_ready.1 hr).1;rcases gI i listed.size with h'|h';·simpa [h'] using h0
    ·simp[kP h']
   have hnot:t j i=false:=LB kB Ah hi0 (j+1) j (by omega) (j9.1 gy).1 (j9.1 hi).1 (λoj' pL e he hb=>by
    rw[gy] at pL;injection pL with pL
    rw[<-pL] at he;exact hall e he hb)
   obtain⟨hap,hqu⟩:=hfree j oj gy hji Al hnot;have h2:=Uy gy hap (λcs b=>hsel i oi cs b hi) (λcs b=>hsel j oj cs b gy) hQ h1
   have Kg:∀k ok,ops[k]?=some ok->k≠i->(listed.setIfInBounds j true).getD k true=false->
     t k i=false->oi.apart ops ok=true/\quiet k=true:=λk ok hk hki hun hno=>by
    refine hfree k ok hk hki ?_ hno;by_cases hjk:j=k;·subst hjk;exact Al
    ·rw[getD_set_ne true hjk] at hun;exact hun
   refine wpOp_mono (λa' w' ⟨hsame,hrel,h3⟩=>⟨hrel,ih (listed.setIfInBounds j true) a' w' (Ah.set gy hall) Kg (ready_mono hr (vH hji)) (hy.same hsame (hrel hqu)) ?_⟩) h2;rw[U2 _ _ hji];exact h3
def ajE{quiet:Nat->Bool}{i:Nat}{oi:Oper}{v:Value}(hi:ops[i]?=some oi)(hsel:∀(j:Nat) (o:Oper) cs b,ops[j]?=some o->o.op≠.select cs b)(hQ:∀c a w,Q (.panic c) (a.put oi.dst v) w->Q (.panic c) a w){t:Nat->Nat->Bool}(kB:wo ops t=true):
  ∀(fuel:Nat) (listed:Array Bool) (a:Act) (w:World),
   Down ops listed->(∀j oj,ops[j]?=some oj->j≠i->listed.getD j true=false->t j i=false->oi.apart ops oj=true)->
   i∈Region.ready .any ops listed->qM P ops oi v a->
   wpAnyQ P ops quiet Q fuel (listed.setIfInBounds i true) (a.put oi.dst v) w->wpAnyQ P ops quiet Q (fuel+1) listed a w:=by
 intro fuel;induction fuel with
 |zero=>
  intro listed a w _ _ hr hy H;refine⟨λh=>(by rw[h] at hr;cases hr),λj hj=>?_⟩;by_cases hji:j=i;·subst hji;exact(hy.later w).wpOp hi ⟨Rel.refl _ _,H⟩
  ·have:=ready_mono hj hji;rw[H.1] at this;cases this
 |succ fuel ih=>
  intro listed a w Ah hfree hr hy H;refine⟨λh=>(by rw[h] at hr;cases hr),λj hj=>?_⟩;by_cases hji:j=i;·subst hji;exact(hy.later w).wpOp hi ⟨Rel.refl _ _,H⟩
  ·have h1:=H.2 j (ready_mono hj hji);obtain⟨Al,oj,gy,hall⟩:=mem_ready.1 hj
   have hi0:listed.getD i false=false:=by
    have h0:=(mem_ready.1 hr).1;rcases gI i listed.size with h'|h';·simpa [h'] using h0
    ·simp[kP h']
   have hnot:t j i=false:=LB kB Ah hi0 (j+1) j (by omega) (j9.1 gy).1 (j9.1 hi).1 (λoj' pL e he hb=>by
    rw[gy] at pL;injection pL with pL
    rw[<-pL] at he;exact hall e he hb)
   have hap:=hfree j oj gy hji Al hnot;have h2:=Uy gy hap (λcs b=>hsel i oi cs b hi) (λcs b=>hsel j oj cs b gy) hQ h1
   have Kg:∀k ok,ops[k]?=some ok->k≠i->(listed.setIfInBounds j true).getD k true=false->
     t k i=false->oi.apart ops ok=true:=λk ok hk hki hun hno=>by
    refine hfree k ok hk hki ?_ hno;by_cases hjk:j=k;·subst hjk;exact Al
    ·rw[getD_set_ne true hjk] at hun;exact hun
   refine wpOp_mono (λa' w' ⟨hsame,hrel,h3⟩=>⟨hrel,ih (listed.setIfInBounds j true) a' w' (Ah.set gy hall) Kg (ready_mono hr (vH hji)) (hy.same hsame) ?_⟩) h2;rw[U2 _ _ hji];exact h3
end
end M
namespace M
open Go Go.RowKit
variable [Bs]
def lz(P:Program)(t:TypeId):Option TypeId:=match P.underlying t with
 |some (.slice e)=>some e
 |_=>none
def isStr(P:Program)(t:TypeId):Bool:=match P.underlying t with
 |some .string=>true
 |_=>false
def KS(P:Program)(t:TypeId):Bool:=match P.underlying t with
 |some .bool=>true
 |_=>false
def isInt(P:Program)(t:TypeId)(k:IntKind):Bool:=match P.underlying t with
 |some (.int k')=>decide (k'=k)
 |_=>false
def kV(P:Program)(t:TypeId)(n:Nat):Bool:=match P.info? t with
 |some i=>decide (i.size=n)
 |none=>false
def WQ:TypeDesc->Bool
 |.struct _=>true
 |.array _ _=>true
 |_=>false
def uy(P:Program)(t:TypeId)(b:Bool):Bool:=match P.underlying t with
 |some d=>WQ d==b
 |none=>false
section
variable {P:Program}{t:TypeId}
def nv{e:TypeId}(h:lz P t=some e):P.underlying t=some (.slice e):=by
 unfold lz at h;split at h;·rename_i e' he;injection h with h;subst h;exact he
 ·cases h
def A9(h:isStr P t=true):P.underlying t=some .string:=by
 unfold isStr at h;split at h;·assumption
 ·cases h
def adh(h:KS P t=true):P.underlying t=some .bool:=by
 unfold KS at h;split at h;·assumption
 ·cases h
def KT{k:IntKind}(h:isInt P t k=true):P.underlying t=some (.int k):=by
 unfold isInt at h;split at h;·rename_i k' hk;rw[hk,yY h]
 ·cases h
def rG{n:Nat}(h:kV P t n=true):∃i,P.info? t=some i/\i.size=n:=by
 unfold kV at h;split at h;·rename_i i hi;exact⟨i,hi,yY h⟩
 ·cases h
def A8{b:Bool}(h:uy P t b=true):∃dd,P.underlying t=some dd/\(match dd with|.struct _=>true|.array _ _=>true|_=>false)=b:=by
 unfold uy at h;split at h;·rename_i d hd;refine⟨d,hd,?_⟩;rw[eu] at h;rw[<-h];cases d<;>rfl
 ·cases h
end
def dy(nt:Nat)(o:Oper)(d:Nat):Bool:=(match o.dst with|some d'=>d'==d|none=>false) && decide (d<nt)
def dM{nt:Nat}{o:Oper}{d:Nat}(h:dy nt o d=true):o.dst=some d/\d<nt:=by
 simp only[dy,az,aY] at h;refine⟨?_,h.2⟩;have:=h.1;split at this;·rename_i d' hd;rw[hd];simpa using this
 ·cases this
def xJ:cq->Bool
 |.mv _ _|.pick _ _ _ _|.un _ _ _|.bin _ _ _ _|.beq _ _ _ _|.tC _ _ _ _ _|.r6 _ _ _|.conv _ _ _|.text _ _|.load _ _ _ _|.dG _ _|.pn _ _ _|.rA _ _ _ _ _|.eX _ _ _ _|.dm _ _ _|.qR _ _ _ _ _ _
 |.ext _ _ _|.gd _ _ _ _|.mg _ _ _ _ _|.nY _ _ _|.len _ _|.sY _ _|.mn _ _|.mx _ _|.mW _ _ _ _ _=>true
 |_=>false
def sg:cq->Bool
 |.aN _ _ _|.box _ _ _|.new _ _|.make _ _ _ _ _|.bytes _ _|.lit _ _ _ _|.build _ _ _ _=>true
 |.call _ _ as=>jj as
 |.kg _ _ as=>jj as
 |x=>xJ x
def DM(P:Program)(nt:Nat)(o:Oper):cq->Bool
 |.mv d x=>dy nt o d && (match o.op with|.move x'=>aM x' x|.assign x'=>aM x' x|_=>false)
 |.pick d c a b=>dy nt o d && (match o.op with|.pick c' a' b'=>aM c' c && aM a' a && aM b' b|_=>false)
 |.un d op x=>dy nt o d && (match o.op with|.unOp op' _ x'=>decide (op'=op) && aM x' x|_=>false)
 |.bin d op x y=>dy nt o d && (match o.op with|.binOp op' _ x' y' _=>decide (op'=op) && aM x' x && aM y' y|_=>false)
 |.beq d neg x y=>dy nt o d && (match o.op with|.binOp op' ty x' y' _=>decide (op'=bif neg then .neq else .eql) && KS P ty && aM x' x && aM y' y|_=>false)
 |.r6 d neg x=>dy nt o d && (match o.op with|.binOp op' ty x' (.const (.slice none 0 0)) _=>decide (op'=bif neg then .neq else .eql) && (lz P ty).isSome && aM x' x|_=>false)
 |.tC d neg ks x y=>dy nt o d && (match o.op with|.binOp op' ty x' y' _=>decide (op'=bif neg then .neq else .eql) && JM P ty ks && aM x' x && aM y' y|_=>false)
 |.conv d k x=>dy nt o d && (match o.op with|.convert src dst x'=>(P.underlying src).isSome && isInt P dst k && aM x' x|_=>false)
 |.text d x=>dy nt o d && (match o.op with|.convert src dst x'=>(match lz P src with|some el=>isInt P el .u8 && isStr P dst && aM x' x|none=>false)|_=>false)
 |.load d sz agg x=>dy nt o d && (match o.op with|.load ty x'=>kV P ty sz && uy P ty agg && (agg||decide (sz=1)) && aM x' x|_=>false)
 |.mW d fz sz agg x=>dy nt o d && (match o.op with|.load ty x'=>kV P ty sz && uy P ty agg && (agg||decide (sz=1)) && aM x' x|_=>false)
 |.dG d x=>dy nt o d && (match o.op with|.nilCheck x'=>aM x' x|_=>false)
 |.pn d x off=>dy nt o d && (match o.op with|.fieldAddr ty x' fi=>(match P.underlying ty with|some (.struct fs)=>(match fs[fi]? with|some f=>decide (f.offset=off) && !kV P f.type 0 && (P.info? f.type).isSome && aM x' x|none=>false)|_=>false)|_=>false)
 |.rA d x off sz agg=>dy nt o d && (match o.op with|.field ty x' fi=>(match P.underlying ty with|some (.struct fs)=>(match fs[fi]? with|some f=>decide (f.offset=off) && kV P f.type sz && uy P f.type agg && (agg||decide (sz=1)) && aM x' x|none=>false)|_=>false)|_=>false)
 |.eX d sz x y=>dy nt o d && (match o.op with|.indexAddr ty x' y'=>(match lz P ty with|some el=>kV P el sz && decide (0<sz) && aM x' x && aM y' y|none=>false)|_=>false)
 |.dm d x y=>dy nt o d && (match o.op with|.index ty x' y'=>isStr P ty && aM x' x && aM y' y|_=>false)
 |.qR d n sz agg x y=>dy nt o d && (match o.op with|.index ty x' y'=>(match P.underlying ty with|some (.array n' el)=>decide (n'=n) && kV P el sz && uy P el agg && (agg||decide (sz=1)) && aM x' x && aM y' y|_=>false)|_=>false)
 |.ext d x i=>dy nt o d && (match o.op with|.extract x' i'=>i'==i && aM x' x|_=>false)
 |.gd d x lo hi=>dy nt o d && (match o.op with|.slice ty x' lo' hi' none=>isStr P ty && aM x' x && mH lo' lo && mH hi' hi|_=>false)
 |.mg d sz x lo hi=>dy nt o d && (match o.op with|.slice ty x' lo' hi' none=>(match lz P ty with|some el=>kV P el sz && aM x' x && mH lo' lo && mH hi' hi|none=>false)|_=>false)
 |.nY d f cs=>dy nt o d && (match o.op with|.makeFunc (.func f') fs cs'=>f'==f && fs.toList.isEmpty && lJ cs'.toList cs|_=>false)
 |.len d x=>dy nt o d && (match o.op with|.call ⟨.builtin .len,as,ts⟩=>(match as.toList,ts.toList with|[x'],[ty]=>(lz P ty).isSome && aM x' x|_,_=>false)|_=>false)
 |.sY d x=>dy nt o d && (match o.op with|.call ⟨.builtin .len,as,ts⟩=>(match as.toList,ts.toList with|[x'],[ty]=>isStr P ty && aM x' x|_,_=>false)|_=>false)
 |.mn d [x,y]=>dy nt o d && (match o.op with|.call ⟨.builtin .min,as,_⟩=>(match as.toList with|[x',y']=>aM x' x && aM y' y|_=>false)|_=>false)
 |.mx d [x,y]=>dy nt o d && (match o.op with|.call ⟨.builtin .max,as,_⟩=>(match as.toList with|[x',y']=>aM x' x && aM y' y|_=>false)|_=>false)
 |_=>false
section
variable {P:Program}{c:Ctx}{G:Nat->C}{zl:Nat->Nat->Prop}{s:ah}{a:Act}{w:World}{o:Oper}{K:ah->Prop}
def QO(op:BinOp)(ty:TypeId)(p q:Operand)(a b:Option Addr)(l m n k:Nat):eqGuard op ty p q (.slice a l m) (.slice b n k)=pure ():=by unfold eqGuard;cases op<;>rfl
def afX{sz len:Nat}{e:Nat->Nat->C}(h:me (dK sz len e)=true):0<len/\0<sz:=by
 unfold dK at h;cases len with
 |zero=>cases h
 |succ len=>
  cases sz with
  |zero=>rw[C4] at h;cases h
  |succ sz=>exact⟨Nat.succ_pos _,Nat.succ_pos _⟩
def afq(h:St c G zl s a w){d:Nat}{neg:Bool}{ty ty':TypeId}{e:TypeId}{x:AV}{x':Operand}(ho:o.op=.binOp (bif neg then .neq else .eql) ty x' (.const (.slice none 0 0)) ty')(ht:P.underlying ty=some (.slice e))(hd:o.dst=some d)(hn:d<c.nt)(hx:aM x' x=true)
  (hK:aP P (.r6 d neg x) s K):dL P c o a w K:=by
 obtain⟨p,p1,p2,p3⟩:=cj h hx;simp only[aP] at hK;split at hK
 ·rename_i m z xs h1;rw[<-p1] at h1;obtain⟨A,len,cap,f,rfl,hxs⟩:=zV h1;have hb:me xs=true->(A.map λq=>(⟨q.1,q.2.1,q.2.2⟩:Addr)).isNone=false:=λhc=>by rw[hxs] at hc;obtain⟨h1,h2⟩:=afX hc;obtain⟨g,o',hA,_⟩:=p3.ok.2.1 0 0 h1 h2;rw[hA];rfl
  have QU:=hK _ hb;obtain⟨nb,hnb⟩:∃nb,(A.map λq=>(⟨q.1,q.2.1,q.2.2⟩:Addr)).isNone=nb:=⟨_,rfl⟩;rw[hnb] at QU;have hc:a.eval (.const (.slice none 0 0))=.slice none 0 0:=rfl;refine dR h hd hn (x:=.bool (xor neg nb)) trivial (λ_ _ _ _ _ _ e=>(by cases e)) trivial (λw' _=>?_) QU;cases neg;·simp only[execOp,ho,hc,<-p2,C.val,QO,Sem.run_bind,Sem.run_pure,Result.andThen_ok,qI,Lib.run_eql_slice_nil w' ty e _ _ _ _ _ ht,Bool.false_bne,hnb]
  ·simp only[execOp,ho,hc,<-p2,C.val,QO,Sem.run_bind,Sem.run_pure,Result.andThen_ok,lG,run_neq_slice_nil w' ty e _ _ _ ht,Bool.true_bne,hnb]
 ·exact hK.elim
def FN{b:Bool}{n m:Nat}(h:(b||decide (n=m))=true):b=true\/n=m:=by simpa using h
def yK{α:Type}{xs:Array α}{x:α}(h:xs.toList=[x]):xs= #[x]:=oK h
def HG{α:Type}{xs:Array α}{x y:α}(h:xs.toList=[x,y]):xs= #[x,y]:=oK h
def Jp(h:St c G zl s a w){x:cq}(hc:DM P c.nt o x=true)(hK:aP P x s K):dL P c o a w K:=by
 unfold DM at hc;split at hc
 ·simp only[az] at hc;obtain⟨hd,hn⟩:=dM hc.1;have hc:=hc.2;split at hc;·rename_i ho;exact SJ h (.inl ho) hd hn hc hK
  ·rename_i ho;exact SJ h (.inr ho) hd hn hc hK
  ·cases hc
 ·simp only[az] at hc;obtain⟨hd,hn⟩:=dM hc.1;have hc:=hc.2;split at hc;·rename_i ho;simp only[az] at hc;exact afr h ho hd hn hc.1.1 hc.1.2 hc.2 hK
  ·cases hc
 ·simp only[az] at hc;obtain⟨hd,hn⟩:=dM hc.1;have hc:=hc.2;split at hc;·rename_i ho;simp only[az,aY] at hc;obtain⟨rfl,hx⟩:=hc;exact afy h ho hd hn hx hK
  ·cases hc
 ·simp only[az] at hc;obtain⟨hd,hn⟩:=dM hc.1;have hc:=hc.2;split at hc;·rename_i ho;simp only[az,aY] at hc;obtain⟨⟨rfl,hx⟩,hy⟩:=hc;exact ae4 h ho hd hn hx hy hK
  ·cases hc
 ·simp only[az] at hc;obtain⟨hd,hn⟩:=dM hc.1;have hc:=hc.2;split at hc;·rename_i ho;simp only[az,aY] at hc;obtain⟨⟨⟨rfl,ht⟩,hx⟩,hy⟩:=hc;exact ae3 h ho (adh ht) hd hn hx hy hK
  ·cases hc
 ·simp only[az] at hc;obtain⟨hd,hn⟩:=dM hc.1;have hc:=hc.2;split at hc;·rename_i ho;simp only[az,aY] at hc;obtain⟨⟨rfl,ht⟩,hx⟩:=hc;obtain⟨el,ht⟩:=yW.1 ht;exact afq h ho (nv ht) hd hn hx hK
  ·cases hc
 ·simp only[az] at hc;obtain⟨hd,hn⟩:=dM hc.1;have hc:=hc.2;split at hc;·rename_i ho;simp only[az,aY] at hc;obtain⟨⟨⟨rfl,ht⟩,hx⟩,hy⟩:=hc;exact aeZ h ho ht hd hn hx hy hK
  ·cases hc
 ·simp only[az] at hc;obtain⟨hd,hn⟩:=dM hc.1;have hc:=hc.2;split at hc;·rename_i ho;simp only[az] at hc;obtain⟨⟨hs,ht⟩,hx⟩:=hc;obtain⟨sd,hs⟩:=yW.1 hs;exact afd h ho hs (KT ht) hd hn hx hK
  ·cases hc
 ·simp only[az] at hc;obtain⟨hd,hn⟩:=dM hc.1;have hc:=hc.2;split at hc
  ·rename_i ho;split at hc;·rename_i el hel;simp only[az] at hc;exact afx h ho (nv hel) (KT hc.1.1) (A9 hc.1.2) hd hn hc.2 hK
   ·cases hc
  ·cases hc
 ·simp only[az] at hc;obtain⟨hd,hn⟩:=dM hc.1;have hc:=hc.2;split at hc;·rename_i ho;simp only[az] at hc;exact SI h ho (rG hc.1.1.1) (A8 hc.1.1.2) (FN hc.1.2) hd hn hc.2 hK
  ·cases hc
 ·simp only[az] at hc;obtain⟨hd,hn⟩:=dM hc.1;have hc:=hc.2;split at hc;·rename_i ho;simp only[az] at hc;exact afk h ho (rG hc.1.1.1) (A8 hc.1.1.2) (FN hc.1.2) hd hn hc.2 hK
  ·cases hc
 ·simp only[az] at hc;obtain⟨hd,hn⟩:=dM hc.1;have hc:=hc.2;split at hc;·rename_i ho;exact afb h ho hd hn hc hK
  ·cases hc
 ·simp only[az] at hc;obtain⟨hd,hn⟩:=dM hc.1;have hc:=hc.2;split at hc
  ·rename_i ho;split at hc
   ·rename_i fs hfs;split at hc;·rename_i f hf;simp only[az,aY,tf] at hc;obtain⟨⟨⟨h1,h2⟩,h3⟩,h4⟩:=hc;obtain⟨i,hi⟩:=yW.1 h3;refine aff h ho hfs hf h1 ⟨i,hi,λh0=>?_⟩ hd hn h4 hK;simp[kV,hi,h0] at h2
    ·cases hc
   ·cases hc
  ·cases hc
 ·simp only[az] at hc;obtain⟨hd,hn⟩:=dM hc.1;have hc:=hc.2;split at hc
  ·rename_i ho;split at hc
   ·rename_i fs hfs;split at hc;·rename_i f hf;simp only[az,aY] at hc;obtain⟨⟨⟨⟨h1,h2⟩,h3⟩,h4⟩,h5⟩:=hc;exact afg h ho hfs hf h1 (rG h2) (A8 h3) (FN h4) hd hn h5 hK
    ·cases hc
   ·cases hc
  ·cases hc
 ·simp only[az] at hc;obtain⟨hd,hn⟩:=dM hc.1;have hc:=hc.2;split at hc
  ·rename_i ho;split at hc;·rename_i el hel;simp only[az,aY] at hc;obtain⟨⟨⟨h1,h2⟩,h3⟩,h4⟩:=hc;exact afh h ho (nv hel) (rG h1) h2 hd hn h3 h4 hK
   ·cases hc
  ·cases hc
 ·simp only[az] at hc;obtain⟨hd,hn⟩:=dM hc.1;have hc:=hc.2;split at hc;·rename_i ho;simp only[az] at hc;exact aft h ho (A9 hc.1.1) hd hn hc.1.2 hc.2 hK
  ·cases hc
 ·simp only[az] at hc;obtain⟨hd,hn⟩:=dM hc.1;have hc:=hc.2;split at hc
  ·rename_i ho;split at hc;·rename_i n' el hel;simp only[az,aY] at hc;obtain⟨⟨⟨⟨⟨rfl,h2⟩,h3⟩,h4⟩,h5⟩,h6⟩:=hc;exact ae0 h ho hel (rG h2) (A8 h3) (FN h4) hd hn h5 h6 hK
   ·cases hc
  ·cases hc
 ·simp only[az] at hc;obtain⟨hd,hn⟩:=dM hc.1;have hc:=hc.2;split at hc;·rename_i ho;simp only[az,eu] at hc;obtain⟨rfl,hx⟩:=hc;exact afe h ho hd hn hx hK
  ·cases hc
 ·simp only[az] at hc;obtain⟨hd,hn⟩:=dM hc.1;have hc:=hc.2;split at hc;·rename_i ho;simp only[az] at hc;obtain⟨⟨⟨h1,h2⟩,h3⟩,h4⟩:=hc;exact afv h ho (A9 h1) hd hn h2 h3 h4 hK
  ·cases hc
 ·simp only[az] at hc;obtain⟨hd,hn⟩:=dM hc.1;have hc:=hc.2;split at hc
  ·rename_i ho;split at hc;·rename_i el hel;simp only[az] at hc;obtain⟨⟨⟨h1,h2⟩,h3⟩,h4⟩:=hc;exact afs h ho (nv hel) (rG h1) hd hn h2 h3 h4 hK
   ·cases hc
  ·cases hc
 ·simp only[az] at hc;obtain⟨hd,hn⟩:=dM hc.1;have hc:=hc.2;split at hc;·rename_i fs cs' ho;simp only[az,eu] at hc;obtain⟨⟨rfl,h2⟩,h3⟩:=hc;have hfs:fs= #[]:=oK (List.isEmpty_iff.1 h2);subst hfs;exact afm h ho hd hn h3 hK
  ·cases hc
 ·simp only[az] at hc;obtain⟨hd,hn⟩:=dM hc.1;have hc:=hc.2;split at hc
  ·rename_i as ts ho;split at hc;·rename_i x' ty has hts;simp only[az] at hc;obtain⟨el,hel⟩:=yW.1 hc.1;rw[yK has,yK hts] at ho;exact afi h ho (nv hel) hd hn hc.2 hK
   ·cases hc
  ·cases hc
 ·simp only[az] at hc;obtain⟨hd,hn⟩:=dM hc.1;have hc:=hc.2;split at hc
  ·rename_i as ts ho;split at hc;·rename_i x' ty has hts;simp only[az] at hc;rw[yK has,yK hts] at ho;exact afu h ho (A9 hc.1) hd hn hc.2 hK
   ·cases hc
  ·cases hc
 ·simp only[az] at hc;obtain⟨hd,hn⟩:=dM hc.1;have hc:=hc.2;split at hc
  ·rename_i as ts ho;split at hc;·rename_i x' y' has;simp only[az] at hc;rw[HG has] at ho;exact afn h ho hd hn hc.1 hc.2 hK
   ·cases hc
  ·cases hc
 ·simp only[az] at hc;obtain⟨hd,hn⟩:=dM hc.1;have hc:=hc.2;split at hc
  ·rename_i as ts ho;split at hc;·rename_i x' y' has;simp only[az] at hc;rw[HG has] at ho;exact afo h ho hd hn hc.1 hc.2 hK
   ·cases hc
  ·cases hc
 ·cases hc
end
end M
namespace M
open Go Go.RowKit
variable [Bs]
def Step(P:Program)(c:Ctx)(o:Oper)(a:Act)(w:World)(K:ah->Prop)(q:Bool):Prop:=
 (∃v w',((execOp a.eval o).run P w=.ok (.value v) w'\/((execOp a.eval o).run P w=.ok .skip w'/\v=undef))/\Rel q w w'/\∃G' aF s',K s'/\St c G' aF s' (a.put o.dst v) w')\/qO P c o a w K q
section
variable {P:Program}{c:Ctx}{G:Nat->C}{zl:Nat->Nat->Prop}{s:ah}{a:Act}{w:World}{o:Oper}{K:ah->Prop}
def Good.step(h:Good P c o a w K):Step P c o a w K false:=by obtain⟨v,w',hr,h⟩:=h;exact .inl ⟨v,w',hr,λhq=>by (cases hq),h⟩
def jH.step(h:jH P c o a w K)(q:Bool):Step P c o a w K q:=by obtain⟨v,w',hr,hE,h⟩:=h;exact .inl ⟨v,w',.inl hr,λ_=>hE,h⟩
def Step.wp{q:Bool}(h:Step P c o a w K q)(Q:Exit->Act->World->Prop):o.wp P a w (λa' w'=>Rel q w w'/\∃G' aF s',K s'/\St c G' aF s' a' w') Q:=by
 unfold Oper.wp;rcases h with ⟨v,w',hr,hq,h⟩|⟨f,args,hr,hc⟩
 ·rcases hr with hr|⟨hr,rfl⟩;·rw[hr];exact⟨hq,h⟩
  ·rw[hr];exact⟨hq,h⟩
 ·rw[hr];refine Calls.mono hc λe w' he=>?_;obtain⟨v,rfl,hq,h⟩:=he;exact⟨hq,h⟩
def N1(P:Program)(t:TypeId)(sz bytes:Nat)(z:List X):Bool:=match P.info? t with
 |some i=>decide (i.size=sz) && decide (i.bytes=bytes) && (match i.zero with|some v=>mI v.cells.toList z|none=>false)
 |none=>false
def akd{t:TypeId}{sz bytes:Nat}{z:List X}(h:N1 P t sz bytes z=true):∃i v,P.info? t=some i/\i.size=sz/\i.bytes=bytes/\i.zero=some v/\mI v.cells.toList z=true:=by
 unfold N1 at h;split at h
 ·rename_i i hi;simp only[az,aY] at h;obtain⟨⟨h1,h2⟩,h3⟩:=h;split at h3;·rename_i v hv;exact⟨i,v,hi,h1,h2,hv,h3⟩
  ·cases h3
 ·cases h
def N4(P:Program)(t:TypeId)(sz bytes:Nat):Bool:=match P.info? t with
 |some i=>decide (i.size=sz) && decide (i.bytes=bytes) && (match i.zero with|some v=>decide (v.cells.size=sz)|none=>false)
 |none=>false
def akg{t:TypeId}{sz bytes:Nat}(h:N4 P t sz bytes=true):∃i v,P.info? t=some i/\i.size=sz/\i.bytes=bytes/\i.zero=some v/\v.cells.size=sz:=by
 unfold N4 at h;split at h
 ·rename_i i hi;simp only[az,aY] at h;obtain⟨⟨h1,h2⟩,h3⟩:=h;split at h3;·rename_i v hv;exact⟨i,v,hi,h1,h2,hv,yY h3⟩
  ·cases h3
 ·cases h
def N2(P:Program)(t:TypeId)(sz:Nat):Bool:=match P.info? t with
 |some i=>decide (i.size=sz) && (match i.zero with|some v=>decide (v.cells.size=sz)|none=>false)
 |none=>false
def akf{t:TypeId}{sz:Nat}(h:N2 P t sz=true):∃i v,P.info? t=some i/\i.size=sz/\i.zero=some v/\v.cells.size=sz:=by
 unfold N2 at h;split at h
 ·rename_i i hi;simp only[az,aY] at h;obtain⟨h1,h3⟩:=h;split at h3;·rename_i v hv;exact⟨i,v,hi,h1,hv,yY h3⟩
  ·cases h3
 ·cases h
def Di(P:Program)(t:TypeId)(z:List X):Bool:=match P.info? t with
 |some i=>(match i.zero with|some v=>mI v.cells.toList z|none=>false)
 |none=>false
def N3{t:TypeId}{z:List X}(h:Di P t z=true):∃i v,P.info? t=some i/\i.zero=some v/\mI v.cells.toList z=true:=by
 unfold Di at h;split at h
 ·rename_i i hi;split at h;·rename_i v hv;exact⟨i,v,hi,hv,h⟩
  ·cases h
 ·cases h
def placesOf(P:Program)(t:TypeId):Option (List (Nat×Nat)):=match P.underlying t with
 |some (.struct fs)=>fs.toList.mapM λf=>(P.info? f.type).map λi=>(f.offset,i.size)
 |some (.array n e)=>(P.info? e).map λi=>(List.range n).map λk=>(k*i.size,i.size)
 |_=>none
def Qc{p q:Nat->Option (Nat×Nat)}(h:∀i r,p i=some r->q i=some r):∀(parts:List (Nat×Value)) (cells r:Array Value),Instr.fill p cells parts=some r->Instr.fill q cells parts=some r
 |[],cells,r,hf=>hf
 |(i,v)::rest,cells,r,hf=>by
  unfold Instr.fill at hf⊢;cases hp:p i with
  |none=>rw[hp] at hf;cases hf
  |some pr=>
   rw[hp] at hf;rw[h i pr hp];obtain⟨off,size⟩:=pr;simp only at hf⊢;split at hf;·cases hf
   ·rename_i hc;rw[aC hc];exact Qc h rest _ r hf
def afD{t:TypeId}{places:List (Nat×Nat)}(hp:placesOf P t=some places){i:TypeInfo}(hi:P.info? t=some i){v:Value}(hz:i.zero=some v):∀parts cells,Instr.fill (λi=>places[i]?) v.cells parts=some cells->P.built t parts=some cells:=by
 intro parts cells hf;unfold placesOf at hp;unfold Program.built;rw[hi];split at hp;·rename_i fs hfs;rw[hfs];simp only[hz,hp];simpa using hf
 ·rename_i n e he;rw[he];cases hie:P.info? e with
  |none=>rw[hie] at hp;cases hp
  |some ie=>
   rw[hie] at hp;simp only[cg,dP] at hp;simp only[hz,hie];refine Qc (λk r hk=>?_) _ _ _ hf;rw[<-hp,C.cU] at hk;split at hk;·exact hk
   ·cases hk
 ·cases hp
def zP(nt:Nat)(o:Oper)(d:Option Nat):Bool:=match o.dst,d with
 |some d',some d=>d'==d && decide (d<nt)
 |none,none=>true
 |_,_=>false
def JD{nt:Nat}{d:Option Nat}(h:zP nt o d=true):o.dst=d/\∀n,o.dst=some n->n<nt:=by
 unfold zP at h;split at h;·rename_i d' d hd;simp only[az,eu,aY] at h;rw[hd,h.1];exact⟨rfl,λn hn=>by injection hn with hn;rw[<-hn];exact h.2⟩
 ·rename_i hd;rw[hd];exact⟨rfl,λn hn=>by cases hn⟩
 ·cases h
def Jq(P:Program)(nt:Nat)(o:Oper):cq->Bool
 |.aN d h x=>dy nt o d && (match o.op with|.assign x'=>aM x' x|_=>false)
 |.box d h x=>dy nt o d && (match o.op with|.box _ x'=>aM x' x|_=>false)
 |.new d z=>dy nt o d && (match o.op with|.alloc ty=>Di P ty z|_=>false)
 |.make d sz bytes z n=>dy nt o d && (match o.op with|.makeSlice ty n1 n2=>(match lz P ty with|some el=>N1 P el sz bytes z && decide (0<bytes) && decide (0<sz) && decide (z.length=sz) && aM n1 n && aM n2 n|none=>false)|_=>false)
 |.bytes d x=>dy nt o d && (match o.op with|.convert src dst x'=>(match lz P dst with|some el=>isInt P el .u8 && isStr P src && aM x' x|none=>false)|_=>false)
 |.lit d h sz ps=>dy nt o d && (match o.op with|.buildSlice ty n ps'=>(match lz P ty with|some el=>N2 P el sz && decide (0<sz) && decide (ps'.toList.length=n) && decide (n*sz<=16777216) && zK 0 ps'.toList ps|none=>false)|_=>false)
 |.build d h z ps=>dy nt o d && (match o.op with|.build ty ps'=>(match placesOf P ty with|some places=>Di P ty z && tO places z.length ps'.toList ps|none=>false)|_=>false)
 |.store sz h y x=>(match o.dst with|none=>true|some _=>false) && (match o.op with|.store ty y' x'=>kV P ty sz && decide (0<sz) && aM x' x && aM y' y|_=>false)
 |.app d h sz bytes x y=>dy nt o d && (match o.op with|.call ⟨.builtin .append,as,ts⟩=>(match as.toList,ts.toList with|[x',y'],[ty,ty']=>(match lz P ty,lz P ty' with|some el,some _=>N4 P el sz bytes && decide (0<bytes) && decide (0<sz) && aM x' x && aM y' y|_,_=>false)|_,_=>false)|_=>false)
 |.call d f as=>zP nt o d && (match o.op with|.call ⟨.value (.func f'),as',_⟩=>f'==f && aB P f && gM as'.toList as|_=>false)
 |.kg d x as=>zP nt o d && (match o.op with|.call ⟨.value x',as',_⟩=>aM x' x && gM as'.toList as|_=>false)
 |.wq sz z x=>(match o.dst with|none=>true|some _=>false) && (match o.op with|.call ⟨.builtin .clear,as,ts⟩=>(match as.toList,ts.toList with|[x'],[ty]=>(match lz P ty with|some el=>Di P el z && decide (z.length=sz) && decide (0<sz) && aM x' x|_=>false)|_,_=>false)|_=>false)
 |.qW d f x as=>zP nt o d && (match o.op with|.call ⟨.value (.func f'),as',_⟩=>f'==f && aB P f && (match as'.toList with|x'::l'=>aM x' x && gM l' as && jj as|[]=>false)|_=>false)
 |_=>false
def YC(h:St c G zl s a w){x:cq}(hc:Jq P c.nt o x=true)(hK:aP P x s K):Step P c o a w K (sg x):=by
 unfold Jq at hc;split at hc
 ·simp only[az] at hc;obtain⟨hd,hn⟩:=dM hc.1;have hc:=hc.2;split at hc;·rename_i ho;exact(ae2 h ho hd hn hc hK).step _
  ·cases hc
 ·simp only[az] at hc;obtain⟨hd,hn⟩:=dM hc.1;have hc:=hc.2;split at hc;·rename_i ho;exact(ae5 h ho hd hn hc hK).step _
  ·cases hc
 ·simp only[az] at hc;obtain⟨hd,hn⟩:=dM hc.1;have hc:=hc.2;split at hc;·rename_i ho;obtain⟨i,v,h1,h2,h3⟩:=N3 hc;exact(afp h ho h1 h2 h3 hd hn hK).step _
  ·cases hc
 ·simp only[az] at hc;obtain⟨hd,hn⟩:=dM hc.1;have hc:=hc.2;split at hc
  ·rename_i ho;split at hc;·rename_i el hel;simp only[az,aY] at hc;obtain⟨⟨⟨⟨⟨h1,h2⟩,h3⟩,h4⟩,h5⟩,h6⟩:=hc;obtain⟨i,v,i1,i2,i3,i4,i5⟩:=akd h1;exact(afl h ho (nv hel) i1 i4 i2 i3 h2 h3 h4 i5 hd hn h5 h6 hK).step _
   ·cases hc
  ·cases hc
 ·simp only[az] at hc;obtain⟨hd,hn⟩:=dM hc.1;have hc:=hc.2;split at hc
  ·rename_i ho;split at hc;·rename_i el hel;simp only[az] at hc;exact(ae7 h ho (A9 hc.1.2) (nv hel) (KT hc.1.1) hd hn hc.2 hK).step _
   ·cases hc
  ·cases hc
 ·simp only[az] at hc;obtain⟨hd,hn⟩:=dM hc.1;have hc:=hc.2;split at hc
  ·rename_i ho;split at hc;·rename_i el hel;simp only[az,aY] at hc;obtain⟨⟨⟨⟨h1,h2⟩,h3⟩,h4⟩,h5⟩:=hc;obtain⟨i,v,i1,i2,i3,i4⟩:=akf h1;exact(afj h ho (nv hel) i1 i3 i2 h2 i4 h3 h4 hd hn h5 hK).step _
   ·cases hc
  ·cases hc
 ·simp only[az] at hc;obtain⟨hd,hn⟩:=dM hc.1;have hc:=hc.2;split at hc
  ·rename_i ho;split at hc;·rename_i places hp;simp only[az] at hc;obtain⟨i,v,i1,i2,i3⟩:=N3 hc.1;exact(ae6 (i:=i) h ho (afD hp i1 i2) i3 hd hn hc.2 hK).step _
   ·cases hc
  ·cases hc
 ·simp only[az] at hc;obtain⟨hd,hc⟩:=hc
  have hd:o.dst=none:=by
   split at hd;·assumption
   ·cases hd
  split at hc;·rename_i ho;simp only[az,aY] at hc;obtain⟨⟨⟨h1,h2⟩,h3⟩,h4⟩:=hc;exact(afw h ho (rG h1) h2 hd h3 h4 hK).step
  ·cases hc
 ·simp only[az] at hc;obtain⟨hd,hn⟩:=dM hc.1;have hc:=hc.2;split at hc
  ·rename_i as ts ho;split at hc
   ·rename_i x' y' ty ty' has hts;split at hc;·rename_i el D0 hel acq;simp only[az,aY] at hc;obtain⟨⟨⟨⟨h1,h2⟩,h3⟩,h4⟩,h5⟩:=hc;obtain⟨i,v,i1,i2,i3,i4,i5⟩:=akg h1;rw[HG has,HG hts] at ho;exact(ae1 h ho (nv hel) (nv acq) i1 i4 i2 i3 h2 h3 i5 hd hn h4 h5 hK).step
    ·cases hc
   ·cases hc
  ·cases hc
 ·simp only[az] at hc;obtain⟨hd,hc⟩:=hc;obtain⟨hd,hn⟩:=JD hd;subst hd;split at hc;·rename_i f' as' ts ho;simp only[az,eu] at hc;obtain⟨⟨rfl,h2⟩,h3⟩:=hc;obtain⟨fn,f1,f2,f3⟩:=JN h2;exact .inr (ae8 h ho f1 f2 f3 hn h3 hK)
  ·cases hc
 ·simp only[az] at hc;obtain⟨hd,hc⟩:=hc;obtain⟨hd,hn⟩:=JD hd;subst hd;split at hc;·rename_i x' as' ts ho;simp only[az] at hc;exact .inr (afa h ho hc.1 hn hc.2 hK)
  ·cases hc
 ·simp only[az] at hc;obtain⟨hd,hc⟩:=hc
  have hd:o.dst=none:=by
   split at hd;·assumption
   ·cases hd
  split at hc
  ·rename_i as ts ho;split at hc
   ·rename_i x' ty has hts;split at hc;·rename_i el hel;simp only[az,aY] at hc;obtain⟨⟨⟨h1,h2⟩,h3⟩,h4⟩:=hc;obtain⟨i,v,i1,i2,i3⟩:=N3 h1;rw[yK has,yK hts] at ho;exact(afc h ho (nv hel) i1 i2 i3 h2 h3 hd h4 hK).step
    ·cases hc
   ·cases hc
  ·cases hc
 ·simp only[az] at hc;obtain⟨hd,hc⟩:=hc;obtain⟨hd,hn⟩:=JD hd;subst hd;split at hc
  ·rename_i f' as' ts ho;simp only[az,eu] at hc;obtain⟨⟨rfl,h2⟩,h3⟩:=hc;obtain⟨fn,f1,f2,f3⟩:=JN h2;split at h3;·rename_i x' l' hl;simp only[az] at h3;exact .inr (ae9 h ho hl f1 f2 f3 hn h3.1.1 h3.1.2 h3.2 hK)
   ·cases h3
  ·cases hc
 ·cases hc
def zJ(P:Program)(nt:Nat)(o:Oper)(x:cq):Bool:=bif xJ x then DM P nt o x else Jq P nt o x
def Pq(h:St c G zl s a w){x:cq}(hc:zJ P c.nt o x=true)(hK:aP P x s K):Step P c o a w K (sg x):=by
 unfold zJ at hc;cases hr:xJ x with
 |true=>rw[hr] at hc;exact(Jp h hc hK).quiet.step _
 |false=>rw[hr] at hc;exact YC h hc hK
end
end M
namespace M
open Go Go.RowKit
variable [Bs]
section
variable {P:Program}{c:Ctx}{G:Nat->C}{zl:Nat->Nat->Prop}{s s':ah}{a:Act}{w:World}{K:ah->Prop}{ops:Array Oper}
def St.congr(h:St c G zl s a w)(he:∀t,get s t=get s' t):St c G zl s' a w:=
 {h with inv:={h.inv with er:=λt=>(h.inv.er t).trans (he t)}}
def o7(P:Program)(nt:Nat)(ops:Array Oper)(i:Nat)(g:M.G):Bool:=match ops[i]? with
 |some o=>(match o.guard,g.g with
  |none,none=>true
  |some (j,b),some (t,b')=>b==b' && decide (t<base) && (match ops[j]? with|some oj=>decide (oj.dst=some t)|none=>false)
  |_,_=>false) && decide (o.dst=g.o.dst) && (match g.o.dst with|some d=>decide (d<nt)|none=>true) && zJ P nt o g.o
 |none=>false
def vU(c:Ctx)(K:ah->Prop)(a:Act)(w:World):Prop:=∃G zl s,K s/\St c G zl s a w
def UW(h:St c G zl s a w){t j:Nat}{v:Bool}(hv:get s t=.bool v)(ht:t<base){oj:Oper}(hj:ops[j]?=some oj)(hd:oj.dst=some t):yielded ops a.tmps j=some v:=by
 have hG:=h.inv.er t;rw[hv] at hG;have hc:=ru hG;have:=h.val t ht;rw[hc,C.val] at this;unfold yielded;simp only[hj,gj,hd];rw[vJ] at this;cases ht:a.tmps[t]? with
 |none=>rw[ht] at this;simp[undef] at this
 |some u=>rw[ht] at this;simp only[vI] at this;rw[<-this]
def St.HM(h:St c G zl s a w)(d:Option Nat)(hn:∀n,d=some n->n<c.nt):∃G',St c G' zl (fM d (.ak []) s) (a.put d undef) w:=by
 cases d with
 |none=>exact⟨G,h⟩
 |some n=>exact h.put (x:=.ak 0 λ_=>.dead undef) (hn n rfl) ⟨λj hj=>(by omega),λj hj=>(by omega)⟩ (λ_ _ b k ⟨j,hj,_⟩=>(by omega)) (λb k ⟨j,hj,_⟩=>(by omega)) (λj hj=>(by omega)) (λb k ⟨j,hj,_⟩=>(by omega))
def Es{t:Nat}{v:Bool}(hv:get s t=.bool v):∀u,get s u=get ((t,.bool v)::s) u:=λu=>by
 rw[wG];split;·rename_i e;subst e;exact hv
 ·rfl
def UX(h:St c G zl s a w){t j:Nat}(hv:get s t=.ak [])(ht:t<base){oj:Oper}(hj:ops[j]?=some oj)(hd:oj.dst=some t):yielded ops a.tmps j=none:=by
 have hG:=h.inv.er t;rw[hv] at hG;have hval:=h.val t ht
 have:(G t).val=.tuple #[]:=by
  cases hc:G t with
  |ak n f=>rw[hc] at hG;simp only[C.er,X.ak.injEq,List.map_eq_nil_iff,List.range_eq_nil] at hG;subst hG;rfl
  |_=>rw[hc] at hG;simp[C.er] at hG
 rw[this] at hval;unfold yielded;simp only[hj,gj,hd];rw[vJ] at hval;cases ht:a.tmps[t]? with
 |none=>rfl
 |some u=>rw[ht] at hval;simp only[vI] at hval;rw[<-hval]
def Po{i:Nat}{g:M.G}(h:St c G zl s a w)(hc:o7 P c.nt ops i g=true)(hK:oX P g s K)(Q:Exit->Act->World->Prop):
  wpOp P ops Q i (λa' w'=>Rel (sg g.o) w w'/\vU c K a' w') a w:=by
 unfold o7 at hc;split at hc
 ·rename_i o ho;simp only[az,aY] at hc;obtain⟨⟨⟨hg,hd⟩,hn⟩,hop⟩:=hc;unfold wpOp;simp only[ho];obtain⟨gg,go⟩:=g;split at hg
  ·rename_i h1 h2;subst h2;have hw:Region.wanted o (yielded ops a.tmps)=true:=by simp[Region.wanted,h1]
   rw[au hw];exact .inl ((Pq h hop hK).wp Q)
  ·rename_i j b t b' h1 h2;subst h2;simp only[az,eu,aY] at hg;obtain⟨⟨rfl,ht⟩,hj⟩:=hg;split at hj
   ·rename_i oj gy;have hj:=yY hj;simp only[oX] at hK;split at hK
    ·rename_i v hv;have hy:=UW h hv ht gy hj;obtain⟨k1,k2⟩:=hK;have rN:Region.wanted o (yielded ops a.tmps)=(v==b):=by simp only[Region.wanted,h1,hy];cases v<;>cases b<;>rfl
     rw[rN];by_cases kZ:v=b;·subst kZ;rw[au (by simp)];exact .inl ((Pq (h.congr (Es hv)) hop (k1 rfl)).wp Q)
     ·have hnb:v= !b:=by cases v<;>cases b<;>first|rfl|exact absurd rfl kZ
      rw[aC (by simpa using kZ)];subst hnb;obtain⟨G',h'⟩:=(h.congr (Es hv)).HM o.dst (λn jc=>by rw[hd] at jc;simp only[jc] at hn;simpa using hn)
      rw[hd] at h'⊢;exact⟨Rel.refl _ _,G',zl,_,k2 rfl,h'⟩
    ·rename_i hv;have hy:=UX h hv ht gy hj;have rN:Region.wanted o (yielded ops a.tmps)=false:=by simp only[Region.wanted,h1,hy];rfl
     rw[rN,aC (by simp)];obtain⟨G',h'⟩:=h.HM o.dst (λn jc=>by rw[hd] at jc;simp only[jc] at hn;simpa using hn)
     rw[hd] at h'⊢;exact⟨Rel.refl _ _,G',zl,_,hK,h'⟩
    ·exact hK.elim
   ·cases hj
  ·cases hg
 ·cases hc
def YB{i:Nat}{g:M.G}(h:St c G zl s a w)(hc:o7 P c.nt ops i g=true)(hr:xJ g.o=true)(hK:oX P g s K):
  ∃o v,ops[i]?=some o/\nG P ops o v a w/\vU c K (a.put o.dst v) w:=by
 unfold o7 at hc;split at hc
 ·rename_i o ho;simp only[az,aY] at hc;obtain⟨⟨⟨hg,hd⟩,hn⟩,hop⟩:=hc;obtain⟨gg,go⟩:=g;unfold zJ at hop;simp only at hr hop;rw[hr] at hop;simp only[lG] at hop;refine⟨o,?_⟩;split at hg
  ·rename_i h1 h2;subst h2;have hw:Region.wanted o (yielded ops a.tmps)=true:=by simp[Region.wanted,h1]
   obtain⟨v,hv,G',aF,s',k1,k2⟩:=Jp h hop hK;exact⟨v,ho,.inl ⟨hw,hv⟩,G',aF,s',k1,k2⟩
  ·rename_i j b t b' h1 h2;subst h2;simp only[az,eu,aY] at hg;obtain⟨⟨rfl,ht⟩,hj⟩:=hg;split at hj
   ·rename_i oj gy;have hj:=yY hj;simp only[oX] at hK;split at hK
    ·rename_i v hv;have hy:=UW h hv ht gy hj;obtain⟨k1,k2⟩:=hK;have rN:Region.wanted o (yielded ops a.tmps)=(v==b):=by simp only[Region.wanted,h1,hy];cases v<;>cases b<;>rfl
     by_cases kZ:v=b;·subst kZ;obtain⟨u,hu,G',aF,s',k3,k4⟩:=Jp (h.congr (Es hv)) hop (k1 rfl);exact⟨u,ho,.inl ⟨by rw[rN];simp,hu⟩,G',aF,s',k3,k4⟩
     ·have hnb:v= !b:=by cases v<;>cases b<;>first|rfl|exact absurd rfl kZ
      subst hnb;obtain⟨G',h'⟩:=(h.congr (Es hv)).HM o.dst (λn jc=>by rw[hd] at jc;simp only[jc] at hn;simpa using hn)
      refine⟨undef,ho,.inr ⟨by rw[rN];simp,rfl⟩,G',zl,_,k2 rfl,?_⟩;rw[hd] at h'⊢;exact h'
    ·rename_i hv;have hy:=UX h hv ht gy hj;have rN:Region.wanted o (yielded ops a.tmps)=false:=by simp only[Region.wanted,h1,hy];rfl
     obtain⟨G',h'⟩:=h.HM o.dst (λn jc=>by rw[hd] at jc;simp only[jc] at hn;simpa using hn)
     refine⟨undef,ho,.inr ⟨rN,rfl⟩,G',zl,_,hK,?_⟩;rw[hd] at h'⊢;exact h'
    ·exact hK.elim
   ·cases hj
  ·cases hg
 ·cases hc
def jG(c:Ctx)(Q:Ex->ah->Prop):Exit->Act->World->Prop
 |.normal,a,w=>vU c (Q .normal) a w
 |.exit id,a,w=>vU c (Q (.exit id)) a w
 |.ret,a,w=>vU c (Q .ret) a w
 |_,_,_=>False
def q5(P:Program)(nt:Nat)(ops:Array Oper):Nat->List M.G->Bool
 |k,[]=>decide (k=ops.size)
 |k,g::l=>o7 P nt ops k g && q5 P nt ops (k+1) l
def SL{Q:Ex->ah->Prop}:∀(l:List M.G) (k:Nat) {G:Nat->C} {zl:Nat->Nat->Prop} {s:ah} {a:Act} {w:World},q5 P c.nt ops k l=true->St c G zl s a w->ke P l s Q->wpOps P ops (jG c Q) (List.range' k l.length) a w
 |[],k,G,zl,s,a,w,hc,h,hK=>⟨G,zl,s,hK,h⟩
 |g::l,k,G,zl,s,a,w,hc,h,hK=>by simp only[q5,az] at hc;rw[cu,List.range'_succ,wpOps_cons];refine wpOp_mono (λa' w' ⟨_,G',aF,s',k1,k2⟩=>?_) (Po h hc.1 hK (jG c Q));exact SL l (k+1) hc.2 k2 k1
def Pp:∀(l:List M.G) (k:Nat),q5 P c.nt ops k l=true->k+l.length=ops.size
 |[],k,h=>by simpa [q5] using h
 |g::l,k,h=>by simp only[q5,az] at h;have:=Pp l (k+1) h.2;simp only[cu];omega
def afR{Q:Ex->ah->Prop}{l:List M.G}{id:Nat}(hc:q5 P c.nt ops 0 l=true)(h:St c G zl s a w)(hK:ke P l s Q):(Code.region id ops false).wp P (jG c Q) a w:=by refine wp_region ?_;have hl:=Pp l 0 hc;rw[List.range_eq_range',<-hl,mC];exact SL l 0 hc h hK
def QC(K0:List Nat)(s:ah)(t:Nat):∀ks:List Nat,get (ks.map λk=>(k,(get s k).only K0)) t=if ks.contains t then (get s t).only K0 else .dead
 |[]=>rfl
 |k::ks=>by
  simp only[bn,get];by_cases h:k=t;·subst h;simp
  ·have h1:(k==t)=false:=by simpa using h
   have h2:(k::ks).contains t=ks.contains t:=by
    simp only[List.contains_cons];have:(t==k)=false:=by simpa using λe=>h e.symm
    rw[this,Bool.false_or]
   rw[h1,h2,qI];exact QC K0 s t ks
def St.keep(h:St c G zl s a w)(ks:List Nat):∃G',St c G' zl (M.keep ks s) a w:=by
 let G':Nat->C:=λt=>if ks.contains t then (G t).aA (C.others ks) else .dead (G t).val
 have hin:∀t,ks.contains t=true->G' t=(G t).aA (C.others ks):=λt ht=>au ht;have hout:∀t,ks.contains t=false->G' t=.dead (G t).val:=λt ht=>aC (by rw[ht];simp)
 have hv:∀t,(G' t).val=(G t).val:=λt=>by
  cases ht:ks.contains t with
  |true=>rw[hin t ht,C.jh]
  |false=>rw[hout t ht];rfl
 have cr:∀t b k,(G' t).fp b k->(G t).fp b k:=λt b k hf=>by
  cases ht:ks.contains t with
  |true=>rw[hin t ht,C.cG] at hf;exact hf
  |false=>rw[hout t ht] at hf;exact hf.elim
 refine⟨G',h.move ⟨λt=>?_,λt=>?_,λt u hne b k hf hf'=>h.inv.sep t u hne b k (cr t b k hf) (cr u b k hf'),λt b k hf=>h.inv.fz t b k (cr t b k hf),λt=>?_,h.inv.cB⟩ hv (Ext.refl (λ_ _=>False) w) (λ_ _ hs=>hs.elim) (λt b k hf=>.inl ⟨t,cr t b k hf⟩)⟩
 ·unfold M.keep;rw[QC];cases ht:ks.contains t with
  |true=>rw[hin t ht,C.BB,h.inv.er];rfl
  |false=>rw[hout t ht];rfl
 ·cases ht:ks.contains t with
  |true=>rw[hin t ht];exact C.l5 _ _ (h.inv.ok t)
  |false=>rw[hout t ht];trivial
 ·cases ht:ks.contains t with
  |true=>
   rw[hin t ht];refine C.lu (C.others ks) (λs' q y hk hs=>?_) _ (C.gD _ _) (C.nh _ _ (h.inv.rf t));have hs':ks.contains s'=true:=by simpa [C.others] using hk
   rw[hin s' hs'];rcases C.self y _ q hs with ⟨z,hz,hs2⟩|hno;·exact .inl ⟨_,hz.off _,C.jg _ q _ _ (h.inv.ok s') hs2⟩
   ·exact .inr hno
  |false=>rw[hout t ht];trivial
def D9:cq->Bool
 |.pn _ _ _=>true
 |_=>false
def Y1{ev:Operand->Value}{o:Oper}{ty:TypeId}{fi:Nat}{x':Operand}{fs:Array Field}{f:Field}{i:TypeInfo}(ho:o.op=.fieldAddr ty x' fi)(hu:P.underlying ty=some (.struct fs))(hf:fs[fi]?=some f)(hi:P.info? f.type=some i)(hi0:i.size≠0){v:Value}{w:World}(h:(execOp ev o).run P w=.ok (.value v) w)(w':World):(execOp ev o).run P w'=.ok (.value v) w':=by
 cases hv:ev x' with
 |pointer p=>
  cases p with
  |none=>simp[execOp,ho,hv,Instr.fieldAt,Instr.sureAddr,run_underlying hu,hf] at h
  |some a=>simp[execOp,ho,hv,Instr.fieldAt,Instr.sureAddr,run_underlying hu,hf,fieldPlace,Go.sizeOf,typeInfo,hi,hi0] at h⊢;exact h
 |_=>simp[execOp,ho,hv,Instr.fieldAt,Instr.sureAddr,run_underlying hu,hf] at h
def YA{i:Nat}{g:M.G}(hc:o7 P c.nt ops i g=true)(he:D9 g.o=true){o:Oper}{v:Value}(ho:ops[i]?=some o)(hl:nG P ops o v a w):qM P ops o v a:=by
 rcases hl with ⟨h1,h2⟩|h
 ·refine .inl ⟨h1,?_⟩;have h3:=h2 w (Ext.refl _ _);unfold o7 at hc;rw[ho] at hc;simp only[az] at hc;obtain⟨_,hop⟩:=hc;obtain⟨gg,go⟩:=g;cases go<;>simp only[D9] at he<;>try (cases he)
  unfold zJ at hop;simp only[xJ,lG] at hop;unfold DM at hop;simp only[az] at hop;have hc:=hop.2;split at hc
  ·rename_i hfo;split at hc
   ·rename_i fs hfs;split at hc;·rename_i f hf;simp only[az,aY,tf] at hc;obtain⟨⟨⟨h5,h6⟩,h7⟩,h8⟩:=hc;obtain⟨i,hi⟩:=yW.1 h7;exact λw'=>Y1 hfo hfs hf hi (λh0=>by simp[kV,hi,h0] at h6) h3 w'
    ·cases hc
   ·cases hc
  ·cases hc
 ·exact .inr h
def DT.ko:DT->List Nat
 |.nil _=>[]
 |.step i _ _=>[i]
 |.alt a b=>a.ko++b.ko
 |.kp _ t=>t.ko
def DT.quiet:DT->Nat->Bool
 |.nil _,_=>true
 |.step i g t,j=>(if i=j then sg g.o else true) && t.quiet j
 |.alt a b,j=>a.quiet j && b.quiet j
 |.kp _ t,j=>t.quiet j
def JS(ops:Array Oper)(q:Nat->Bool)(t:Nat->Nat->Bool)(listed:Array Bool)(e:Bool)(i:Nat):Bool:=match ops[i]? with
 | some oi => (List.range ops.size).all λj => j == i || listed.getD j true || t j i || ((e || q j) && (match ops[j]? with
  |some oj=>oi.apart ops oj
  |none=>true))
 |none=>false
def gx(P:Program)(nt:Nat)(ops:Array Oper)(q:Nat->Bool)(bf:Nat->Nat->Bool):DT->Nat->Array Bool->Bool->Bool
 |.nil _,_,listed,alt=> !alt && decide (Region.ready .any ops listed=[])
 |.step i g t,fuel,listed,alt=>(match fuel with
  |0=>false
  |fuel+1=>o7 P nt ops i g && (!q i||sg g.o) && (alt||decide (Region.ready .any ops listed=[i])||(xJ g.o && (Region.ready .any ops listed).contains i && JS ops q bf listed (D9 g.o) i)) && gx P nt ops q bf t fuel (listed.setIfInBounds i true) false)
 |.alt a b,fuel,listed,alt=>(alt||decide (Region.ready .any ops listed=a.ko++b.ko)) && gx P nt ops q bf a fuel listed true && gx P nt ops q bf b fuel listed true
 |.kp _ t,fuel,listed,alt=>gx P nt ops q bf t fuel listed alt
def Qu{q:Nat->Bool}{t:Nat->Nat->Bool}{listed:Array Bool}{i:Nat}{oi:Oper}{e:Bool}(hi:ops[i]?=some oi)(h:JS ops q t listed e i=true)(j:Nat)(oj:Oper)(hj:ops[j]?=some oj)(hne:j≠i)(hun:listed.getD j true=false)(hno:t j i=false):oi.apart ops oj=true/\(e=true\/q j=true):=by simp only[JS,hi,oR,s6] at h;have h1:=h j (j9.1 hj).1;simp only[hj,tg,eu,hne,false_or,hun,fA,hno,az] at h1;exact⟨h1.2,h1.1⟩
def vA{q:Nat->Bool}{bf:Nat->Nat->Bool}(kB:wo ops bf=true)(hns:Region.noSelect ops=true){Q:Ex->ah->Prop}:∀(t:DT) (fuel:Nat) (listed:Array Bool) {G:Nat->C} {zl:Nat->Nat->Prop} {s:ah} {a:Act} {w:World},Down ops listed->St c G zl s a w->ia P t s Q->
  (gx P c.nt ops q bf t fuel listed false=true->wpAnyQ P ops q (jG c Q) fuel listed a w)/\
  ((∀i∈t.ko,i∈Region.ready .any ops listed)->gx P c.nt ops q bf t fuel listed true=true->∃f,fuel=f+1/\∀i∈t.ko,wpOp P ops (jG c Q) i (λa' w'=>Rel (q i) w w'/\wpAnyQ P ops q (jG c Q) f (listed.setIfInBounds i true) a' w') a w)
 |.nil ks,fuel,listed,G,zl,s,a,w,hdn,h,hK=>by
  obtain⟨G',h'⟩:=h.keep ks;constructor
  ·intro hc;simp only[gx,NK,NL,aY] at hc;cases fuel with
   |zero=>exact⟨hc,G',zl,_,hK,h'⟩
   |succ f=>exact⟨λ_=>⟨G',zl,_,hK,h'⟩,by rw[hc];intro i hi;cases hi⟩
  ·intro _ hc;simp[gx] at hc
 |.step i g t,fuel,listed,G,zl,s,a,w,hdn,h,hK=>by
  cases fuel with
  |zero=>exact⟨λhc=>by simp[gx] at hc,λ_ hc=>by simp[gx] at hc⟩
  |succ f=>
   have Ar:i∈Region.ready .any ops listed->Down ops (listed.setIfInBounds i true):=λhr=>by obtain⟨_,o,ho,hall⟩:=mem_ready.1 hr;exact hdn.set ho hall
   have one:i∈Region.ready .any ops listed->gx P c.nt ops q bf t f (listed.setIfInBounds i true) false=true->o7 P c.nt ops i g=true->(q i=true->sg g.o=true)->
     wpOp P ops (jG c Q) i (λa' w'=>Rel (q i) w w'/\wpAnyQ P ops q (jG c Q) f (listed.setIfInBounds i true) a' w') a w:=λwO ht hg hq=>
    wpOp_mono (λa' w' ⟨hr,G',aF,s',k1,k2⟩=>⟨λhqi=>hr (hq hqi),(vA kB hns t f _ (Ar wO) k2 k1).1 ht⟩) (Po h hg hK (jG c Q))
   constructor
   ·intro hc;have hc0:=hc;simp only[gx,az,tg,aY,fA,false_or] at hc;obtain⟨⟨⟨hg,hq⟩,hr⟩,ht⟩:=hc;have nR:q i=true->sg g.o=true:=λhqi=>by rw[hqi] at hq;simpa using hq
    rcases hr with hr|⟨⟨hr,hrd⟩,Kf⟩;·refine⟨λh0=>(by rw[hr] at h0;cases h0),λj hj=>?_⟩;rw[hr,fy] at hj;subst hj;exact one (by rw[hr];exact fy.2 rfl) ht hg nR
    ·obtain⟨o,v,ho,hl,G',aF,s',k1,k2⟩:=YB h hg hr hK;have wO:i∈Region.ready .any ops listed:=by simpa using hrd
     cases he:D9 g.o with
     |true=>exact ajE ho (Region.noSelect_spec hns) (λ_ _ _ hh=>hh.elim) kB f listed a w hdn (λj oj hj hne hun hno=>(Qu ho Kf j oj hj hne hun hno).1) wO (YA hg he ho hl) ((vA kB hns t f _ (Ar wO) k2 k1).1 ht)
     |false=>rw[he] at Kf;exact wpAnyQ_first ho (Region.noSelect_spec hns) (λ_ _ _ hh=>hh.elim) kB f listed a w hdn (λj oj hj hne hun hno=>(Qu ho Kf j oj hj hne hun hno).imp id λh=>h.resolve_left (by simp)) wO hl ((vA kB hns t f _ (Ar wO) k2 k1).1 ht)
   ·intro Kj hc;have hc0:=hc;simp only[gx,az,tg,aY,true_or] at hc;obtain⟨⟨⟨hg,hq⟩,_⟩,ht⟩:=hc;have nR:q i=true->sg g.o=true:=λhqi=>by rw[hqi] at hq;simpa using hq
    refine⟨f,rfl,λj hj=>?_⟩;rw[DT.ko,fy] at hj;subst hj;exact one (Kj j (fy.2 rfl)) ht hg nR
 |.alt t1 t2,fuel,listed,G,zl,s,a,w,hdn,h,hK=>by
  have both:(∀i∈t1.ko++t2.ko,i∈Region.ready .any ops listed)->gx P c.nt ops q bf t1 fuel listed true=true->gx P c.nt ops q bf t2 fuel listed true=true->∃f,fuel=f+1/\∀i∈t1.ko++t2.ko,wpOp P ops (jG c Q) i (λa' w'=>Rel (q i) w w'/\wpAnyQ P ops q (jG c Q) f (listed.setIfInBounds i true) a' w') a w:=λhh h1 h2=>by
   obtain⟨f,hf,i1⟩:=(vA kB hns t1 fuel listed hdn h hK.1).2 (λi hi=>hh i (Nq _ hi)) h1;obtain⟨f',hf',i2⟩:=(vA kB hns t2 fuel listed hdn h hK.2).2 (λi hi=>hh i (Nr _ hi)) h2;have:f'=f:=by omega
   subst this;exact⟨f',hf,λi hi=>(dO.1 hi).elim (i1 i) (i2 i)⟩
  constructor
  ·intro hc;simp only[gx,az,tg,aY,fA,false_or] at hc;obtain⟨⟨hr,h1⟩,h2⟩:=hc;obtain⟨f,rfl,hi⟩:=both (λi hi=>by rw[hr];exact hi) h1 h2;refine⟨λh0=>?_,λi hi'=>hi i (by rw[<-hr];exact hi')⟩;exfalso;rw[h0] at hr
   have ne:∀{t:DT},gx P c.nt ops q bf t (f+1) listed true=true->t.ko≠[]:=by
    intro t;induction t with
    |nil=>intro hh;simp[gx] at hh
    |step i g t _=>intro _ hh;cases hh
    |alt a b iI _=>intro hh he;simp only[gx,az] at hh;rw[DT.ko,Vd] at he;exact iI hh.1.2 he.1
    |kp ks t ih=>exact ih
   have:=(Vd.1 hr.symm).1;exact ne h1 this
  ·intro Kj hc;simp only[gx,az,tg,aY,true_or,true_and] at hc;exact both Kj hc.1 hc.2
 |.kp ks t,fuel,listed,G,zl,s,a,w,hdn,h,hK=>by obtain⟨G',h'⟩:=h.keep ks;exact vA kB hns t fuel listed hdn h' hK
def waits(ops:Array Oper)(j i:Nat):Bool:=((Region.before ops).getD j 0).testBit i
def Jo(P:Program)(nt:Nat)(ops:Array Oper)(t:DT):Bool:=P.follows .mixedOrders && Region.noSelect ops && wo ops (waits ops) && gx P nt ops t.quiet (waits ops) t ops.size (Array.replicate ops.size false) false
def YQ{Q:Ex->ah->Prop}{t:DT}{id:Nat}(hc:Jo P c.nt ops t=true)(h:St c G zl s a w)(hK:ia P t s Q):(Code.region id ops true).wp P (jG c Q) a w:=by
 simp only[Jo,az] at hc;obtain⟨⟨⟨hm,hns⟩,kB⟩,hc⟩:=hc;refine wp_region_any hm ?_;have hE:Ext (λ_ _=>False) w w.drew:=Ext.drew w _;have h':St c G zl s a w.drew:=h.move (h.inv.world hE λ_ _ hs=>hs.elim) (λ_=>rfl) hE (λ_ _ hs=>hs.elim) (λt b k hf=>.inl ⟨t,hf⟩);have hdn:Down ops (Array.replicate ops.size false):=λk ok _ hl=>by exfalso;simp only[vJ,Vj] at hl;split at hl<;>simp at hl
 exact((vA kB hns t ops.size _ hdn h' hK).1 hc).any
end
end M
namespace M
open Go Go.RowKit
variable [Bs]
section
variable {P:Program}{c:Ctx}{G:Nat->C}{zl:Nat->Nat->Prop}{s s':ah}{a:Act}{w:World}
def gN(P:Program)(nt:Nat):A->Code->Bool
 |.skip,.skip=>true
 |.ret,.ret=>true
 |.exit id,.exit id'=>decide (id=id')
 |.ops l,.region _ ops false=>q5 P nt ops 0 l
 |.draw t,.region _ ops true=>Jo P nt ops t
 |.seq a b,.seq x y=>gN P nt a x && gN P nt b y
 |.cond c a b,.cond c' x y=>aM c' c && gN P nt a x && gN P nt b y
 |.block id b,.block id' x=>decide (id=id') && gN P nt b x
 |.loop b,.loop x=>gN P nt b x
 |.pk _ b,x=>gN P nt b x
 |_,_=>false
def least(p:Nat->Prop):(∃n,p n)->∃m,p m/\∀k,p k->m<=k:=by
 rintro ⟨n,hn⟩;induction n using Nat.strongRecOn with
 |_ n ih=>
  by_cases h:∃k,k<n/\p k;·obtain⟨k,hk,hp⟩:=h;exact ih k hk hp
  ·exact⟨n,hn,λk hk=>by
    rcases gI k n with hlt|hge;·exact(h ⟨k,hlt,hk⟩).elim
    ·exact hge⟩
def YH:∀(t:A) (code:Code) {Q:Ex->ah->Prop} {G:Nat->C} {zl:Nat->Nat->Prop} {s:ah} {a:Act} {w:World},gN P c.nt t code=true->St c G zl s a w->eL P t s Q->code.wp P (jG c Q) a w:=by
 intro t;induction t with
 |skip=>intro code Q G zl s a w hc h hK;unfold gN at hc;cases code<;>simp at hc;exact wp_skip ⟨G,zl,s,hK,h⟩
 |ret=>intro code Q G zl s a w hc h hK;unfold gN at hc;cases code<;>simp at hc;exact wp_ret ⟨G,zl,s,hK,h⟩
 |exit id=>intro code Q G zl s a w hc h hK;unfold gN at hc;cases code<;>simp at hc;subst hc;exact wp_exit ⟨G,zl,s,hK,h⟩
 |ops l=>
  intro code Q G zl s a w hc h hK;unfold gN at hc;cases code with
  |region id os d=>
   cases d with
   |false=>exact afR hc h hK
   |true=>simp at hc
  |_=>simp at hc
 |draw t=>
  intro code Q G zl s a w hc h hK;unfold gN at hc;cases code with
  |region id os d=>
   cases d with
   |true=>exact YQ hc h hK
   |false=>simp at hc
  |_=>simp at hc
 |seq x y KP KQ=>
  intro code Q G zl s a w hc h hK;unfold gN at hc;cases code with
  |seq x' y'=>
   simp only[az] at hc;refine wp_seq (wp_mono (KP x' hc.1 h hK) λe a w he=>?_);cases e with
   |normal=>obtain⟨G,zl,s,k,h⟩:=he;exact KQ y' hc.2 h k
   |exit id=>exact he
   |ret=>exact he
   |goto l=>exact he.elim
   |panic ch=>exact he.elim
   |outgrown=>exact he.elim
  |_=>simp at hc
 |cond cc x y KP KQ=>
  intro code Q G zl s a w hc h hK;unfold gN at hc;cases code with
  |cond c' x' y'=>
   simp only[az] at hc;obtain⟨⟨h1,h2⟩,h3⟩:=hc;obtain⟨d,e1,e2,e3⟩:=cj h h1;simp only[eL] at hK;split at hK;·rename_i b hb;rw[<-e1] at hb;have:=ru hb;subst this;exact wp_cond_split (by rw[<-e2];rfl) (λht=>KP x' h2 h (hK.1 ht)) (λhf=>KQ y' h3 h (hK.2 hf))
   ·exact hK.elim
  |_=>simp at hc
 |block id b ih=>
  intro code Q G zl s a w hc h hK;unfold gN at hc;cases code with
  |block id' x=>
   simp only[az,aY] at hc;obtain⟨rfl,hc⟩:=hc;refine wp_block (wp_mono (ih x hc h hK) λe a w he=>?_);cases e with
   |normal=>exact he
   |exit i=>
    obtain⟨G,zl,s,k,h⟩:=he;simp only at k;show if i=id then jG c Q .normal a w else jG c Q (.exit i) a w
    by_cases hi:i=id;·subst hi;rw[au rfl];simp only[beq_self_eq_true,lG] at k;exact⟨G,zl,s,k,h⟩
    ·rw[aC hi];have:(i==id)=false:=by simpa using hi
     rw[this] at k;exact⟨G,zl,s,k,h⟩
   |ret=>exact he
   |goto l=>exact he.elim
   |panic ch=>exact he.elim
   |outgrown=>exact he.elim
  |_=>simp at hc
 |loop b ih=>
  intro code Q G zl s a w hc h hK;unfold gN at hc;cases code with
  |loop x=>
   obtain⟨I,⟨n,hn⟩,acY⟩:=hK;let J:Nat->Act->World->Prop:=λn a w=>vU c (I n) a w;have Kl:=λa w=>least (λn=>J n a w);let μ:Act->World->Nat:=λa w=>by classical exact if hh:∃n,J n a w then Classical.choose (Kl a w hh) else 0
   have hμ:∀a w,(∃n,J n a w)->J (μ a w) a w/\∀k,J k a w->μ a w<=k:=λa w hh=>by have hspec:=Da (Kl a w hh);have:μ a w=Classical.choose (Kl a w hh):=kO hh;rw[this];exact hspec
   refine wp_loop (λa w=>∃n,J n a w) μ ?_ λa w hI=>?_;·exact⟨n,G,zl,s,hn,h⟩
   ·obtain⟨⟨G1,tn,s1,k1,h1⟩,_⟩:=hμ a w hI;refine wp_mono (ih x hc h1 (acY _ s1 k1)) λe a' w' he=>?_;cases e with
    |normal=>obtain⟨G2,tq,s2,⟨m,hm,J1⟩,h2⟩:=he;have hJ:J m a' w':=⟨G2,tq,s2,J1,h2⟩;exact⟨⟨m,hJ⟩,Nat.lt_of_le_of_lt ((hμ a' w' ⟨m,hJ⟩).2 m hJ) hm⟩
    |exit id=>exact he
    |ret=>exact he
    |goto l=>exact he.elim
    |panic ch=>exact he.elim
    |outgrown=>exact he.elim
  |_=>simp at hc
 |pk ks b ih=>
  intro code Q G zl s a w hc h hK;have hc:gN P c.nt b code=true:=by cases b<;>cases code<;>first|exact hc|(rename_i d;cases d<;>exact hc)
  refine wp_mono (ih code hc h hK) λe a w he=>?_;cases e with
  |normal=>obtain⟨G,zl,s,k,h⟩:=he;obtain⟨G',h'⟩:=h.keep ks;exact⟨G',zl,_,k,h'⟩
  |exit id=>exact he
  |ret=>exact he
  |goto l=>exact he.elim
  |panic ch=>exact he.elim
  |outgrown=>exact he.elim
end
end M
namespace M
open Go Go.RowKit
variable [Bs]
def CG:Nat->List X->ah
 |_,[]=>[]
 |i,x::l=>(i,alias (base+i) [] x)::CG (i+1) l
def CH:Nat->List X->ah
 |_,[]=>[]
 |i,x::l=>(base+i,x)::CH (i+1) l
def mG(xs:List X):ah:=CG 0 xs++CH 0 xs
def X.lX:X->Bool
 |.ak _=>true
 |_=>false
def post(x:X):X:=bif x.clean then x else .dead
inductive RV where
 |t (n:Nat)
 |c (n sz:Nat) (agg:Bool) (ty:TypeId)
def dV:List RV->ah->List X×ah
 |[],s=>([],s)
 |.t n::l,s=>((take .mv (av s (.t n)) s).1::(dV l (take .mv (av s (.t n)) s).2).1,(dV l (take .mv (av s (.t n)) s).2).2)
 |.c n sz agg _::l,s=>((match get s n with
  |.ptr .own cs=>if cs.length=sz then (bif agg then .agg (X.gA n [] cs) else (X.gA n [] cs).headD (.ak [])) else .ak []
  |_=>.ak [])::(dV l (iN n [] .dead s)).1,(dV l (iN n [] .dead s)).2)
def uK:List X->X
 |[x]=>x
 |l=>.ak l
def qc:Nat->Nat->ah->List X
 |_,0,_=>[]
 |i,n+1,s=>post (get s (base+i))::qc (i+1) n s
def Ends(rs:List RV)(n:Nat)(Q:X->List X->Prop):Ex->ah->Prop
 |.exit _,_=>False
 |_,s=>X.clean.cz (dV rs s).1=true/\(∀x∈(dV rs s).1,x.lX=false)/\Q (uK (dV rs s).1) (qc 0 n (dV rs s).2)
namespace C
def tQ:∀c:C,c.er.clean=true->c.bare
 |.ref _ _ _,h=>by simp[er,X.clean] at h
 |.ax _ _ _ _ _,h=>by simp[er,X.clean] at h
 |.cut _ _ _ _ _,h=>by simp[er,X.clean] at h
 |.ptr m g o n c,h=>λj hj=>tQ (c j) (by simp only[er,X.clean,az] at h;exact jJ.1 h.2 _ (bg.2 ⟨j,by simpa using hj,rfl⟩))
 |.agg n c,h=>λj hj=>tQ (c j) (by simp only[er,X.clean] at h;exact jJ.1 h _ (bg.2 ⟨j,by simpa using hj,rfl⟩))
 |.ak n c,h=>λj hj=>tQ (c j) (by simp only[er,X.clean] at h;exact jJ.1 h _ (bg.2 ⟨j,by simpa using hj,rfl⟩))
 |.fn f n c,h=>λj hj=>tQ (c j) (by simp only[er,X.clean] at h;exact jJ.1 h _ (bg.2 ⟨j,by simpa using hj,rfl⟩))
 |.dead _,_=>trivial
 |.int _ _,_=>trivial
 |.bool _,_=>trivial
 |.str _,_=>trivial
 |.row _ _ _ _ _ _,_=>trivial
variable {w:World}{zl zb:Nat->Nat->Prop}
def q6:∀c:C,c.er.clean=true->c.ok w (Zf zl zb)->c.ok w (Zf zl λ_ _=>False)
 |.ref _ _ _,h,_=>by simp[er,X.clean] at h
 |.ax _ _ _ _ _,h,_=>by simp[er,X.clean] at h
 |.cut _ _ _ _ _,h,_=>by simp[er,X.clean] at h
 |.row m sz A len cap e,h,ho=>by
  simp only[er,X.clean,az] at h;obtain⟨h1,h2,h3,h4,h5⟩:=ho;refine⟨h1,λi j hi hj=>?_,λi j hi hj=>?_,h4,h5⟩
  ·obtain⟨g,o,q1,q2,q3⟩:=h2 i j hi hj;refine⟨g,o,q1,q2,λhm=>?_⟩;cases m with
   |own=>exact(hm rfl).elim
   |sl=>exact q3 hm
   |af=>simp at h
  ·obtain⟨a1,a2,a3,a4⟩:=h3 i j hi hj;exact⟨a1,a2,a3,q6 (e i j) (Pt.1 h.2 _ (bg.2 ⟨i,by simpa using hi,rfl⟩) _ (bg.2 ⟨j,by simpa using hj,rfl⟩)) a4⟩
 |.ptr m g o n c,h,ho=>by
  simp only[er,X.clean,az] at h;obtain⟨h1,h2,h3,h4⟩:=ho;refine⟨λj hj=>?_,h2,λj hj=>?_,h4⟩
  ·obtain⟨a1,a2,a3⟩:=h1 j hj;refine⟨a1,λhm=>?_,a3⟩;cases m with
   |own=>exact(hm rfl).elim
   |sl=>exact a2 hm
   |af=>simp at h
  ·obtain⟨a1,a2,a3⟩:=h3 j hj;exact⟨a1,a2,q6 (c j) (jJ.1 h.2 _ (bg.2 ⟨j,by simpa using hj,rfl⟩)) a3⟩
 |.agg n c,h,ho=>by simp only[er,X.clean] at h;exact⟨λj hj=>⟨(ho.1 j hj).1,q6 (c j) (jJ.1 h _ (bg.2 ⟨j,by simpa using hj,rfl⟩)) (ho.1 j hj).2⟩,ho.2⟩
 |.ak n c,h,ho=>by simp only[er,X.clean] at h;exact⟨λj hj=>⟨(ho.1 j hj).1,q6 (c j) (jJ.1 h _ (bg.2 ⟨j,by simpa using hj,rfl⟩)) (ho.1 j hj).2⟩,ho.2⟩
 |.fn f n c,h,ho=>λj hj=>⟨q6 (c j) (by simp only[er,X.clean] at h;exact jJ.1 h _ (bg.2 ⟨j,by simpa using hj,rfl⟩)) (ho j hj).1,(ho j hj).2⟩
 |.dead _,_,_=>trivial
 |.int _ _,_,_=>trivial
 |.bool _,_,_=>trivial
 |.str _,_,h=>h
end C
def QF(i:Nat):∀(xs:List X) (r:ah) (t:Nat),get (CG i xs++r) t=if i<=t/\t<i+xs.length then alias (base+t) [] (xs.getD (t - i) .dead) else get r t
 |[],r,t=>by rw[aC (by simp only[iC];omega)];rfl
 |x::xs,r,t=>by
  simp only[CG,fR];rw[wG,QF (i+1) xs];by_cases h:t=i;·subst h;rw[au rfl,au ⟨eC _,by simp only[cu];omega⟩,yV];rfl
  ·rw[aC h];by_cases h2:i+1<=t/\t<i+1+xs.length;·rw[au h2,au ⟨by omega,by simp only[cu];omega⟩,show t - i=(t - (i+1))+1 by omega];rfl
   ·rw[aC h2,aC (by simp only[cu];omega)]
def QG(i:Nat):∀(xs:List X) (t:Nat),get (CH i xs) t=if base+i<=t/\t<base+i+xs.length then xs.getD (t - (base+i)) .dead else .dead
 |[],t=>by rw[aC (by simp only[iC];omega)];rfl
 |x::xs,t=>by
  simp only[CH];rw[wG,QG (i+1) xs];by_cases h:t=base+i;·subst h;rw[au rfl,au ⟨eC _,by simp only[cu];omega⟩,yV];rfl
  ·rw[aC h];by_cases h2:base+(i+1)<=t/\t<base+(i+1)+xs.length;·rw[au h2,au ⟨by omega,by simp only[cu];omega⟩,show t - (base+i)=(t - (base+(i+1)))+1 by omega];rfl
   ·rw[aC h2,aC (by simp only[cu];omega)]
def agB{w:World}{zl zb:Nat->Nat->Prop}{cs:List C}(h:qL w zl zb cs)(lS:Dl w zl zb){nt:Nat}(hn:cs.length<=nt)(hnt:nt<=base):
  ∃G,St ⟨w,λb k=>∃x∈cs,x.fp b k,zl,zb,nt,cs.map C.val⟩ G zl (mG (cs.map C.er)) ⟨(cs.map C.val).toArray++Array.replicate (nt - (cs.map C.val).toArray.size) undef,[]⟩ w:=by
 let G:Nat->C:=λt=>if t<cs.length then (cs.getD t (.dead undef)).alias (base+t) [] else if base<=t/\t<base+cs.length then cs.getD (t - base) (.dead undef) else .dead undef
 have g1:∀t,t<cs.length->G t=(cs.getD t (.dead undef)).alias (base+t) []:=λt ht=>au ht;have g2:∀t,t<cs.length->G (base+t)=cs.getD t (.dead undef):=λt ht=>by show (if _ then _ else _:C)=_;rw[aC (by omega),au (by omega),Nat.add_sub_cancel_left]
 have g3:∀t,¬t<cs.length->¬(base<=t/\t<base+cs.length)->G t=.dead undef:=λt h1 h2=>by show (if _ then _ else _:C)=_;rw[aC h1,aC h2]
 have hm:∀t,t<cs.length->cs.getD t (.dead undef)∈cs:=λt ht=>cI ht _
 have DI:∀t,(t<cs.length/\t<base)\/(∃u,u<cs.length/\t=base+u)\/(G t=.dead undef/\¬t<cs.length/\¬(base<=t/\t<base+cs.length)):=λt=>by
  by_cases h1:t<cs.length;·exact .inl ⟨h1,by omega⟩
  ·by_cases h2:base<=t/\t<base+cs.length;·exact .inr (.inl ⟨t - base,by omega,by omega⟩)
   ·exact .inr (.inr ⟨g3 t h1 h2,h1,h2⟩)
 have hal:∀t,t<cs.length->(G t).ok w (Zf zl zb)/\(G t).rf G/\∀b k,¬(G t).fp b k:=λt ht=>by rw[g1 t ht];have hx:=hm t ht;exact C.Og (base+t) _ (g2 t ht) (h.ok _ hx) (C.qU G _ (h.bare _ hx))
 have cr:∀t b k,(G t).fp b k->∃u,u<cs.length/\t=base+u/\(cs.getD u (.dead undef)).fp b k:=λt b k hf=>by
  rcases DI t with ⟨h1,_⟩|⟨u,hu,rfl⟩|⟨h1,_⟩;·exact((hal t h1).2.2 b k hf).elim
  ·rw[g2 u hu] at hf;exact⟨u,hu,rfl,hf⟩
  ·rw[h1] at hf;exact hf.elim
 refine⟨G,⟨⟨λt=>?_,λt=>?_,λt u hne b k hf hf'=>?_,λt b k hf=>?_,λt=>?_,h.cB⟩,λt ht=>?_,?_,hnt,rfl,⟨Ext.refl _ _,λt b k hf=>?_,λ_ _ hz=>hz,λ_ _ hz=>.inl hz,lS,λb k hb ⟨x,hx,hf⟩=>((lS b hb).2 k).elim (h.fz x hx b k hf).1 (h.fz x hx b k hf).2⟩,λi v hi=>?_⟩⟩
 ·have hgd:∀u,(cs.map C.er).getD u .dead=(cs.getD u (.dead undef)).er:=λu=>by rw[iT,iT,cR];cases cs[u]?<;>rfl
  unfold mG;rw[QF,QG,cZ,hgd,hgd];rcases DI t with ⟨h1,h2⟩|⟨u,hu,rfl⟩|⟨h1,h2,h3⟩;·rw[au ⟨by omega,by omega⟩,g1 t h1,C.Oh,Nat.sub_zero]
  ·rw[aC (by omega),au ⟨by omega,by omega⟩,g2 u hu,show base+u - (base+0)=u by omega]
  ·rw[aC (by omega),aC (by omega),h1];rfl
 ·rcases DI t with ⟨h1,_⟩|⟨u,hu,rfl⟩|⟨h1,_⟩;·exact(hal t h1).1
  ·rw[g2 u hu];exact h.ok _ (hm u hu)
  ·rw[h1];trivial
 ·obtain⟨x,hx,e1,h1⟩:=cr t b k hf;obtain⟨y,hy,e2,h2⟩:=cr u b k hf';exact xI h.apart _ hx hy (λe=>hne (by rw[e1,e2,e])) h1 h2
 ·obtain⟨x,hx,e1,h1⟩:=cr t b k hf;exact h.fz _ (hm x hx) b k h1
 ·rcases DI t with ⟨h1,_⟩|⟨u,hu,rfl⟩|⟨h1,_⟩;·exact(hal t h1).2.1
  ·rw[g2 u hu];exact C.qU G _ (h.bare _ (hm u hu))
  ·rw[h1];trivial
 ·rw[vJ,Array.getElem?_append];simp only[oM,cZ];by_cases h1:t<cs.length;·rw[au h1,g1 t h1,C.Oi,za,cR,cm h1,pq (cm h1)];rfl
  ·rw[aC h1,g3 t h1 (by omega),Vj];split<;>rfl
 ·simp only[Ny,oM,cZ,Array.size_replicate];omega
 ·obtain⟨x,hx,e1,h1⟩:=cr t b k hf;exact .inl ⟨_,hm x hx,h1⟩
 ·simp only[cR] at hi;cases hc:cs[i]? with
  |none=>rw[hc] at hi;cases hi
  |some x=>
   rw[hc] at hi;injection hi with hi
   have hlt:=(aL.1 hc).1;rw[g2 i hlt,pq hc,hi]
end M
namespace M
open Go Go.RowKit
variable [Bs]
def tP(P:Program):List ResultVar->List RV->Bool
 |[],[]=>true
 |.tmp t::l,.t t'::l'=>t==t' && decide (t<base) && tP P l l'
 |.cell a ty::l,.c n sz agg ty'::l'=>a==n && decide (n<base) && ty==ty' && kV P ty sz && uy P ty agg && (agg||decide (sz=1)) && tP P l l'
 |_,_=>false
section
variable {P:Program}{w:World}
def aes(x:C)(h:x.er.lX=false):x.fY:=by cases x<;>first|trivial|(simp[C.er,X.lX] at h)
def Lp:List Value->Value
 |[v]=>v
 |l=>.tuple l.toArray
def BJ(tmps:Array Value):ResultVar->Sem Value
 |.tmp t=>pure (tmps.getD t undef)
 |.cell a t=>do loadVar t (<-asAddr (tmps.getD a undef))
def aga{fn:Func}{vs:List Value}(tmps:Array Value)(h:(fn.results.toList.mapM (BJ tmps)).run P w=.ok vs w):(results fn tmps).run P w=.ok (Lp vs) w:=by
 unfold results;rw[Array.mapM_eq_mapM_toList];rw[Sem.run_bind,Sem.run_map];erw [h];simp only[Result.andThen_ok,Sem.run_pure];match vs with
 |[]=>rfl
 |[v]=>rfl
 |u::v::l=>simp[Lp]
def MQ{c:Ctx}{zl:Nat->Nat->Prop}{a:Act}:∀{l':List ResultVar} {l:List RV},tP P l' l=true->∀{G:Nat->C} {s:ah},St c G zl s a w->(∀x∈(dV l s).1,x.lX=false)->
  ∃cs G',cs.map C.er=(dV l s).1/\(l'.mapM (BJ a.tmps)).run P w=.ok (cs.map C.val) w/\bF w zl c.zb G cs G' (dV l s).2
 |[],[],_,G,s,h,_=>⟨[],G,rfl,by simp,bF.nil h.inv⟩
 |.tmp t::l',.t t'::l,hc,G,s,h,hk=>by
  simp only[tP,az,eu,aY] at hc;obtain⟨⟨rfl,ht⟩,hc⟩:=hc;obtain⟨p,p1,p2,p3⟩:=cj h (o:=.tmp t) (x:=.t t) (by simp[aM,ht]);obtain⟨y,G1,f1,f2,f3,f4⟩:=qC .mv h.inv p3;rw[p1] at f1 f4;obtain⟨cs,G',g1,g2,g3⟩:=MQ hc (h.yL f4) λx hx=>hk x (bO _ hx);refine⟨y::cs,G',by simp[dV,f1,g1],?_,bF.cons f4 g3⟩;have hv:a.tmps.getD t undef=y.val:=by rw[f2,p2];rfl
  simp only[List.mapM_cons,BJ,Sem.run_bind,Sem.run_pure,Result.andThen_ok,g2,hv,bn]
 |.cell ad ty::l',.c n sz agg ty'::l,hc,G,s,h,hk=>by
  simp only[tP,az,eu,aY] at hc;obtain⟨⟨⟨⟨⟨⟨rfl,ht⟩,rfl⟩,hsz⟩,mN⟩,h1⟩,hc⟩:=hc
  have hk0:(match get s ad with
   |.ptr .own cs=>if cs.length=sz then (bif agg then .agg (X.gA ad [] cs) else (X.gA ad [] cs).headD (.ak [])) else .ak []
   |_=>.ak []:X).lX=false:=hk _ (bq ..)
  split at hk0
  ·rename_i cs0 hg;split at hk0
   ·rename_i hlen;obtain⟨D,G1,t1,t2,t3,t4,t5,t6,t7,t8,t9,t10,t11,t12⟩:=h.inv.vz ad [] (G ad) rfl;rw[h.inv.er,hg] at t1;simp only[X.kill] at t1;obtain⟨g,o,m,f,rfl,hcs⟩:=JF t1;have hm:m=sz:=by have:=dr List.length hcs;rw[X.KZ] at this;simpa [hlen] using this.symm
    subst hm;obtain⟨q1,q2,q3,q4⟩:=t4;have hin:∀j,j<m->∀b k,(f j).fp b k->(C.ptr .own g o m f).fp b k:=λj hj b k hf=>C.kC (q3 j hj).1 (q3 j hj).2.1 hj hf;have J4:a.tmps.getD ad undef=.pointer (some ⟨g,o,none⟩):=by rw[<-h.val ad ht,<-t2];rfl
    obtain⟨ii,hi,kr⟩:=rG hsz;obtain⟨dd,Ag,hda⟩:=A8 mN;have uj:(isAgg ty).run P w=.ok agg w:=by subst hda;simp only[isAgg,Sem.run_bind,run_underlying Ag,Result.andThen_ok];cases dd<;>rfl
    have hsize:(Go.sizeOf ty).run P w=.ok m w:=by simp[Go.sizeOf,typeInfo,hi,kr]
    have hl:(loadCells ⟨g,o,none⟩ m).run P w=.ok ((List.range m).map λj=>(f j).val).toArray w:=run_loadCells w _ m _ (λj hj=>by rw[qP];exact(q1 j hj).1)
    have fin:∀y:C,(∀b k,y.fp b k->(C.ptr .own g o m f).fp b k)->y.ok w (Zf zl c.zb)->y.rf G1->y.er=(if cs0.length=m then (bif agg then .agg (X.gA ad [] cs0) else (X.gA ad [] cs0).headD (.ak [])) else .ak [])->(loadVar ty ⟨g,o,none⟩).run P w=.ok y.val w->
      ∃cs G',cs.map C.er=(dV (.c ad m agg ty::l) s).1/\((ResultVar.cell ad ty::l').mapM (BJ a.tmps)).run P w=.ok (cs.map C.val) w/\bF w zl c.zb G cs G' (dV (.c ad m agg ty::l) s).2:=λy Nn yok yrf yer aka=>by
     have jv:fB w zl c.zb G y G1 (iN ad [] .dead s):=⟨t3,yok,yrf,λt b k hf=>t8 t b k (Nn b k hf),λb k hf=>h.inv.fz ad b k (t9 b k (Nn b k hf)),t10,λb k hf=>⟨ad,t9 b k (Nn b k hf)⟩,t11⟩;obtain⟨cs,G',g1,g2,g3⟩:=MQ hc (h.yL jv) λx hx=>hk x (bO _ hx);refine⟨y::cs,G',?_,?_,bF.cons jv g3⟩;·simp only[bn,dV,hg,yer,g1]
     ·simp only[List.mapM_cons,BJ,J4,asAddr,Sem.run_bind,Sem.run_pure,Result.andThen_ok,aka,g2,bn]
    cases agg with
    |true=>
     refine fin (.agg m f) (λb k ⟨j,hj,hf⟩=>hin j hj b k hf) ⟨λj hj=>⟨(q3 j hj).1,(q3 j hj).2.2⟩,λj hj b k hf=>(q4 j hj b k hf).2⟩ t5 ?_ ?_;·rw[au hlen,lG,hcs];rfl
     ·simp only[loadVar,Sem.run_bind,uj,Result.andThen_ok,cY,hsize,hl,Sem.run_pure];rfl
    |false=>
     have hs1:m=1:=by simpa using h1
     subst hs1;refine fin (f 0) (λb k hf=>hin 0 (by omega) b k hf) (q3 0 (by omega)).2.2 (t5 0 (by omega)) ?_ ?_;·rw[au hlen,qI,hcs];rfl
     ·have:=(q1 0 (by omega)).1;simp only[loadVar,Sem.run_bind,uj,Result.andThen_ok,fA,dQ,run_load];simp only[nB] at this;rw[this]
   ·simp[X.lX] at hk0
  ·simp[X.lX] at hk0
 |[],_::_,hc,_,_,_,_=>by cases hc
 |.tmp _::_,[],hc,_,_,_,_=>by cases hc
 |.cell _ _::_,[],hc,_,_,_,_=>by cases hc
 |.tmp _::_,.c _ _ _ _::_,hc,_,_,_,_=>by cases hc
 |.cell _ _::_,.t _::_,hc,_,_,_,_=>by cases hc
def afG{c:Ctx}{G:Nat->C}{zl:Nat->Nat->Prop}{s:ah}(h:Inv w zl c.zb G s)(t:Nat):∃p:C,p.er=post (get s t)/\p.val=(G t).val/\p.ok w (Zf zl λ_ _=>False)/\p.bare/\∀b k,p.fp b k->(G t).fp b k:=by
 unfold post;cases hc:(get s t).clean with
 |true=>rw[<-h.er] at hc;exact⟨G t,h.er t,rfl,C.q6 _ hc (h.ok t),C.tQ _ hc,λ_ _ hf=>hf⟩
 |false=>exact⟨.dead (G t).val,rfl,rfl,trivial,trivial,λ_ _ hf=>hf.elim⟩
def SX{c:Ctx}{G:Nat->C}{zl:Nat->Nat->Prop}{s:ah}(h:Inv w zl c.zb G s):∀(n i:Nat),∃ps:List C,ps.map C.er=qc i n s/\ps.map C.val=(List.range' i n).map (λj=>(G (base+j)).val)/\(∀p∈ps,p.ok w (Zf zl λ_ _=>False)/\p.bare/\∃t,i<=t/\∀b k,p.fp b k->(G (base+t)).fp b k)/\ps.Pairwise λa b=>∀x k,a.fp x k->¬b.fp x k
 |0,i=>⟨[],rfl,rfl,λ_ hx=>(by cases hx),List.Pairwise.nil⟩
 |n+1,i=>by
  obtain⟨p,p1,p2,p3,p4,p5⟩:=afG h (base+i);obtain⟨ps,q1,q2,q3,q4⟩:=SX h n (i+1);refine⟨p::ps,by simp[qc,p1,q1],by simp[List.range'_succ,p2,q2],λx hx=>?_,eZ.2 ⟨λx hx b k hf hf'=>?_,q4⟩⟩
  ·rcases b9.1 hx with rfl|hx;·exact⟨p3,p4,i,eC _,p5⟩
   ·obtain⟨a1,a2,t,ht,a3⟩:=q3 x hx;exact⟨a1,a2,t,by omega,a3⟩
  ·obtain⟨_,_,t,ht,a3⟩:=q3 x hx;exact h.sep (base+i) (base+t) (by omega) b k (p5 b k hf) (a3 b k hf')
structure Told (P:Program) (f:FuncId) (t:A) (rs:List RV) (n:Nat):Prop where
 told:∃fn code,P.funcs[f]?=some fn/\fn.body=some code/\gN P fn.ntmps t code=true/\tP P fn.results.toList rs=true/\fn.ntmps<=base/\n<=fn.ntmps
def Told.ac{f:FuncId}{t:A}{rs:List RV}{n:Nat}(hT:Told P f t rs n){xs:List X}(hn:xs.length=n){Q:X->List X->Prop}(h:eL P t (mG xs) (Ends rs n Q)):AC P f xs Q:=by
 intro w zl zb cs hxs hA lS;obtain⟨fn,code,hf,hb,hc,hr,hnt,jc⟩:=hT.told;have hcl:cs.length=n:=by rw[<-hn,<-hxs];simp
 obtain⟨G,hst⟩:=agB hA lS (nt:=fn.ntmps) (by omega) hnt;rw[hxs] at hst;refine calls_of_wp hf hb (wp_mono (YH t code hc hst h) λe a w' he=>?_)
 have fin:∀{G:Nat->C} {aF:Nat->Nat->Prop} {s:ah},St ⟨w,λb k=>∃x∈cs,x.fp b k,zl,zb,fn.ntmps,cs.map C.val⟩ G aF s a w'->(X.clean.cz (dV rs s).1=true/\(∀x∈(dV rs s).1,x.lX=false)/\Q (uK (dV rs s).1) (qc 0 n (dV rs s).2))->
   a.defers=[]/\∃v,(results fn a.tmps).run P w'=.ok v w'/\∃r ps aF,N6 w zl cs (.returned v) w' r ps aF/\Q r.er (ps.map C.er):=by
  intro G aF s h ⟨k1,k2,k3⟩;obtain⟨nk,G1,g1,g2,jv⟩:=MQ hr h k2;refine⟨h.defers,_,aga a.tmps g2,?_⟩;rw[<-g1] at k1 k2 k3;obtain⟨ps,p1,p2,p3,p4⟩:=SX (c:=⟨w,λb k=>∃x∈cs,x.fp b k,zl,zb,fn.ntmps,cs.map C.val⟩) jv.inv n 0;have hrc:∀x∈nk,x.er.clean=true:=λx hx=>jJ.1 k1 _ (j6 hx)
  obtain⟨r,r1,r2,r3,r4,r5⟩:∃r:C,r.er=uK (nk.map C.er)/\r.val=Lp (nk.map C.val)/\r.ok w' (Zf aF λ_ _=>False)/\r.bare/\∀b k,r.fp b k->∃x∈nk,x.fp b k:=by
   by_cases h1:nk.length=1;·obtain⟨x,rfl⟩:=List.length_eq_one_iff.1 h1;refine⟨x,rfl,rfl,C.q6 x (hrc x (fy.2 rfl)) (jv.all x (fy.2 rfl)).1,C.tQ x (hrc x (fy.2 rfl)),λb k hf=>⟨x,fy.2 rfl,hf⟩⟩
   ·refine⟨.ak nk.length λj=>nk.getD j (.dead undef),?_,?_,⟨λj hj=>⟨?_,C.q6 _ (hrc _ (cI hj _)) (jv.all _ (cI hj _)).1⟩,λj hj b k hf j' hj' hne=>xI jv.apart _ hj hj' hne hf⟩,λj hj=>C.tQ _ (hrc _ (cI hj _)),λb k ⟨j,hj,hf⟩=>⟨_,cI hj _,hf⟩⟩
    ·show X.ak _=_;rw[l9 nk _ C.er];cases nk with
     |nil=>rfl
     |cons x l=>cases l with
      |nil=>simp at h1
      |cons y l=>rfl
    ·show Value.tuple _=_;rw[l9 nk _ C.val];cases nk with
     |nil=>rfl
     |cons x l=>cases l with
      |nil=>simp at h1
      |cons y l=>rfl
    ·have:=k2 _ (j6 (cI hj (.dead undef)));exact aes _ this
  refine⟨r,ps,aF,?_,by rw[r1,p1];exact k3⟩;have acm:∀t b k,(G1 t).fp b k->(∃y∈cs,y.fp b k)\/w.heap.size<=b:=λt b k hf=>h.tr.dom t b k (jv.mono t b k hf);have hrd:∀b k,r.fp b k->(∃y∈cs,y.fp b k)\/w.heap.size<=b:=λb k hf=>by obtain⟨x,hx,hf⟩:=r5 b k hf;obtain⟨t,ht⟩:=(jv.all x hx).2.2.2 b k hf;exact h.tr.dom t b k ht
  refine⟨by rw[r2],?_,h.tr.ext,⟨λx hx=>?_,λx hx=>?_,λx hx b k hf=>?_,λb k hz=>jv.inv.cB b k (hz.imp id λh=>h.elim),eZ.2 ⟨λx hx b k hf hf'=>?_,p4⟩⟩,λx hx b k hf=>?_,h.tr.oT,h.tr.zl⟩
  ·rw[p2,List.range_eq_range'.symm];apply hO;intro i;rw[cR,cR];by_cases hi:i<n;·rw[tj hi,cm (by omega)];simp only[cg,dP];rw[jv.val];exact h.args i _ (by rw[cR,cm (by omega)];rfl)
   ·rw[kQ (by simp;omega),kQ (by omega)];rfl
  ·rcases b9.1 hx with rfl|hx;·exact r3
   ·exact(p3 x hx).1
  ·rcases b9.1 hx with rfl|hx;·exact r4
   ·exact(p3 x hx).2.1
  ·refine⟨?_,λh=>h⟩;rcases b9.1 hx with rfl|hx;·obtain⟨y,hy,hf⟩:=r5 b k hf;exact((jv.all y hy).2.2.1 b k hf).1
   ·obtain⟨_,_,t,_,a3⟩:=p3 x hx;exact(jv.inv.fz _ b k (a3 b k hf)).1
  ·obtain⟨y,hy,hf⟩:=r5 b k hf;obtain⟨_,_,t,_,a3⟩:=p3 x hx;exact(jv.all y hy).2.1 _ b k hf (a3 b k hf')
  ·rcases b9.1 hx with rfl|hx;·exact hrd b k hf
   ·obtain⟨_,_,t,_,a3⟩:=p3 x hx;exact acm _ b k (a3 b k hf)
 cases e with
 |normal=>obtain⟨G,aF,s,k,h⟩:=he;exact fin h k
 |ret=>obtain⟨G,aF,s,k,h⟩:=he;exact fin h k
 |exit id=>obtain⟨G,aF,s,k,h⟩:=he;exact k.elim
 |goto l=>exact he.elim
 |panic ch=>exact he.elim
 |outgrown=>exact he.elim
def T9(P:Program)(fn:Func)(t:A)(rs:List RV)(n:Nat):Bool:=match fn.body with
 |some code=>gN P fn.ntmps t code && tP P fn.results.toList rs && decide (fn.ntmps<=base) && decide (n<=fn.ntmps)
 |none=>false
def Told.of{f:FuncId}{fn:Func}{t:A}{rs:List RV}{n:Nat}(hf:P.funcs[f]?=some fn)(h:T9 P fn t rs n=true):Told P f t rs n:=by
 unfold T9 at h;split at h;·rename_i code hc;simp only[az,aY] at h;exact⟨fn,code,hf,hc,h.1.1.1,h.1.1.2,h.1.2,h.2⟩
 ·cases h
end
end M
namespace M
open Go
def AC.mono[Bs]{P:Program}{f:FuncId}{xs:List X}{Q Q':X->List X->Prop}(h:AC P f xs Q)(hq:∀r ps,Q r ps->Q' r ps):AC P f xs Q':=
 λw zl zb cs e a g=>(h w zl zb cs e a g).mono λ_ _ ⟨r,ps,aF,d,q⟩=>⟨r,ps,aF,d,hq _ _ q⟩
abbrev Out:=X×List X
abbrev cw:=FuncId->List X->Option Out
def w9(f:FuncId):X->Bool
 |.fn g _=>g==f
 |_=>false
def wk(s1:ah)(fv:Option AV)(f:FuncId):Bool:=match fv with
 |none=>true
 |some x=>w9 f (av s1 x)
abbrev ze:=X->Option ah
def FH(r:Nat)(p:Path)(s:ah)(n:Nat)(x:X):Option (X×ze):=
 match x with
 |.ref _ _=>(match look s r p with
  |some (.row .own z xs)=>some (.row .own z xs,λy=>match y with
   |.row .own z' ys=>if z'=z then some (iy r p (.row .own z ys) s) else none
   |_=>none)
  |_=>none)
 |.ax _ _ i c=>(match look s r p with
  |some (.ptr .own cs)=>if c+n<=cs.length then some (.ptr .own ((cs.drop c).take n),λy=>match y with
   |.ptr .own ys=>if ys.length=n then some (iy r p (.ptr .own (cs.take c++ys++cs.drop (c+n))) s) else none
   |_=>none) else none
  |some (.row .own z xs)=>(match xs[i]? with
   |some e=>if c+n<=e.length then some (.ptr .own ((e.drop c).take n),λy=>match y with
    |.ptr .own ys=>if ys.length=n then (if gX ys=true then some (iy r p (.row .own z (xs.set i (e.take c++ys++e.drop (c+n)))) s) else none) else none
    |_=>none) else none
   |none=>none)
  |_=>none)
 |_=>none
def qd(d:Option Nat)(s:ah):Option Out->Option ah
 |some o=>some (fM d o.1 s)
 |none=>none
def BI(d:Option Nat)(as:List (AV×PM))(back:ze):Option Out->Option ah
 |some o=>(match back (kF as o.2) with
  |some s'=>some (fM d o.1 s')
  |none=>none)
 |none=>none
def DH(C:cw)(f:FuncId)(d:Option Nat)(as:List (AV×PM))(fv:Option AV)(ms:List X)(s0:ah):Option (X×ze)->Option ah
 |some (y,back)=>if X.bare y=true/\wk s0 fv f=true then BI d as back (C f (gu s0 y as ms++nI s0 fv)) else none
 |none=>none
def qX(C:cw)(f:FuncId)(d:Option Nat)(as:List (AV×PM))(fv:Option AV)(s:ah):Option ah:=
 if X.bare.iX (bR as s).1=true then
 match dU as with
 |none=>if wk (bR as s).2 fv f=true then qd d (bR as s).2 (C f (gu (bR as s).2 .dead as (bR as s).1++nI (bR as s).2 fv)) else none
 |some (x,n)=>DH C f d as fv (bR as s).1 (iN (placeOf (av (bR as s).2 x)).1 (placeOf (av (bR as s).2 x)).2 .dead (bR as s).2) (FH (placeOf (av (bR as s).2 x)).1 (placeOf (av (bR as s).2 x)).2 (bR as s).2 n (av (bR as s).2 x))
 else none
def Dw(op:BinOp):X->X->Bool
 |.int k a,.int k' b=>match op with
  |.shl=>decide (0<=b)
  |.shr=>decide (0<=b)
  |.quo=>decide (k=k') && !decide (b=0)
  |.rem=>decide (k=k') && !decide (b=0)
  |.andNot=>false
  |_=>decide (k=k')
 |.str a,.str b=>match op with
  |.add=>decide (a.size+b.size<=9223372036854775807)
  |.eql=>true
  |.neq=>true
  |_=>false
 |_,_=>false
def Xp{op:BinOp}{x y:X}(h:Dw op x y=true):vY op x y:=by cases x<;>cases y<;>cases op<;>simp_all[Dw,vY]
def HL(op:UnOp):X->Bool
 |.int _ _=>match op with
  |.neg=>true
  |_=>false
 |.bool _=>match op with
  |.not=>true
  |_=>false
 |_=>false
def ajy{op:UnOp}{x:X}(h:HL op x=true):yN op x:=by cases x<;>cases op<;>simp_all[HL,yN]
def Fv:List X->Option UInt8
 |[.int .u8 n]=>if 0<=n/\n<256 then some (UInt8.ofNat n.toNat) else none
 |_=>none
def adi{e:List X}{b:UInt8}(h:Fv e=some b):e=[.int .u8 b.toNat]:=by
 unfold Fv at h;split at h
 ·split at h
  ·rename_i n hn;obtain rfl:=iA h;have:(UInt8.ofNat n.toNat).toNat=n.toNat:=by rw[Ii];exact Nat.mod_eq_of_lt (by omega)
   rw[this];congr 2;omega
  ·cases h
 ·cases h
def qE:List (List X)->Option (List UInt8)
 |[]=>some []
 |e::l=>match Fv e,qE l with
  |some b,some r=>some (b::r)
  |_,_=>none
def Uf:∀{xs:List (List X)} {l:List UInt8},qE xs=some l->xs=l.map λb=>[.int .u8 b.toNat]
 |[],l,h=>by cases h;rfl
 |e::r,l,h=>by
  unfold qE at h;split at h;·rename_i b r' h1 h2;obtain rfl:=iA h;rw[adi h1,Uf h2];rfl
  ·cases h
def M1(l:List UInt8):qE (l.map λb=>[.int .u8 (b.toNat:Int)])=some l:=by
 induction l with
 |nil=>rfl
 |cons b l ih=>
  simp only[bn,qE,ih];have:Fv [.int .u8 (b.toNat:Int)]=some b:=by have h:=b.toNat_lt;show (if 0<=(b.toNat:Int)/\(b.toNat:Int)<256 then some (UInt8.ofNat (b.toNat:Int).toNat) else none)=some b;rw[au ⟨by omega,by omega⟩];simp
  rw[this]
def fO:List (List X)->Bool
 |[]=>true
 |e::l=>e.all scalar && fO l
def MI{xs:List (List X)}(h:fO xs=true):scalars xs:=by
 induction xs with
 |nil=>intro e he;cases he
 |cons a l ih=>
  simp only[fO,az,oR] at h;intro e he c hc;rcases b9.1 he with rfl|he;·exact h.1 c hc
  ·exact ih h.2 e he c hc
def cQ(h:Tk)(l:List X):Bool:=match h with
 |.al=>true
 |_=>l.all λx=>gX (cellsOf x)
def agp{h:Tk}{l:List X}(e:cQ h l=true):Hw h l:=by
 cases h;·intro x hx;exact(oR.1 e) x hx
 ·trivial
 ·intro x hx;exact(oR.1 e) x hx
def cK:List Nat->List X->Bool
 |[],[]=>true
 |n::ns,y::ys=>((cellsOf y).length==n) && cK ns ys
 |_,_=>false
def TG:∀{ns:List Nat} {ys:List X},cK ns ys=true->yG ns ys
 |[],[],_=>trivial
 |[],_::_,h=>by cases h
 |_::_,[],h=>by cases h
 |n::ns,y::ys,h=>by simp only[cK,az,eu] at h;exact⟨h.1,TG h.2⟩
def cL(sz:Nat)(l:List X):Bool:=l.all λx=>((cellsOf x).length==sz) && gX (cellsOf x)
def Hy(s:ah)(r:Nat)(p:Path)(i c:Nat)(l:List X):Bool:=match look s r p with
 |some (.row .own _ xs)=>(match xs[i]? with
  |some e=>decide (c+l.length<=e.length) && gX l
  |none=>false)
 |some (.ptr .own cs)=>decide (c+l.length<=cs.length)
 |_=>false
def agE{s:ah}{r:Nat}{p:Path}{i c:Nat}{l:List X}(h:Hy s r p i c l=true):storable s r p i c l:=by
 unfold Hy at h;unfold storable;split at h
 ·split at h;·rename_i h1 _ _ h2;rw[h1];simp only[h2];simpa using h
  ·cases h
 ·rename_i h1;rw[h1];simpa using h
 ·cases h
def S2(d:Option Nat)(cs:List X)(s1:ah):Option Out->Option ah
 |some (r,.agg ys::_)=>if gX ys=true then (match mF cs ys s1 with
  |some s'=>some (fM d r s')
  |none=>none) else none
 |_=>none
def cF(C:cw)(ok:FuncId->Bool)(o:cq)(s:ah):Option ah:=
 match o with
 |.mv d x=>some (put d (av s x) s)
 |.aN d h x=>some (put d (take h (av s x) s).1 (take h (av s x) s).2)
 |.pick d c a b=>match av s c with
  |.bool t=>some (put d (BD t (av s a) (av s b)) s)
  |_=>none
 |.un d op x=>if HL op (av s x)=true then some (put d (M3 op (av s x)) s) else none
 |.bin d op x y=>if Dw op (av s x) (av s y)=true then some (put d (IZ op (av s x) (av s y)) s) else none
 |.beq d neg x y=>match av s x,av s y with
  |.bool p,.bool q=>some (put d (.bool (xor neg (p==q))) s)
  |_,_=>none
 |.r6 d neg x=>match av s x with
  |.row _ _ xs=>if me xs=true then some (put d (.bool neg) s) else none
  |_=>none
 |.tC d neg ks x y=>match av s x,av s y with
  |.agg p,.agg q=>match jN ks p q with
   |some t=>some (put d (.bool (xor neg t)) s)
   |none=>none
  |_,_=>none
 |.conv d k x=>match av s x with
  |.int _ n=>some (put d (.int k (k.wrap n)) s)
  |_=>none
 |.bytes d x=>match av s x with
  |.str t=>some (put d (.row .own 1 (t.data.toList.map λb=>[.int .u8 b.toNat])) s)
  |_=>none
 |.text d x=>match rowAt s (av s x) with
  |some (1,xs)=>if xs.length<=9223372036854775807 then (match qE xs with
   |some l=>some (put d (.str ⟨l.toArray⟩) s)
   |none=>none) else none
  |_=>none
 |.box d h x=>if 0<(cellsOf (take h (av s x) s).1).length then some (put d (.ptr .own (cellsOf (take h (av s x) s).1)) (take h (av s x) s).2) else none
 |.new d z=>some (put d (.ptr .own z) s)
 |.build d h z ps=>if cQ h (takes h (ps.map (·.2)) s).1=true/\cK (ps.map (·.1.2)) (takes h (ps.map (·.2)) s).1=true then some (put d (.agg (wC z (ps.map (·.1.1)) (takes h (ps.map (·.2)) s).1)) (takes h (ps.map (·.2)) s).2) else none
 |.lit d h sz ps=>if cL sz (takes h ps s).1=true then some (put d (.row .own sz ((takes h ps s).1.map cellsOf)) (takes h ps s).2) else none
 |.make d sz bytes z n=>match av s n with
  |.int _ i=>if 0<=i/\i*bytes<=140737488355328 then some (put d (.row .own sz (List.replicate i.toNat z)) s) else none
  |_=>none
 |.load d sz agg a=>match gw s (av s a) with
  |some cs=>if sz<=cs.length then some (put d (bif agg then .agg (cs.take sz) else cs.headD .dead) s) else none
  |none=>none
 |.store sz h a x=>if (cellsOf (take h (av s x) s).1).length=sz then (match av (take h (av s x) s).2 a with
  |.ax r p i c=>if Hy (take h (av s x) s).2 r p i c (cellsOf (take h (av s x) s).1)=true then some (setCells r p i c (cellsOf (take h (av s x) s).1) (take h (av s x) s).2) else none
  |_=>none) else none
 |.dG d x=>match av s x with
  |.ax r p i c=>some (put d (.ax r p i c) s)
  |.ptr m cs=>some (put d (.ptr m cs) s)
  |.fn f cs=>some (put d (.fn f cs) s)
  |_=>none
 |.pn d x off=>match av s x with
  |.ax r p i c=>some (put d (.ax r p i (c+off)) s)
  |.ptr m cs=>some (put d (.ptr m (cs.drop off)) s)
  |_=>none
 |.rA d x off sz agg=>match av s x with
  |.agg cs=>if off+sz<=cs.length then some (put d (bif agg then .agg ((cs.drop off).take sz) else (cs.drop off).headD .dead) s) else none
  |_=>none
 |.eX d sz x i=>match av s i with
  |.int _ n=>if 0<=n then (match av s x with
   |.row m z xs=>if z=sz then (match xs[n.toNat]? with
    |some e=>some (put d (.ptr m e) s)
    |none=>none) else none
   |.ref r p=>(match look s r p with
    |some (.row _ z xs)=>if z=sz/\n.toNat<xs.length then some (put d (.ax r p n.toNat 0) s) else none
    |_=>none)
   |.cut r p lo hi=>(match look s r p with
    |some (.row _ z _)=>if z=sz/\lo+n.toNat<hi then some (put d (.ax r p (lo+n.toNat) 0) s) else none
    |_=>none)
   |_=>none) else none
  |_=>none
 |.dm d x i=>match av s x,av s i with
  |.str t,.int _ n=>if 0<=n then (match t.data[n.toNat]? with
   |some b=>some (put d (.int .u8 b.toNat) s)
   |none=>none) else none
  |_,_=>none
 |.qR d n sz agg x i=>match av s x,av s i with
  |.agg cs,.int _ j=>if 0<=j/\j<n/\cs.length=n*sz then some (put d (bif agg then .agg ((cs.drop (j.toNat*sz)).take sz) else (cs.drop (j.toNat*sz)).headD .dead) s) else none
  |_,_=>none
 |.ext d x i=>match av s x with
  |.ak cs=>if i<cs.length then some (put d (cs.getD i .dead) s) else none
  |_=>none
 |.gd d x lo hi=>match av s x with
  |.str t=>if 0<=asNat s lo 0/\asNat s lo 0<=asNat s hi t.size/\asNat s hi t.size<=t.size then some (put d (.str (t.extract (asNat s lo 0).toNat (asNat s hi t.size).toNat)) s) else none
  |_=>none
 |.mg d sz x lo hi=>match rowAt s (av s x) with
  |some (z0,xs)=>if z0=sz/\0<=asNat s lo 0/\asNat s lo 0<=asNat s hi xs.length/\asNat s hi xs.length<=xs.length then (match av s x with
   |.row m z _=>some (put d (.row m z ((xs.take (asNat s hi xs.length).toNat).drop (asNat s lo 0).toNat)) s)
   |.ref r p=>some (put d (.cut r p (asNat s lo 0).toNat (asNat s hi xs.length).toNat) s)
   |_=>none) else none
  |none=>none
 |.wq sz z x=>match av s x with
  |.cut r p lo hi=>(match look s r p with
   |some (.row .own z' xs)=>if z'=sz then some (iy r p (.row .own z' (Ed lo hi z xs)) s) else none
   |_=>none)
  |_=>none
 |.qW d f x as=>match av s x with
  |.agg cs=>if X.bare.iX (bT cs s).1=true then S2 d cs (bT cs s).2 (C f (.agg (bT cs s).1::gu (bT cs s).2 .dead as (as.map λ_=>.dead))) else none
  |_=>none
 |.mW d fz sz agg a=>match gw s (av s a) with
  |some cs=>if sz<=cs.length then ghost fz d (put d (bif agg then .agg (cs.take sz) else cs.headD .dead) s) else none
  |none=>none
 |.nY d f cs=>some (put d (.fn f (cs.map (av s))) s)
 |.len d x=>match rowAt s (av s x) with
  |some (z,xs)=>some (put d (.int .i64 xs.length) s)
  |none=>none
 |.sY d x=>match av s x with
  |.str t=>some (put d (.int .i64 t.size) s)
  |_=>none
 |.app d h sz bytes x y=>match (take .mv (av s x) s).1 with
  |.row .own z xs=>if z=sz then (match h with
   |.mv=>(match (bY (av (take .mv (av s x) s).2 y) (take .mv (av s x) s).2).1 with
    |.row .own z' ys=>if z'=sz/\(xs.length+ys.length)*bytes<=140737488355328 then some (put d (.row .own z (xs++ys)) (bY (av (take .mv (av s x) s).2 y) (take .mv (av s x) s).2).2) else none
    |_=>none)
   |_=>(match rowAt (take .mv (av s x) s).2 (av (take .mv (av s x) s).2 y) with
    |some (z',ys)=>if z'=sz/\(xs.length+ys.length)*bytes<=140737488355328/\fO ys=true then some (put d (.row .own z (xs++ys)) (take .mv (av s x) s).2) else none
    |none=>none)) else none
  |_=>none
 |.mn d xs=>match xs.map (av s) with
  |[.int k a,.int k' b]=>if k=k' then some (put d (.int k (if b<a then b else a)) s) else none
  |_=>none
 |.mx d xs=>match xs.map (av s) with
  |[.int k a,.int k' b]=>if k=k' then some (put d (.int k (if b>a then b else a)) s) else none
  |_=>none
 |.call d f as=>qX C f d as none s
 |.kg d x as=>match av s x with
  |.fn f _=>if ok f=true then qX C f d as (some x) s else none
  |_=>none
end M
namespace M
open Go
def cw.Sound[Bs](P:Program)(C:cw):Prop:=∀f xs o,C f xs=some o->AC P f xs λr ps=>r=o.1/\ps=o.2
section
variable [Bs]{P:Program}{C:cw}{ok:FuncId->Bool}
def Pk{s1:ah}{fv:Option AV}{f:FuncId}(h:wk s1 fv f=true):qY s1 fv f:=by
 unfold wk at h;unfold qY;cases fv with
 |none=>trivial
 |some x=>
  simp only at h⊢;unfold w9 at h;split at h;·rename_i h1;rw[h1];simpa using h
  ·cases h
def aeo{r:Nat}{p:Path}{s:ah}{n:Nat}{x y:X}{back:ze}(h:FH r p s n x=some (y,back)){go:X->(X->(ah->Prop)->Prop)->Prop}
  (hg:∀b':X->(ah->Prop)->Prop,(∀q K s',back q=some s'->K s'->b' q K)->go y b'):xx r p s n x go:=by
 unfold FH at h;unfold xx;split at h
 ·split at h
  ·rename_i z xs hl;obtain⟨rfl,rfl⟩:=C9 (iA h);simp only[hl];refine hg _ λq K s' hb hK=>?_;simp only at hb;split at hb
   ·split at hb;·rename_i hz;obtain rfl:=iA hb;exact⟨hz,hK⟩
    ·cases hb
   ·cases hb
  ·cases h
 ·split at h
  ·rename_i cs hl;split at h
   ·rename_i hc;obtain⟨rfl,rfl⟩:=C9 (iA h);simp only[hl];refine⟨hc,hg _ λq K s' hb hK=>?_⟩;simp only at hb;split at hb
    ·split at hb;·rename_i hz;obtain rfl:=iA hb;exact⟨hz,hK⟩
     ·cases hb
    ·cases hb
   ·cases h
  ·rename_i z xs hl;split at h
   ·rename_i e he;split at h
    ·rename_i hc;obtain⟨rfl,rfl⟩:=C9 (iA h);simp only[hl,he];refine⟨hc,hg _ λq K s' hb hK=>?_⟩;simp only at hb;split at hb
     ·split at hb
      ·split at hb;·rename_i hz hso;obtain rfl:=iA hb;exact⟨hz,hso,hK⟩
       ·cases hb
      ·cases hb
     ·cases hb
    ·cases h
   ·cases h
  ·cases h
 ·cases h
def Pg(hC:C.Sound P){f:FuncId}{d:Option Nat}{as:List (AV×PM)}{fv:Option AV}{s s':ah}(h:qX C f d as fv s=some s'){K:ah->Prop}(hK:K s'):tM P f d as fv s K:=by
 unfold qX at h;unfold tM;split at h
 ·rename_i hb;refine⟨hb,?_⟩;split at h
  ·rename_i hm;split at h
   ·rename_i hc;simp only[hm];refine⟨Pk hc,?_⟩;unfold qd at h;split at h;·rename_i o ho;obtain rfl:=iA h;exact(hC _ _ _ ho).mono λr ps ⟨h1,_⟩=>by rw[h1];exact hK
    ·cases h
   ·cases h
  ·rename_i x n hm;simp only[hm];unfold DH at h;split at h
   ·rename_i y back hmu;split at h
    ·rename_i hc;refine aeo hmu λb' hb'=>⟨hc.1,Pk hc.2,?_⟩;unfold BI at h;split at h
     ·rename_i o ho;split at h;·rename_i s2 hs2;obtain rfl:=iA h;refine(hC _ _ _ ho).mono λr ps ⟨h1,h2⟩=>?_;rw[h1,h2];exact hb' _ _ _ hs2 hK
      ·cases h
     ·cases h
    ·cases h
   ·cases h
 ·cases h
def PV(hC:C.Sound P)(hok:∀f,ok f=true->aB P f=true){o:cq}{s s':ah}(h:cF C ok o s=some s'){K:ah->Prop}(hK:K s'):aP P o s K:=by
 cases o with
 |mv d x=>cases h;exact hK
 |aN d h1 x=>cases h;exact hK
 |pick d c a b=>simp only[cF] at h;simp only[aP];split at h<;>first|(rename_i h1;rw[h1];cases h;exact hK)|cases h
 |un d op x=>
  simp only[cF] at h;split at h;·rename_i h1;cases h;exact⟨ajy h1,hK⟩
  ·cases h
 |bin d op x y=>
  simp only[cF] at h;split at h;·rename_i h1;cases h;exact⟨Xp h1,hK⟩
  ·cases h
 |beq d neg x y=>
  simp only[cF] at h;simp only[aP];split at h;·rename_i h1 h2;rw[h1,h2];cases h;exact hK
  ·cases h
 |r6 d neg x=>
  simp only[cF] at h;simp only[aP];split at h
  ·rename_i h1;rw[h1];split at h;·rename_i hc;cases h;intro b hb;rw[hb hc];cases neg<;>exact hK
   ·cases h
  ·cases h
 |tC d neg ks x y=>
  simp only[cF] at h;simp only[aP];split at h
  ·rename_i h1 h2;rw[h1,h2];split at h;·rename_i t ht;cases h;exact⟨t,ht,hK⟩
   ·cases h
  ·cases h
 |conv d k x=>
  simp only[cF] at h;simp only[aP];split at h;·rename_i h1;rw[h1];cases h;exact hK
  ·cases h
 |bytes d x=>
  simp only[cF] at h;simp only[aP];split at h;·rename_i h1;rw[h1];cases h;exact hK
  ·cases h
 |text d x=>
  simp only[cF] at h;simp only[aP];split at h
  ·rename_i xs h1;split at h
   ·rename_i h2;split at h;·rename_i l h3;cases h;exact⟨xs,h1,h2,l,Uf h3,hK⟩
    ·cases h
   ·cases h
  ·cases h
 |box d h1 x=>
  simp only[cF] at h;split at h;·rename_i h2;cases h;exact⟨h2,hK⟩
  ·cases h
 |new d z=>cases h;exact hK
 |build d h1 z ps=>
  simp only[cF] at h;split at h;·rename_i h2;cases h;exact⟨agp h2.1,TG h2.2,hK⟩
  ·cases h
 |lit d h1 sz ps=>
  simp only[cF] at h;split at h;·rename_i h2;cases h;refine⟨λx hx=>?_,hK⟩;have:=(oR.1 h2) x hx;simpa using this
  ·cases h
 |make d sz bytes z n=>
  simp only[cF] at h;simp only[aP];split at h
  ·rename_i h1;rw[h1];split at h;·rename_i h2;cases h;exact⟨h2.1,h2.2,hK⟩
   ·cases h
  ·cases h
 |load d sz agg a=>
  simp only[cF] at h;simp only[aP];split at h
  ·rename_i cs h1;split at h;·rename_i h2;cases h;exact⟨cs,h1,h2,hK⟩
   ·cases h
  ·cases h
 |store sz h1 a x=>
  simp only[cF] at h;simp only[aP];split at h
  ·rename_i h2;refine⟨h2,?_⟩;split at h
   ·rename_i h3;rw[h3];split at h;·rename_i h4;cases h;exact⟨agE h4,hK⟩
    ·cases h
   ·cases h
  ·cases h
 |dG d x=>simp only[cF] at h;simp only[aP];split at h<;>first|(rename_i h1;rw[h1];cases h;exact hK)|cases h
 |pn d x off=>simp only[cF] at h;simp only[aP];split at h<;>first|(rename_i h1;rw[h1];cases h;exact hK)|cases h
 |rA d x off sz agg=>
  simp only[cF] at h;simp only[aP];split at h
  ·rename_i h1;rw[h1];split at h;·rename_i h2;cases h;exact⟨h2,hK⟩
   ·cases h
  ·cases h
 |eX d sz x i=>
  simp only[cF] at h;simp only[aP];split at h
  ·rename_i h1;rw[h1];split at h
   ·rename_i h2;refine⟨h2,?_⟩;split at h
    ·rename_i h3;rw[h3];split at h
     ·rename_i h4;refine⟨h4,?_⟩;split at h;·rename_i e h5;cases h;exact⟨e,h5,hK⟩
      ·cases h
     ·cases h
    ·rename_i h3;rw[h3];simp only;split at h
     ·rename_i h4;rw[h4];split at h;·rename_i h5;cases h;exact⟨h5.1,h5.2,hK⟩
      ·cases h
     ·cases h
    ·rename_i h3;rw[h3];simp only;split at h
     ·rename_i h4;rw[h4];split at h;·rename_i h5;cases h;exact⟨h5.1,h5.2,hK⟩
      ·cases h
     ·cases h
    ·cases h
   ·cases h
  ·cases h
 |dm d x i=>
  simp only[cF] at h;simp only[aP];split at h
  ·rename_i h1 h2;rw[h1,h2];split at h
   ·rename_i h3;refine⟨h3,?_⟩;split at h;·rename_i b h4;cases h;exact⟨b,h4,hK⟩
    ·cases h
   ·cases h
  ·cases h
 |qR d n sz agg x i=>
  simp only[cF] at h;simp only[aP];split at h
  ·rename_i h1 h2;rw[h1,h2];split at h;·rename_i h3;cases h;exact⟨h3.1,h3.2.1,h3.2.2,hK⟩
   ·cases h
  ·cases h
 |ext d x i=>
  simp only[cF] at h;simp only[aP];split at h
  ·rename_i h1;rw[h1];split at h;·rename_i h3;cases h;exact⟨h3,hK⟩
   ·cases h
  ·cases h
 |gd d x lo hi=>
  simp only[cF] at h;simp only[aP];split at h
  ·rename_i h1;rw[h1];split at h;·rename_i h3;cases h;exact⟨h3.1,h3.2.1,h3.2.2,hK⟩
   ·cases h
  ·cases h
 |mg d sz x lo hi=>
  simp only[cF] at h;simp only[aP];split at h
  ·rename_i z0 xs h1;split at h;·rename_i h2;obtain⟨rfl,h2,h3,h4⟩:=h2;refine⟨xs,h1,h2,h3,h4,?_⟩;split at h<;>first|(rename_i h5;rw[h5];cases h;exact hK)|cases h
   ·cases h
  ·cases h
 |wq sz z x=>
  simp only[cF] at h;simp only[aP];split at h
  ·rename_i h1;rw[h1];simp only;split at h
   ·rename_i h2;rw[h2];split at h;·rename_i h3;cases h;exact⟨h3,hK⟩
    ·cases h
   ·cases h
  ·cases h
 |qW d f x as=>
  simp only[cF] at h;simp only[aP];split at h
  ·rename_i cs h1;rw[h1];split at h
   ·rename_i h2;refine⟨h2,?_⟩;unfold S2 at h;split at h
    ·rename_i r ys ps ho;split at h
     ·rename_i h3;split at h;·rename_i s2 h4;cases h;exact(hC _ _ _ ho).mono λr' ps' ⟨e1,e2⟩=>by rw[e1,e2];exact⟨h3,_,h4,hK⟩
      ·cases h
     ·cases h
    ·cases h
   ·cases h
  ·cases h
 |mW d fz sz agg a=>
  simp only[cF] at h;simp only[aP];split at h
  ·rename_i cs h1;split at h;·rename_i h2;exact⟨cs,h1,h2,s',h,hK⟩
   ·cases h
  ·cases h
 |nY d f cs=>cases h;exact hK
 |len d x=>
  simp only[cF] at h;simp only[aP];split at h;·rename_i z xs h1;cases h;exact⟨z,xs,h1,hK⟩
  ·cases h
 |sY d x=>
  simp only[cF] at h;simp only[aP];split at h;·rename_i h1;rw[h1];cases h;exact hK
  ·cases h
 |app d h1 sz bytes x y=>
  simp only[cF] at h;simp only[aP];split at h
  ·rename_i z xs h2;rw[h2];split at h
   ·rename_i h3;refine⟨h3,?_⟩;cases h1 with
    |mv=>
     simp only at h⊢;split at h
     ·rename_i h4;simp only[h4];split at h;·rename_i h5;cases h;exact⟨h5.1,h5.2,hK⟩
      ·cases h
     ·cases h
    |al=>
     simp only at h⊢;split at h
     ·rename_i z' ys h4;split at h;·rename_i h5;obtain⟨rfl,h5,h6⟩:=h5;cases h;exact⟨ys,h4,h5,MI h6,hK⟩
      ·cases h
     ·cases h
    |aK=>
     simp only at h⊢;split at h
     ·rename_i z' ys h4;split at h;·rename_i h5;obtain⟨rfl,h5,h6⟩:=h5;cases h;exact⟨ys,h4,h5,MI h6,hK⟩
      ·cases h
     ·cases h
   ·cases h
  ·cases h
 |mn d xs=>
  simp only[cF] at h;simp only[aP];split at h
  ·rename_i h1;rw[h1];split at h;·rename_i h2;cases h;exact⟨h2,hK⟩
   ·cases h
  ·cases h
 |mx d xs=>
  simp only[cF] at h;simp only[aP];split at h
  ·rename_i h1;rw[h1];split at h;·rename_i h2;cases h;exact⟨h2,hK⟩
   ·cases h
  ·cases h
 |call d f as=>exact Pg hC h hK
 |kg d x as=>
  simp only[cF] at h;simp only[aP];split at h
  ·rename_i h1;rw[h1];split at h;·rename_i h2;exact⟨hok _ h2,Pg hC h hK⟩
   ·cases h
  ·cases h
end
end M
namespace M
open Go
mutual
def X.eM:X->X->Bool
 |.dead,.dead=>true
 |.int k n,.int k' n'=>decide (k=k') && decide (n=n')
 |.bool a,.bool b=>a==b
 |.str s,.str t=>decide (s=t)
 |.row m z xs,.row m' z' ys=>decide (m=m') && z==z' && X.rq xs ys
 |.ptr m xs,.ptr m' ys=>decide (m=m') && X.lM xs ys
 |.agg xs,.agg ys=>X.lM xs ys
 |.ak xs,.ak ys=>X.lM xs ys
 |.fn f xs,.fn g ys=>f==g && X.lM xs ys
 |.ref s p,.ref t q=>s==t && p==q
 |.ax s p i c,.ax t q j d=>s==t && p==q && i==j && c==d
 |.cut s p i c,.cut t q j d=>s==t && p==q && i==j && c==d
 |_,_=>false
def X.lM:List X->List X->Bool
 |[],[]=>true
 |x::l,y::r=>X.eM x y && X.lM l r
 |_,_=>false
def X.rq:List (List X)->List (List X)->Bool
 |[],[]=>true
 |x::l,y::r=>X.lM x y && X.rq l r
 |_,_=>false
end
mutual
def X.P3:∀{x y:X},X.eM x y=true->x=y
 |.dead,y,h=>by cases y<;>simp_all[X.eM]
 |.int k n,y,h=>by cases y<;>simp_all[X.eM]
 |.bool a,y,h=>by cases y<;>simp_all[X.eM]
 |.str s,y,h=>by cases y<;>simp_all[X.eM]
 |.row m z xs,y,h=>by cases y<;>simp only[X.eM,az,aY,eu,fA] at h;rw[h.1.1,h.1.2,X.PZ h.2]
 |.ptr m xs,y,h=>by cases y<;>simp only[X.eM,az,aY,eu,fA] at h;rw[h.1,X.wA h.2]
 |.agg xs,y,h=>by cases y<;>simp only[X.eM,fA] at h;rw[X.wA h]
 |.ak xs,y,h=>by cases y<;>simp only[X.eM,fA] at h;rw[X.wA h]
 |.fn f xs,y,h=>by cases y<;>simp only[X.eM,az,eu,fA] at h;rw[h.1,X.wA h.2]
 |.ref s p,y,h=>by cases y<;>simp_all[X.eM]
 |.ax s p i c,y,h=>by cases y<;>simp_all[X.eM]
 |.cut s p i c,y,h=>by cases y<;>simp_all[X.eM]
def X.wA:∀{x y:List X},X.lM x y=true->x=y
 |[],[],_=>rfl
 |[],_::_,h=>by simp[X.lM] at h
 |_::_,[],h=>by simp[X.lM] at h
 |x::l,y::r,h=>by simp only[X.lM,az] at h;rw[X.P3 h.1,X.wA h.2]
def X.PZ:∀{x y:List (List X)},X.rq x y=true->x=y
 |[],[],_=>rfl
 |[],_::_,h=>by simp[X.rq] at h
 |_::_,[],h=>by simp[X.rq] at h
 |x::l,y::r,h=>by simp only[X.rq,az] at h;rw[X.wA h.1,X.PZ h.2]
end
mutual
def X.P4:∀x:X,X.eM x x=true
 |.dead=>rfl
 |.int k n=>by simp[X.eM]
 |.bool a=>by simp[X.eM]
 |.str s=>by simp[X.eM]
 |.row m z xs=>by simp[X.eM,X.P0 xs]
 |.ptr m xs=>by simp[X.eM,X.wB xs]
 |.agg xs=>by simp[X.eM,X.wB xs]
 |.ak xs=>by simp[X.eM,X.wB xs]
 |.fn f xs=>by simp[X.eM,X.wB xs]
 |.ref s p=>by simp[X.eM]
 |.ax s p i c=>by simp[X.eM]
 |.cut s p i c=>by simp[X.eM]
def X.wB:∀x:List X,X.lM x x=true
 |[]=>rfl
 |x::l=>by simp[X.lM,X.P4 x,X.wB l]
def X.P0:∀x:List (List X),X.rq x x=true
 |[]=>rfl
 |x::l=>by simp[X.rq,X.wB x,X.P0 l]
end
def rj:ah->ah->Bool
 |[],[]=>true
 |(k,x)::l,(k',y)::r=>k==k' && X.eM x y && rj l r
 |_,_=>false
def PY:∀{x y:ah},rj x y=true->x=y
 |[],[],_=>rfl
 |[],_::_,h=>by simp[rj] at h
 |_::_,[],h=>by simp[rj] at h
 |(k,x)::l,(k',y)::r,h=>by simp only[rj,az,eu] at h;rw[h.1.1,X.P3 h.1.2,PY h.2]
def same:Option ah->Option ah->Option ah
 |some a,some b=>if rj a b=true then some a else none
 |_,_=>none
def eG(C:cw)(ok:FuncId->Bool)(g:G)(s:ah):Option ah:=match g with
 |⟨none,o⟩=>cF C ok o s
 |⟨some (t,b),o⟩=>match get s t with
  |.bool v=>if v=b then cF C ok o ((t,.bool b)::s) else some (fM o.dst (.ak []) ((t,.bool (!b))::s))
  |.ak []=>some (fM o.dst (.ak []) s)
  |_=>none
def jL(C:cw)(ok:FuncId->Bool):List G->ah->Option ah
 |[],s=>some s
 |g::l,s=>(eG C ok g s).bind (jL C ok l)
def eD(C:cw)(ok:FuncId->Bool):DT->ah->Option ah
 |.nil ks,s=>some (keep ks s)
 |.step _ g t,s=>(eG C ok g s).bind (eD C ok t)
 |.alt a b,s=>same (eD C ok a s) (eD C ok b s)
 |.kp ks t,s=>eD C ok t (keep ks s)
abbrev cv:=Option (Ex×ah)
def fu(k:ah->cv):cv->cv
 |some (.normal,s)=>k s
 |some (.exit i,s)=>some (.exit i,s)
 |some (.ret,s)=>some (.ret,s)
 |none=>none
def kR(id:Nat):cv->cv
 |some (.exit i,s)=>if i=id then some (.normal,s) else some (.exit i,s)
 |some (.normal,s)=>some (.normal,s)
 |some (.ret,s)=>some (.ret,s)
 |none=>none
def lf(ks:List Nat):cv->cv
 |some (.normal,s)=>some (.normal,keep ks s)
 |some (.exit i,s)=>some (.exit i,s)
 |some (.ret,s)=>some (.ret,s)
 |none=>none
def iK:Option ah->cv
 |some s=>some (.normal,s)
 |none=>none
def iter(f:ah->cv):Nat->ah->cv
 |0,_=>none
 |n+1,s=>fu (iter f n) (f s)
def eA(C:cw)(ok:FuncId->Bool)(N:Nat):A->ah->cv
 |.skip,s=>some (.normal,s)
 |.ret,s=>some (.ret,s)
 |.exit id,s=>some (.exit id,s)
 |.ops l,s=>iK (jL C ok l s)
 |.draw t,s=>iK (eD C ok t s)
 |.seq a b,s=>fu (eA C ok N b) (eA C ok N a s)
 |.cond c a b,s=>match av s c with
  |.bool t=>if t=true then eA C ok N a s else eA C ok N b s
  |_=>none
 |.block id b,s=>kR id (eA C ok N b s)
 |.loop b,s=>iter (eA C ok N b) N s
 |.pk ks b,s=>lf ks (eA C ok N b s)
structure Fn where
 body:A
 rs:List RV
 n:Nat
abbrev iD:=FuncId->Option Fn
def fin(F:Fn):cv->Option Out
 |some (.exit _,_)=>none
 |some (_,s)=>if X.clean.cz (dV F.rs s).1=true/\(dV F.rs s).1.any X.lX=false then some (uK (dV F.rs s).1,qc 0 F.n (dV F.rs s).2) else none
 |none=>none
def eF(C:cw)(ok:FuncId->Bool)(N:Nat)(F:Fn)(xs:List X):Option Out:=
 if xs.length=F.n then fin F (eA C ok N F.body (mG xs)) else none
def aq(T:iD)(f:FuncId):Bool:=(T f).isSome
def exec(L:cw)(T:iD):Nat->cw
 |0,_,_=>none
 |n+1,f,xs=>match T f with
  |some F=>eF (exec L T n) (aq T) n F xs
  |none=>L f xs
section
variable [Bs]{P:Program}{C:cw}{ok:FuncId->Bool}
def PT(hC:C.Sound P)(hok:∀f,ok f=true->aB P f=true){g:G}{s s':ah}(h:eG C ok g s=some s'){K:ah->Prop}(hK:K s'):oX P g s K:=by
 obtain⟨gg,o⟩:=g;cases gg with
 |none=>exact PV hC hok h hK
 |some tb=>
  obtain⟨t,b⟩:=tb;simp only[eG] at h;simp only[oX];split at h
  ·rename_i v hv;rw[hv];split at h;·rename_i kZ;exact⟨λ_=>PV hC hok h hK,λhn=>by subst kZ;cases v<;>simp at hn⟩
   ·rename_i kZ;exact⟨λhh=>(kZ hh).elim,λ_=>by cases h;exact hK⟩
  ·rename_i hv;rw[hv];cases h;exact hK
  ·cases h
def PX(hC:C.Sound P)(hok:∀f,ok f=true->aB P f=true):∀{l:List G} {s s':ah},jL C ok l s=some s'->∀{Q:Ex->ah->Prop},Q .normal s'->ke P l s Q
 |[],s,s',h,Q,hQ=>by cases h;exact hQ
 |g::l,s,s',h,Q,hQ=>by
  simp only[jL] at h;cases h1:eG C ok g s with
  |none=>rw[h1] at h;cases h
  |some s1=>rw[h1] at h;exact PT hC hok h1 (PX hC hok h hQ)
def zR(hC:C.Sound P)(hok:∀f,ok f=true->aB P f=true):∀{t:DT} {s s':ah},eD C ok t s=some s'->∀{Q:Ex->ah->Prop},Q .normal s'->ia P t s Q
 |.nil ks,s,s',h,Q,hQ=>by cases h;exact hQ
 |.step i g t,s,s',h,Q,hQ=>by
  simp only[eD] at h;cases h1:eG C ok g s with
  |none=>rw[h1] at h;cases h
  |some s1=>rw[h1] at h;exact PT hC hok h1 (zR hC hok h hQ)
 |.alt a b,s,s',h,Q,hQ=>by
  simp only[eD] at h;unfold same at h;split at h
  ·rename_i x y hx hy;split at h;·rename_i he;obtain rfl:=PY he;cases h;exact⟨zR hC hok hx hQ,zR hC hok hy hQ⟩
   ·cases h
  ·cases h
 |.kp ks t,s,s',h,Q,hQ=>zR (t:=t) hC hok h hQ
def T5{k:ah->cv}{r:cv}{e:Ex}{s:ah}(h:fu k r=some (e,s)):(∃s',r=some (.normal,s')/\k s'=some (e,s))\/(e≠.normal/\r=some (e,s)):=by
 unfold fu at h;split at h;·exact .inl ⟨_,rfl,h⟩
 ·cases h;exact .inr ⟨by simp,rfl⟩
 ·cases h;exact .inr ⟨by simp,rfl⟩
 ·cases h
def YU(hC:C.Sound P)(hok:∀f,ok f=true->aB P f=true){N:Nat}:∀{t:A} {s s':ah} {e:Ex},eA C ok N t s=some (e,s')->∀{Q:Ex->ah->Prop},Q e s'->eL P t s Q:=by
 intro t;induction t with
 |skip=>intro s s' e h Q hQ;cases h;exact hQ
 |ret=>intro s s' e h Q hQ;cases h;exact hQ
 |exit id=>intro s s' e h Q hQ;cases h;exact hQ
 |ops l=>
  intro s s' e h Q hQ;simp only[eA] at h;unfold iK at h;split at h;·rename_i s1 h1;cases h;exact PX hC hok h1 hQ
  ·cases h
 |draw l=>
  intro s s' e h Q hQ;simp only[eA] at h;unfold iK at h;split at h;·rename_i s1 h1;cases h;exact zR hC hok h1 hQ
  ·cases h
 |seq a b iI jU=>
  intro s s' e h Q hQ;simp only[eA] at h;rcases T5 h with ⟨s1,h1,h2⟩|⟨hne,h1⟩;·exact iI h1 (jU h2 hQ)
  ·refine iI h1 ?_;cases e with
   |normal=>exact(hne rfl).elim
   |exit i=>exact hQ
   |ret=>exact hQ
 |cond c a b iI jU=>
  intro s s' e h Q hQ;simp only[eA] at h;simp only[eL];split at h
  ·rename_i t ht;rw[ht];split at h;·rename_i h1;exact⟨λ_=>iI h hQ,λh2=>by rw[h1] at h2;cases h2⟩
   ·rename_i h1;exact⟨λh2=>(h1 h2).elim,λ_=>jU h hQ⟩
  ·cases h
 |block id b ih=>
  intro s s' e h Q hQ;simp only[eA] at h;unfold kR at h;split at h
  ·rename_i i s1 h1;split at h;·rename_i hi;cases h;refine ih h1 ?_;subst hi;simpa using hQ
   ·rename_i hi;cases h;refine ih h1 ?_;have:(i==id)=false:=by simpa using hi
    simpa [this] using hQ
  ·rename_i s1 h1;cases h;exact ih h1 hQ
  ·rename_i s1 h1;cases h;exact ih h1 hQ
  ·cases h
 |loop b ih=>
  intro s s' e h Q hQ;simp only[eA] at h;refine⟨λn s1=>iter (eA C ok N b) n s1=some (e,s'),⟨N,h⟩,λn s1 h1=>?_⟩;cases n with
  |zero=>cases h1
  |succ n=>
   simp only[iter] at h1;rcases T5 h1 with ⟨s2,h2,h3⟩|⟨hne,h2⟩;·exact ih h2 ⟨n,Nat.lt_succ_self n,h3⟩
   ·refine ih h2 ?_;cases e with
    |normal=>exact(hne rfl).elim
    |exit i=>exact hQ
    |ret=>exact hQ
 |pk ks b ih=>
  intro s s' e h Q hQ;simp only[eA] at h;unfold lf at h;split at h;·rename_i s1 h1;cases h;exact ih h1 hQ
  ·rename_i s1 h1;cases h;exact ih h1 hQ
  ·rename_i s1 h1;cases h;exact ih h1 hQ
  ·cases h
structure iD.Ok (P:Program) (T:iD):Prop where
 told:∀f F,T f=some F->Told P f F.body F.rs F.n
 ok:∀f F,T f=some F->aB P f=true
def P6{L:cw}{T:iD}(hL:L.Sound P)(hT:T.Ok P):∀n,(exec L T n).Sound P
 |0=>λf xs o h=>by cases h
 |n+1=>λf xs o h=>by
  simp only[exec] at h;split at h
  ·rename_i F hF;unfold eF at h;split at h
   ·rename_i hn;refine(hT.told f F hF).ac hn ?_;unfold fin at h;split at h;·cases h
    ·rename_i e s' h1 h2;split at h
     ·rename_i hc;have h2:eA (exec L T n) (aq T) n F.body (mG xs)=some (e,s'):=h2;cases h;refine YU (P6 hL hT n) (λf hf=>?_) h2 ?_;·unfold aq at hf;obtain⟨F',hF'⟩:=yW.1 hf;exact hT.ok f F' hF'
      ·cases e with
       |exit i=>exact(h1 i rfl).elim
       |normal=>exact⟨hc.1,λx hx=>by have:=NN.1 hc.2 x hx;simpa using this,rfl,rfl⟩
       |ret=>exact⟨hc.1,λx hx=>by have:=NN.1 hc.2 x hx;simpa using this,rfl,rfl⟩
     ·cases h
    ·cases h
   ·cases h
  ·exact hL f xs o h
end
end M
