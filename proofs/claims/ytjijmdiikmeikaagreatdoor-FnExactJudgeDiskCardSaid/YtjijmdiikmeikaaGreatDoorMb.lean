/- A machine of values for loaded Go functions, sound for the calculus of calls; part 2; no conditions. -/
import Derived.Test.YtjijmdiikmeikaaGreatDoorMa
import Derived.Laws.IdiomCopy
import Derived.Lib.SliceRun
import Derived.Laws.Cover3
set_option linter.defProp false
set_option linter.unusedSectionVars false
set_option linter.unusedVariables false
set_option linter.unusedSimpArgs false
namespace M
open Go Go.RowKit
variable [Bs]
section
variable {P:Program}{c:Ctx}{G:Nat->C}{zl:Nat->Nat->Prop}{s:ah}{a:Act}{w:World}{o:Oper}{K:ah->Prop}
def ahE{zb:Nat->Nat->Prop}(h:Inv w zl zb G s){v:Value}{r:Nat}{p:Path}{i k:Nat}(hr:(C.aC v r p i k).rf G){l:List C}(hs:storable s r p i k (l.map C.er))(hl:∀x∈l,cQ x.er=true->x.cQ):
  ∃g k0 d,v=.pointer (some ⟨g,k0,none⟩)/\(G r).sub p=some d/\∀q x,l[q]?=some x->fk d i (k+q) x g (k0+q):=by
 obtain⟨d,hd,hp⟩:=hr;unfold storable look at hs;rw[<-h.er,C.gD,hd] at hs;simp only[cj] at hs;rcases hp with ⟨m,sz,g,o,len,cap,e,rfl,rfl⟩|⟨m,g,o,n,f,rfl,rfl,rfl⟩
 ·refine⟨g,o+i*sz+k,_,rfl,hd,λq x hq=>?_⟩;simp only[C.er] at hs;cases m with
  |own=>
   simp only[C.cV] at hs;split at hs
   ·rename_i e0 kU;split at kU
    ·rename_i hi;injection kU with kU
     obtain⟨h1,h2⟩:=hs;have hlen:e0.length=sz:=by rw[<-kU];simp
     have nZ:=(aF.1 hq).1;simp only[dx] at h1;have:=fk.row (d:=.row .own sz (some (g,o,none)) len cap e) (i:=i) (c:=k+q) (y:=x) rfl hi (by omega) (hl x (lE hq) (GL h2 _ (fK (lE hq))));rwa [show o+i*sz+(k+q)=o+i*sz+k+q by omega] at this
    ·cases kU
   ·exact hs.elim
  |sl=>exact hs.elim
  |af=>exact hs.elim
 ·refine⟨g,o+k,_,rfl,hd,λq x hq=>?_⟩;simp only[C.er] at hs;cases m with
  |own=>have nZ:=(aF.1 hq).1;simp only[dx,uT] at hs;have:=fk.ptr (d:=.ptr .own g o n f) (i:=0) (c:=k+q) (y:=x) rfl rfl (by omega);rwa [show o+(k+q)=o+k+q by omega] at this
  |sl=>exact hs.elim
  |af=>exact hs.elim
def SN{x:C}(h:cQ x.er=true):x.cQ:=by cases x<;>first|trivial|(simp[C.er,cQ] at h)
def agH(h:St c G zl s a w){sz:Nat}{tk:Tk}{ty:TypeId}{x y:AV}{x' y':Operand}(ho:o.op=.store ty y' x')(hsz:∃i,P.info? ty=some i/\i.size=sz)(h0:0<sz)(hd:o.dst=none)(hx:aO x' x=true)(hy:aO y' y=true)
  (hK:aR P (.store sz tk y x) s K):Good P c o a w K:=by
 obtain⟨p,e1,e2,e3⟩:=ck h hx;obtain⟨q,G1,f1,f2,f3,f4⟩:=qd tk h.inv e3;obtain⟨k1,k2⟩:=hK;rw[e1] at f1 f4;have h1:=h.xP f4;obtain⟨u,u1,u2,u3⟩:=ck h1 hy;rw[<-u1] at k2;cases u with
 |aC v r pp i k=>
  simp only[C.er] at k2;obtain⟨k2,k3⟩:=k2;rw[<-f1,<-sS] at k1 k2 k3;have hsh:=GK f4.rf;have hT:=bJ.flat (bJ.one f4) (λx hx=>by rw[fy] at hx;subst hx;exact hsh);simp only[jL,Nd,lH] at hT;obtain⟨g,k0,d,hv,hsub,hsp⟩:=ahE h1.inv u3.rf k2 (λx _ hs=>SN hs);have hlen:q.cells.length=sz:=by simpa using k1
  obtain⟨w',G',j1,j2,j3,j4,j5⟩:=SW (P:=P) r pp i (k0:=k0) q.cells.length q.cells rfl k 0 h1.inv hsub (by simpa using hsp) ⟨λx hx=>⟨(vu hsh f4.ok hx).1,(vu hsh f4.ok hx).2,IL f4.rf hx,(hT.all x hx).2.1,(hT.all x hx).2.2.1⟩,hT.apart⟩;have hcv:=C9 (by omega) hsh;refine⟨undef,w',.inr ⟨?_,rfl⟩,G',zl,_,k3,?_⟩
  ·have Jy:a.eval y'=.pointer (some ⟨g,k0,none⟩):=by rw[<-u2];exact hv
   obtain⟨ii,hi,kq⟩:=hsz;have hxv:a.eval x'=q.val:=by rw[f2,e2]
   simp[execOp,ho,Jy,hxv,Instr.storeAt,Instr.sureAddr,storeVar,hcv,Go.sizeOf,typeInfo,hi,kq,hlen,j1]
  ·rw[hd];refine h.move j2 (λt=>(j3 t).trans (f4.val t)) j5 (λb k' hs=>?_) (λt b k' hf=>?_)
   ·obtain⟨rfl,hs1,hs2⟩:=hs;simp only[nK] at hs1 hs2;have hlt:k' - k0<q.cells.length:=by omega
    have:=(hsp (k' - k0) _ (cw hlt)).fp;rw[show k0+(k' - k0)=k' by omega] at this;exact h1.tr.dom r _ _ (C.gE pp hsub (h1.inv.ok r) this)
   ·refine .inl ?_;rcases j4 t b k' hf with ⟨x,hx,hf⟩|hf;·exact(hT.all x hx).2.2.2 b k' hf
    ·exact⟨t,f4.mono t b k' hf⟩
 |_=>exact k2.elim
def cN(len z:Nat)(e:Nat->Nat->C):List (List C):=(List.range len).map λi=>(List.range z).map λj=>e i j
def tM(len z:Nat)(e:Nat->Nat->C):∀x∈cN len z e,x.length=z:=λx hx=>by obtain⟨i,_,rfl⟩:=bp.1 hx;simp
def Q5(len z:Nat)(e:Nat->Nat->C):(cN len z e).map (λx=>x.map C.er)=dH z len e:=by simp only[cN,dH,cK];refine b9 λi _=>?_;show ((List.range z).map λj=>e i j).map C.er=_;rw[cK];rfl
def mY{len z:Nat}{e:Nat->Nat->C}{x:C}(hx:x∈(cN len z e).flatten):∃i j,i<len/\j<z/\x=e i j:=by obtain⟨l,hl,hx⟩:=Hs.1 hx;obtain⟨i,hi,rfl⟩:=bp.1 hl;obtain⟨j,hj,rfl⟩:=bp.1 hx;exact⟨i,j,by simpa using hi,by simpa using hj,rfl⟩
def Q4{len z:Nat}{e:Nat->Nat->C}{q:Nat}{x:C}(h0:0<z)(h:(cN len z e).flatten[q]?=some x):q / z<len/\q%z<z/\x=e (q / z) (q%z):=by
 have hq:=(aF.1 h).1;rw[qS (tM len z e)] at hq;have hl:(cN len z e).length=len:=by simp[cN]
 rw[hl] at hq;have h1:q%z<z:=sA _ h0;have h2:q / z<len:=T4 (by rw[qj];exact hq);have zm:q=q / z*z+q%z:=by have:=CE q z;rw[qj] at this;omega
 have:=yS (tM len z e) (q / z) (q%z) (by rw[hl];exact h2) h1;rw[<-zm,h] at this;simp only[cN,C.cV,ay h2,gj,ay h1] at this;exact⟨h2,h1,gZ this⟩
def Ks{Z:Md->Nat->Nat->Prop}{z len cap:Nat}{A:Option Ad}{e:Nat->Nat->C}(h:(C.row .own z A len cap e).ok w Z):(cN len z e).flatten.Pairwise λa b=>∀x k,a.fp x k->¬b.fp x k:=by
 obtain⟨h1,h2,h3,h4,h5⟩:=h;refine List.pairwise_flatten.2 ⟨λl hl=>?_,?_⟩
 ·obtain⟨i,hi,rfl⟩:=bp.1 hl;have hi:i<len:=by simpa using hi
  refine Cz.2 (HC (R:=λa b=>a<b) ?_ MS);intro j j' hj hj' hlt b k hf;exact(h5 i j hi (by simpa using hj) b k hf).2 i j' hi (by simpa using hj') (by simp;omega)
 ·refine Cz.2 (HC (R:=λa b=>a<b) ?_ MS);intro i i' hi hi' hlt x hx y hy b k hf;obtain⟨j,hj,rfl⟩:=bp.1 hx;obtain⟨j',hj',rfl⟩:=bp.1 hy;exact(h5 i j (by simpa using hi) (by simpa using hj) b k hf).2 i' j' (by simpa using hi') (by simpa using hj') (by simp;omega)
def Jh{w1:World}{z len cap:Nat}{A:Option Ad}{e:Nat->Nat->C}(h0:0<z)(hc:∀i j,i<len->j<z->∃g o,A=some (g,o,none)/\w1.cell? ⟨g,o+i*z+j,none⟩=some (e i j).val):
  (Builtin.firstCells z len (.slice (A.map λq=>⟨q.1,q.2.1,q.2.2⟩) len cap)).run P w1=.ok ((cN len z e).flatten.map C.val).toArray w1/\(A=none->len=0):=by
 cases A with
 |none=>
  have hl:len=0:=by
   rcases Nat.eq_zero_or_pos len with h|h;·exact h
   ·obtain⟨g,o,hA,_⟩:=hc 0 0 h h0;cases hA
  subst hl;exact⟨run_firstCells_none w1 z 0 0 cap,λ_=>rfl⟩
 |some q=>
  refine⟨?_,λh=>by cases h⟩;refine run_firstCells_some w1 z len ⟨q.1,q.2.1,q.2.2⟩ len cap _ ?_ λj v hj=>?_;·rw[dx,qS (tM len z e)];simp[cN]
  ·rw[cY] at hj;cases hk:(cN len z e).flatten[j]? with
   |none=>rw[hk] at hj;cases hj
   |some x=>
    rw[hk] at hj;obtain⟨a1,a2,rfl⟩:=Q4 h0 hk;injection hj with hj
    obtain⟨g,o,hA,hcl⟩:=hc _ _ a1 a2;injection hA with hA
    subst hA;have zm:j=j / z*z+j%z:=by have:=CE j z;rw[qj] at this;omega
    rw[qu,<-hj,<-hcl];congr 2;show o+j=_;omega
end
end M
namespace M
open Go Go.RowKit
variable [Bs]
section
variable {P:Program}
def bJ.sub{w:World}{zl zb:Nat->Nat->Prop}{G G1:Nat->C}{s1:ah}{l ks:List C}(hT:bJ w zl zb G l G1 s1)(hok:∀x∈ks,x.ok w (Zf zl zb))(cr:∀x∈ks,∀b k,x.fp b k->∃y∈l,y.fp b k)
  (gP:ks.Pairwise λa b=>∀x k,a.fp x k->¬b.fp x k):bJ w zl zb G ks G1 s1 where
 inv:=hT.inv
 all:=λx hx=>⟨hok x hx,λt b k hf=>by obtain⟨y,hy,hf⟩:=cr x hx b k hf;exact(hT.all y hy).2.1 t b k hf,λb k hf=>by obtain⟨y,hy,hf⟩:=cr x hx b k hf;exact(hT.all y hy).2.2.1 b k hf,
  λb k hf=>by obtain⟨y,hy,hf⟩:=cr x hx b k hf;exact(hT.all y hy).2.2.2 b k hf⟩
 apart:=gP
 val:=hT.val
 mono:=hT.mono
def Ext.setCells(b:Nat):∀(vs:List Value) (o:Nat) (w:World),Ext (λg k=>g=b/\o<=k/\k<o+vs.length) w (w.setCells b o vs)
 |[],o,w=>Ext.refl _ _
 |v::vs,o,w=>by rw[World.setCells];refine((Ext.setCell w b o v).mono (S':=λg k=>g=b/\o<=k/\k<o+(v::vs).length) (λg k hs _=>⟨hs.1,by omega,by simp only[cR];omega⟩)).trans (Ext.setCells b vs (o+1) _) λg k hs _=>⟨hs.1,by omega,by simp only[cR];omega⟩
def ahi{w:World}{t u ty e e':TypeId}{i:TypeInfo}(ht:P.underlying t=some (.slice e))(hu:P.underlying u=some (.slice e'))(hi:P.info? e=some i){A B:Option Addr}{len cap m cap2:Nat}{news:List Value}(h:len+m<=cap)
  (hx:(Builtin.firstCells i.size m (.slice B m cap2)).run P w=.ok news.toArray w):
  (Builtin.append_ #[t,u] ty #[.slice A len cap,.slice B m cap2]).run P w=match A with
   |some a=>((storeCells (a.add (len*i.size)) news).run P w).andThen λ_ w'=>.ok (.slice (some a) (len+m) cap) w'
   |none=>.ok (.slice none (len+m) cap) w:=by
 cases A with
 |none=>simp[Builtin.append_,run_underlying ht,run_underlying hu,Go.sizeOf,typeInfo,hi,Builtin.lenOf,h,hx]
 |some a=>simp[Builtin.append_,run_underlying ht,run_underlying hu,Go.sizeOf,typeInfo,hi,Builtin.lenOf,h,hx]
def ahh{w:World}{t u ty e e':TypeId}{i:TypeInfo}{z:Value}(ht:P.underlying t=some (.slice e))(hu:P.underlying u=some (.slice e'))(hi:P.info? e=some i)(hz:i.zero=some z){A B:Option Addr}{len cap m cap2:Nat}{olds news:List Value}(h:¬len+m<=cap)
  (h63:len+m<=9223372036854775807)(hfit:Builtin.nextslicecap (len+m) cap*i.bytes<=281474976710656)
  (hx:(Builtin.firstCells i.size m (.slice B m cap2)).run P w.drew=.ok news.toArray w.drew)(hy:(Builtin.firstCells i.size len (.slice A len cap)).run P w.drew=.ok olds.toArray w.drew):
  (Builtin.append_ #[t,u] ty #[.slice A len cap,.slice B m cap2]).run P w=.ok (.slice (some ⟨w.heap.size,0,none⟩) (len+m) (grownCap w (len+m) cap e))
    (w.drew.alloc (.cells (olds.toArray++news.toArray++Builtin.zeroCells z.cells (grownCap w (len+m) cap e - (len+m))) e)):=by
 have h63':¬(9223372036854775807<((len:Int)+(m:Int))):=by omega
 have adu:¬(281474976710656<Builtin.nextslicecap (len+m) cap*i.bytes):=by omega
 simp[Builtin.append_,run_underlying ht,run_underlying hu,Go.sizeOf,typeInfo,zeroValue,hi,hz,Builtin.lenOf,h,h63',adu,Question.forced,hx,hy,newRow,grownCap];congr 2;apply oG;simp[mE]
variable {c:Ctx}{G:Nat->C}{zl:Nat->Nat->Prop}{s:ah}{a:Act}{w:World}{o:Oper}{K:ah->Prop}
def HU(h:St c G zl s a w){G1:Nat->C}{s1:ah}{l:List C}(hT:bJ w zl c.zb G l G1 s1){d z bytes:Nat}{ty ty' el Dm:TypeId}{i:TypeInfo}{v:Value}{x' y':Operand}
  (ho:o.op=.call {callee:=.builtin .append,args:= #[x',y'],argTypes:= #[ty,ty']})(hu:P.underlying ty=some (.slice el))(vO:P.underlying ty'=some (.slice Dm))(hi:P.info? el=some i)(hz:i.zero=some v)(hsz:i.size=z)(hb:i.bytes=bytes)(hb0:0<bytes)(h0:0<z)(hvs:v.cells.size=z)
  (hd:o.dst=some d)(hn:d<c.nt){A:Option Ad}{len cap:Nat}{e:Nat->Nat->C}(hy1:C.row .own z A len cap e∈l)(hv1:a.eval x'=(C.row .own z A len cap e).val)
  {A2:Option Ad}{m cap2:Nat}{e2:Nat->Nat->C}(zu:a.eval y'=.slice (A2.map λq=>⟨q.1,q.2.1,q.2.2⟩) m cap2)(hc2:∀i j,i<m->j<z->∃g o,A2=some (g,o,none)/\w.cell? ⟨g,o+i*z+j,none⟩=some (e2 i j).val)
  (hk2:∀i j,i<m->j<z->(e2 i j).plain/\(e2 i j).ok w (Zf zl c.zb)/\∀b k,(e2 i j).fp b k->¬(C.row .own z A len cap e).fp b k/\∃y∈l,y.fp b k)
  (hp2:(cN m z e2).flatten.Pairwise λa b=>∀x k,a.fp x k->¬b.fp x k)(hbig:(len+m)*bytes<=140737488355328)(hpl:∀i j,i<len->j<z->(e i j).plain)
  (hK:K (put d (.row .own z (dH z len e++dH z m e2)) s1)):Good P c o a w K:=by
 obtain⟨y1,y2,y3,y4⟩:=hT.all _ hy1;have QH:=y1;obtain⟨r1,r2,r3,r4,r5⟩:=y1;have hk1:∀i j,i<len->j<z->∀b k,(e i j).fp b k->(C.row .own z A len cap e).fp b k:=λi j hi hj b k hf=>C.jW (r3 i j hi hj).1 (r3 i j hi hj).2.2.1 hi hj hf;have hc1:∀i j,i<len->j<z->∃g o,A=some (g,o,none)/\w.cell? ⟨g,o+i*z+j,none⟩=some (e i j).val:=λi j hi hj=>by obtain⟨g,o,q1,q2,_⟩:=r2 i j hi hj;exact⟨g,o,q1,q2⟩
 have hlen:∀x∈cN len z e++cN m z e2,x.length=z:=λx hx=>(gG.1 hx).elim (tM _ _ _ x) (tM _ _ _ x);have Qd:(cN len z e).length=len:=by simp[cN]
 have Qe:(cN m z e2).length=m:=by simp[cN]
 have DL:(cN len z e++cN m z e2).length=len+m:=by rw[iD,Qd,Qe]
 have ko:(cN len z e++cN m z e2).map (λx=>x.map C.er)=dH z len e++dH z m e2:=by rw[jq,Q5,Q5]
 have hall:∀x∈(cN len z e++cN m z e2).flatten,x.plain/\x.ok w (Zf zl c.zb)/\∀b k,x.fp b k->∃y∈l,y.fp b k:=λx hx=>by
  rw[yf,gG] at hx;rcases hx with hx|hx;·obtain⟨i,j,hi,hj,rfl⟩:=mY hx;exact⟨hpl i j hi hj,(r3 i j hi hj).2.2.2,λb k hf=>⟨_,hy1,hk1 i j hi hj b k hf⟩⟩
  ·obtain⟨i,j,hi,hj,rfl⟩:=mY hx;obtain⟨a1,a2,a3⟩:=hk2 i j hi hj;exact⟨a1,a2,λb k hf=>(a3 b k hf).2⟩
 have gP:(cN len z e++cN m z e2).flatten.Pairwise λa b=>∀x k,a.fp x k->¬b.fp x k:=by rw[yf];refine uF.2 ⟨Ks QH,hp2,λx hx y hy b k hf hf'=>?_⟩;obtain⟨i,j,hi,hj,rfl⟩:=mY hx;obtain⟨i',j',hi',hj',rfl⟩:=mY hy;exact((hk2 i' j' hi' hj').2.2 b k hf').1 (hk1 i j hi hj b k hf)
 have jx:bJ w zl c.zb G (cN len z e++cN m z e2).flatten G1 s1:=hT.sub (λx hx=>(hall x hx).2.1) (λx hx=>(hall x hx).2.2) gP;have hfl:(cN len z e).flatten.length=len*z:=by rw[qS (tM _ _ _),Qd]
 have q5:(cN m z e2).flatten.length=m*z:=by rw[qS (tM _ _ _),Qe]
 have lW:∀r w',(Builtin.append_ #[ty,ty'] o.type #[(C.row .own z A len cap e).val,.slice (A2.map λq=>⟨q.1,q.2.1,q.2.2⟩) m cap2]).run P w=.ok r w'->(execOp a.eval o).run P w=.ok (.value r) w':=λr w' hr=>by simp[execOp,ho,resolve,invoke,builtin,hv1,zu,hr]
 have hmul:len+m<=(len+m)*bytes:=Nat.le_mul_of_pos_right _ hb0;subst hsz;by_cases hroom:len+m<=cap
 ·have hx:=Jh (P:=P) (cap:=cap2) h0 hc2;have hr:=ahi (P:=P) (ty:=o.type) (A:=A.map λq=>⟨q.1,q.2.1,q.2.2⟩) hu vO hi hroom hx.1;rcases r4 rfl with ⟨hA,hcap⟩|⟨g,o',arr,t,fz,hA,hh,anW,hfr⟩
  ·
   have hm:m=0:=by omega
   have hl:len=0:=by omega
   subst hm;subst hl;subst hA;subst hcap;obtain⟨G',h'⟩:=h.fresh hT (Ext.refl _ w) hn QH trivial (λb k hf=>.inr ⟨_,hy1,hf⟩);refine⟨_,w,.inl (lW _ _ hr),G',zl,_,hK,?_⟩;rw[hd];exact h'
  ·subst hA;have JB:(len+m)*i.size<=cap*i.size:=oJ _ hroom;rw[fB] at JB
   have hst:=run_storeCells_cells (P:=P) g (o'+len*i.size) ((cN m i.size e2).flatten.map C.val) 0 w (λj hj=>by
     rw[dx,q5] at hj;rw[cell_of_row _ _ _ _ _ fz hh];rw[HF (by omega)];rfl) (λj hj=>by
     rw[dx,q5] at hj;exact hfr _ (by omega) (by omega)) (λu hu=>by
     obtain⟨x,hx,rfl⟩:=bp.1 hu;obtain⟨i',j',hi',hj',rfl⟩:=mY hx;exact Inv.qG (C.lp (hk2 i' j' hi' hj').1))
   simp only[cj,qu,hst,nK,Result.andThen_ok] at hr;have hE:=Ext.setCells g ((cN m i.size e2).flatten.map C.val) (o'+len*i.size) w;rw[dx,q5] at hE;have hin:=World.cell?_setCells_in g ((cN m i.size e2).flatten.map C.val) (o'+len*i.size) w;generalize hw':w.setCells g (o'+len*i.size) ((cN m i.size e2).flatten.map C.val)=w' at hr hE hin;have hg:g<w.heap.size:=(j7.1 hh).1;have vI:∀k,(C.row .own i.size (some (g,o',none)) len cap e).fp g k:=λk=>⟨rfl,.inl ⟨_,rfl⟩⟩
   obtain⟨fT,o7,hs'⟩:∃fT,w'.heap[g]?=some (.cells fT t fz)/\fT.size=arr.size:=by
    rcases hE.block g hg with e'|⟨a1,a2,t',lU,q1,q2,q3,q4⟩;·exact⟨arr,e'.trans hh,rfl⟩
    ·rw[hh] at q1;injection q1 with q1
     injection q1 with b1 b2 b3
     subst b1;subst b2;subst b3;exact⟨a2,q2,q3⟩
   have hok:(ud g o' i.size cap (cN len i.size e++cN m i.size e2)).ok w' (Zf zl c.zb):=by
    refine Sq hlen (by rw[DL];exact hroom) o7 (by omega) (λk h1 h2=>(hE.frozen hg).trans (hfr k h1 h2)) (λq x hq=>?_) (λx hx=>?_) gP (λx hx b k hf=>?_)
    ·rw[yf] at hq;by_cases hql:q<len*i.size
     ·rw[nO (by omega)] at hq;obtain⟨a1,a2,rfl⟩:=Q4 h0 hq;obtain⟨g',o2,hA,hcl⟩:=hc1 _ _ a1 a2;injection hA with hA
      injection hA with b1 b2
      injection b2 with b2
      subst b1;subst b2;have zm:q=q / i.size*i.size+q%i.size:=by have:=CE q i.size;rw[qj] at this;omega
      refine hE.cell (λhs=>by omega) ?_;rw[<-hcl];congr 2;omega
     ·rw[iC (by omega)] at hq;rw[hfl] at hq;have DY:=(aF.1 hq).1;rw[q5] at DY;have:=hin (λj hj=>by rw[dx,q5] at hj;rw[cell_of_row _ _ _ _ _ fz hh,HF (by omega)];rfl) (q - len*i.size) (by rw[dx,q5];exact DY)
      rw[show o'+len*i.size+(q - len*i.size)=o'+q by omega] at this;rw[this,<-cw,cY,hq];rfl
    ·obtain⟨a1,a2,a3⟩:=hall x hx;refine⟨C.lp a1,C.Bi a1,hT.fits' hE (λb k hz hs=>?_) a2 (λb k hf hs=>?_)⟩;·obtain⟨rfl,_⟩:=hs;exact hz.elim (y3 b k (vI k)).1 (y3 b k (vI k)).2
     ·obtain⟨rfl,_⟩:=hs;rw[yf,gG] at hx;rcases hx with hx|hx;·obtain⟨i',j',hi',hj',rfl⟩:=mY hx;exact(r5 i' j' hi' hj' b k hf).1 rfl o' rfl
      ·obtain⟨i',j',hi',hj',rfl⟩:=mY hx;exact((hk2 i' j' hi' hj').2.2 b k hf).1 (vI k)
    ·intro hbg;subst hbg;rw[yf,gG] at hx;rcases hx with hx|hx;·obtain⟨i',j',hi',hj',rfl⟩:=mY hx;exact(r5 i' j' hi' hj' b k hf).1 rfl o' rfl
     ·obtain⟨i',j',hi',hj',rfl⟩:=mY hx;exact((hk2 i' j' hi' hj').2.2 b k hf).1 (vI k)
   obtain⟨G',h'⟩:=h.fresh' hT hE (λb k hs=>.inr ⟨_,hy1,by rw[hs.1];exact vI k⟩) hn hok trivial (λb k hf=>by
    rcases Sn hlen hf with rfl|⟨x,hx,hf⟩;·exact .inr ⟨_,hy1,vI k⟩
    ·exact .inr ((hall x hx).2.2 b k hf))
   refine⟨_,w',.inl (lW _ _ hr),G',zl,_,hK,?_⟩;rw[hd];rw[Sm hlen,ko,ag7,DL] at h';exact h'
 ·have hx:=Jh (P:=P) (w1:=w.drew) (cap:=cap2) h0 hc2;have hy:=Jh (P:=P) (w1:=w.drew) (cap:=cap) h0 hc1;have hr:=ahh (P:=P) (ty:=o.type) hu vO hi hz hroom (by omega) (growslice_fits (by omega) (by rw[hb];exact hbig)) hx.1 hy.1;have hge:=grownCap_ge w (len+m) cap el;generalize grownCap w (len+m) cap el=cap' at hr hge;refine jN.good (good_row h (L:=cN len i.size e++cN m i.size e2) (cap:=cap') (fz:=(0,0)) hlen (by rw[DL];exact hge) jx (λx hx=>(hall x hx).1) hd hn (O4 w _) (zf w.drew _) ?_ (λk _ hh=>by simp at hh) (λq x hq=>?_) (by rw[DL];exact lW _ _ hr) (by rw[ko];exact hK));·simp only[MW,qh,dx,hfl,q5,size_zeroCells,hvs];rw[<-fB,<-fB];exact oJ _ (by omega)
  ·rw[yf] at hq;have DY:=(aF.1 hq).1;have hmap:(((cN len i.size e).flatten++(cN m i.size e2).flatten).map C.val)[q]?=some x.val:=by rw[cY,hq];rfl
   rw[M9 (by rw[MW,qh,qh,dx,dx,<-iD];exact DY)];rw[<-hmap,jq];simp
end
end M
namespace M
open Go Go.RowKit
variable [Bs]
namespace C
def belows(r:Nat)(p:Path):Nat->Path->Bool:=λs q=>s==r && oQ p q
def Ag(r:Nat)(p:Path){α:Type}(f:α->X):∀l:List α,X.pK r p (l.map f)=l.map λa=>(f a).ff r p
 |[]=>rfl
 |a::l=>by simp only[bD,X.pK,Ag r p f l]
def wq(r:Nat)(p:Path):∀c:C,(c.az (belows r p)).er=c.er.ff r p
 |.ref v s q=>by simp only[az,er,X.ff,belows];cases s==r && oQ p q<;>rfl
 |.aC v s q i c=>by simp only[az,er,X.ff,belows];cases s==r && oQ p q<;>rfl
 |.cut v s q i c=>by simp only[az,er,X.ff,belows];cases s==r && oQ p q<;>rfl
 |.ptr m g o n c=>by simp only[az,er,X.ff,Ag];congr 1;exact b9 λj _=>wq r p (c j)
 |.agg n c=>by simp only[az,er,X.ff,Ag];congr 1;exact b9 λj _=>wq r p (c j)
 |.au n c=>by simp only[az,er,X.ff,Ag];congr 1;exact b9 λj _=>wq r p (c j)
 |.fn f n c=>by simp only[az,er,X.ff,Ag];congr 1;exact b9 λj _=>wq r p (c j)
 |.dead _=>by simp only[az,er,X.ff]
 |.int _ _=>by simp only[az,er,X.ff]
 |.bool _=>by simp only[az,er,X.ff]
 |.str _=>by simp only[az,er,X.ff]
 |.row _ _ _ _ _ _=>by simp only[az,er,X.ff]
def qB(G:Nat->C):∀c:C,c.bare->c.rf G
 |.ref _ _ _,h=>h.elim
 |.aC _ _ _ _ _,h=>h.elim
 |.cut _ _ _ _ _,h=>h.elim
 |.ptr m g o n c,h=>λj hj=>qB G (c j) (h j hj)
 |.agg n c,h=>λj hj=>qB G (c j) (h j hj)
 |.au n c,h=>λj hj=>qB G (c j) (h j hj)
 |.fn f n c,h=>λj hj=>qB G (c j) (h j hj)
 |.dead _,_=>trivial
 |.int _ _,_=>trivial
 |.bool _,_=>trivial
 |.str _,_=>trivial
 |.row _ _ _ _ _ _,_=>trivial
def vh{l:List X}:X.bare.js l=true↔∀x∈l,x.bare=true:=by
 induction l with
 |nil=>simp[X.bare.js]
 |cons a l ih=>simp[X.bare.js,ih]
def lM:∀c:C,c.er.bare=true↔c.bare
 |.ref _ _ _=>by simp[er,X.bare,bare]
 |.aC _ _ _ _ _=>by simp[er,X.bare,bare]
 |.cut _ _ _ _ _=>by simp[er,X.bare,bare]
 |.ptr m g o n c=>by simp only[er,X.bare,bare,vh,bp,sw];exact⟨λh j hj=>(lM (c j)).1 (h _ ⟨j,hj,rfl⟩),λh x ⟨j,hj,e⟩=>e▸(lM (c j)).2 (h j hj)⟩
 |.agg n c=>by simp only[er,X.bare,bare,vh,bp,sw];exact⟨λh j hj=>(lM (c j)).1 (h _ ⟨j,hj,rfl⟩),λh x ⟨j,hj,e⟩=>e▸(lM (c j)).2 (h j hj)⟩
 |.au n c=>by simp only[er,X.bare,bare,vh,bp,sw];exact⟨λh j hj=>(lM (c j)).1 (h _ ⟨j,hj,rfl⟩),λh x ⟨j,hj,e⟩=>e▸(lM (c j)).2 (h j hj)⟩
 |.fn f n c=>by simp only[er,X.bare,bare,vh,bp,sw];exact⟨λh j hj=>(lM (c j)).1 (h _ ⟨j,hj,rfl⟩),λh x ⟨j,hj,e⟩=>e▸(lM (c j)).2 (h j hj)⟩
 |.dead _=>by simp[er,X.bare,bare]
 |.int _ _=>by simp[er,X.bare,bare]
 |.bool _=>by simp[er,X.bare,bare]
 |.str _=>by simp[er,X.bare,bare]
 |.row _ _ _ _ _ _=>by simp[er,X.bare,bare]
def R2:∀{p q:Path},X.pfx p q=true->¬p.length<q.length->q=p
 |[],[],_,_=>rfl
 |[],_::_,_,h=>by simp at h
 |_::_,[],h,_=>by simp[X.pfx] at h
 |x::p,y::q,h,hl=>by simp only[X.pfx,aA,ew] at h;obtain⟨⟨h1,h2⟩,h3⟩:=h;rw[R2 h3 (by simpa using hl)];congr 1;cases x;cases y;simp only at h1 h2;rw[h1,h2]
end C
def PW(r:Nat)(p:Path)(t:Nat):∀s:ah,get (rz r p s) t=(get s t).ff r p
 |[]=>by simp[rz,get,X.ff]
 |(k,v)::s=>by
  simp only[rz,get];cases k==t;·exact PW r p t s
  ·rfl
namespace Inv
variable {w w':World}{zl aH zb:Nat->Nat->Prop}{G:Nat->C}{s:ah}{S:Nat->Nat->Prop}
def ff(h:Inv w zl zb G s)(r:Nat)(p:Path):Inv w zl zb (λt=>(G t).az (C.belows r p)) (rz r p s):=
 h.off _ λt=>by rw[C.wq,PW,h.er]
def HX(h:Inv w zl zb G s)(r:Nat)(p:Path)(hfree:∀t,(G t).free (C.belows r p)){d d':C}(hsub:(G r).sub p=some d)(hF:C.gm d d')(hl:C.hU d d')(Ql:d'.rf G/\d'.free (C.belows r p))(hE:Ext S w w')
  (hS:∀b k,S b k->d.fp b k\/((∀t,¬(G t).fp b k)/\¬zl b k/\¬zb b k))(hok:d'.ok w' (Zf aH zb))(hz1:∀b k,zl b k->aH b k)(hz2:∀b k,aH b k->¬d'.fp b k/\b<w'.heap.size/\∀t,(G t).fp b k->d.fp b k)
  (cr:∀b k,d'.fp b k->d.fp b k\/((∀t,¬(G t).fp b k)/\¬zb b k)):
  Inv w' aH zb (fJ G r (C.putAt p (G r) d')) ((r,X.putAt p (get s r) d'.er)::s)/\(∀t,(fJ G r (C.putAt p (G r) d') t).val=(G t).val)/\
   ∀t b k,(fJ G r (C.putAt p (G r) d') t).fp b k->d'.fp b k\/((G t).fp b k/\¬d.fp b k):=by
 have bh:∀{b k},d.fp b k->(G r).fp b k:=λhf=>C.gE p hsub (h.ok r) hf
 have hZ:∀m b k,Zf zl zb m b k->¬S b k:=λm b k hz hs=>by
  rcases hS b k hs with hs|hs;·exact h.yo r m b k hz (bh hs)
  ·cases m with
   |own=>exact hz.elim
   |sl=>exact hs.2.1 hz
   |af=>exact hz.elim hs.2.1 hs.2.2
 have hM:∀m b k,Zf zl zb m b k->Zf aH zb m b k:=λm b k hz=>by
  cases m with
  |own=>exact hz
  |sl=>exact hz1 b k hz
  |af=>exact hz.imp (hz1 b k) id
 obtain⟨i1,i2,i3⟩:=C.Bd hM hE hZ p (G r) d d' (h.ok r) hsub hok hl (λb k hs=>(hS b k hs).imp id λhn=>hn.1 r) (λb k hf=>(cr b k hf).imp id λhn=>hn.1 r)
 have hr':∀t,t≠r->∀b k,(C.putAt p (G r) d').fp b k->¬(G t).fp b k:=λt e b k hf=>by
  rcases i2 b k hf with hf|hf
  ·rcases cr b k hf with hf|hf;·exact h.sep r t (λe'=>e e'.symm) b k (bh hf)
   ·exact hf.1 t
  ·exact h.sep r t (λe'=>e e'.symm) b k hf.1
 have key:∀c':C,c'.free (C.belows r p)->c'.rf G->c'.rf (fJ G r (C.putAt p (G r) d')):=λc' hf hr=>C.lu (C.belows r p) (λs' q' y' hk hs=>by
  by_cases e:s'=r
  ·subst e;rw[dD];cases hp:X.pfx p q' with
   |false=>exact C.GP p q' (G s') d' y' hp hs
   |true=>
    have hlen:¬p.length<q'.length:=by simpa [C.belows,oQ,hp] using hk
    have he:=C.R2 hp hlen;subst he;rw[hsub] at hs;injection hs with hs
    subst hs;exact .inl ⟨d',hF,C.GQ _ hsub⟩
  ·rw[de _ _ e];exact C.self y' _ q' hs) c' hf hr
 refine⟨⟨λt=>?_,λt=>?_,λt u hne b k hf=>?_,λt b k hf=>?_,λt=>?_,λb k hz=>?_⟩,λt=>?_,λt b k hf=>?_⟩
 ·rw[vF];by_cases e:t=r;·subst e;rw[dD,ay rfl,C.Lg,h.er]
  ·rw[de _ _ e,aD e];exact h.er t
 ·by_cases e:t=r;·subst e;rw[dD];exact i1
  ·rw[de _ _ e];refine C.gB hM _ (C.fH hE hZ _ (λb k hf hs=>?_) (h.ok t));rcases hS b k hs with hs|hs;·exact h.sep t r e b k hf (bh hs)
   ·exact hs.1 t hf
 ·by_cases e:t=r;·subst e;rw[dD] at hf;rw[de _ _ (λe=>hne e.symm)];exact hr' u (λe=>hne e.symm) b k hf
  ·rw[de _ _ e] at hf;by_cases e':u=r;·subst e';rw[dD];exact λhc=>hr' t e b k hc hf
   ·rw[de _ _ e'];exact h.sep t u hne b k hf
 ·by_cases e:t=r
  ·subst e;rw[dD] at hf;rcases i2 b k hf with hf|⟨hf,hn⟩
   ·refine⟨λhz=>(hz2 b k hz).1 hf,λhz=>?_⟩;rcases cr b k hf with hf|hf;·exact(h.fz t b k (bh hf)).2 hz
    ·exact hf.2 hz
   ·exact⟨λhz=>hn ((hz2 b k hz).2.2 t hf),(h.fz t b k hf).2⟩
  ·rw[de _ _ e] at hf;exact⟨λhz=>h.sep t r e b k hf (bh ((hz2 b k hz).2.2 t hf)),(h.fz t b k hf).2⟩
 ·by_cases e:t=r
  ·subst e;rw[dD]
   have inner:∀(p':Path) (c':C),c'.free (C.belows t p)->c'.rf G->(C.putAt p' c' d').rf (fJ G t (C.putAt p (G t) d')):=by
    intro p';induction p' with
    |nil=>intro c' _ _;exact key d' Ql.2 Ql.1
    |cons x p' ih=>
     intro c' jd je;simp only[C.putAt];cases hst:c'.step x with
     |none=>exact key c' jd je
     |some z=>
      cases c' with
      |row m sz A len cap e=>trivial
      |ptr m g o n c=>
       simp only[C.step] at hst;split at hst
       ·rename_i hq;injection hst with hst
        intro j hj;simp only[C.bX];split;·exact ih z (by rw[<-hst];exact jd _ hq.2) (by rw[<-hst];exact je _ hq.2)
        ·exact key _ (jd j hj) (je j hj)
       ·cases hst
      |agg n c=>
       simp only[C.step] at hst;split at hst
       ·rename_i hq;injection hst with hst
        intro j hj;simp only[C.bX];split;·exact ih z (by rw[<-hst];exact jd _ hq.2) (by rw[<-hst];exact je _ hq.2)
        ·exact key _ (jd j hj) (je j hj)
       ·cases hst
      |au n c=>
       simp only[C.step] at hst;split at hst
       ·rename_i hq;injection hst with hst
        intro j hj;simp only[C.bX];split;·exact ih z (by rw[<-hst];exact jd _ hq.2) (by rw[<-hst];exact je _ hq.2)
        ·exact key _ (jd j hj) (je j hj)
       ·cases hst
      |_=>simp[C.step] at hst
   exact inner p (G t) (hfree t) (h.rf t)
  ·rw[de _ _ e];exact key _ (hfree t) (h.rf t)
 ·exact hz.elim (λhz=>(hz2 b k hz).2.1) λhz=>kG (h.cE b k (.inr hz)) hE.size
 ·by_cases e:t=r;·subst e;rw[dD];exact i3.val
  ·rw[de _ _ e]
 ·by_cases e:t=r;·subst e;rw[dD] at hf;exact i2 b k hf
  ·rw[de _ _ e] at hf;exact .inr ⟨hf,λhd=>h.sep t r e b k hf (bh hd)⟩
def NN(h:Inv w zl zb G s)(hE:Ext S w w')(hS:∀b k,S b k->(∀t,¬(G t).fp b k)/\¬zl b k/\¬zb b k)(hz1:∀b k,zl b k->aH b k)(hz2:∀b k,aH b k->b<w'.heap.size/\∀t,¬(G t).fp b k):Inv w' aH zb G s:=by
 have h1:=h.ext hE (λt b k hf hs=>(hS b k hs).1 t hf) (λb k hz hs=>hz.elim (hS b k hs).2.1 (hS b k hs).2.2);refine⟨h1.er,λt=>C.gB (λm b k hz=>?_) _ (h1.ok t),h1.sep,λt b k hf=>⟨λhz=>(hz2 b k hz).2 t hf,(h1.fz t b k hf).2⟩,h1.rf,λb k hz=>hz.elim (λhz=>(hz2 b k hz).1) λhz=>h1.cE b k (.inr hz)⟩;cases m with
 |own=>exact hz
 |sl=>exact hz1 b k hz
 |af=>exact hz.imp (hz1 b k) id
end Inv
end M
namespace M
open Go Go.RowKit
variable [Bs]
section
variable {P:Program}{c:Ctx}{G:Nat->C}{zl:Nat->Nat->Prop}{s:ah}{a:Act}{w:World}{o:Oper}{K:ah->Prop}
def agn(h:St c G zl s a w){sz:Nat}{z:List X}{ty el:TypeId}{ii:TypeInfo}{v:Value}{x:AV}{x':Operand}(ho:o.op=.call {callee:=.builtin .clear,args:= #[x'],argTypes:= #[ty]})(hu:P.underlying ty=some (.slice el))(hi:P.info? el=some ii)(hz:ii.zero=some v)
  (JB:mL v.cells.toList z=true)(hzs:z.length=sz)(h0:0<sz)(hd:o.dst=none)(hx:aO x' x=true)(hK:aR P (.vz sz z x) s K):Good P c o a w K:=by
 obtain⟨q,q1,q2,q3⟩:=ck h hx;simp only[aR] at hK;rw[<-q1] at hK;cases q with
 |cut vv r p lo hi'=>
  simp only[C.er] at hK;obtain⟨m,bQ,A,len,cap,e,A',cap',hs,hv,hlo,hhi,hcap,kj,-,-⟩:=q3.rf;unfold look at hK;rw[<-h.inv.er,C.gD,hs] at hK;cases m with
  |own=>
   simp only[cj,C.er] at hK;obtain⟨rfl,hK⟩:=hK;obtain⟨zs,Z⟩:=CM w zl c.zb JB;have hzl:zs.length=z.length:=by rw[<-Z.er];simp
   have hvs:v.cells.size=z.length:=by rw[<-hzl,<-xZ,<-Z.val];simp
   have hok:=C.gY p hs (h.inv.ok r);have hin:∀b k,(C.row .own bQ A len cap e).fp b k->(G r).fp b k:=λb k hf=>C.gE p hs (h.inv.ok r) hf;obtain⟨h1,h2,h3,h4,h5⟩:=hok;let e':Nat->Nat->C:=λi j=>if lo<=i/\i<hi' then zs.getD j (.dead undef) else e i j
   have he:∀i j,(lo<=i/\i<hi')->e' i j=zs.getD j (.dead undef):=λi j hh=>ay hh;have hne:∀i j,¬(lo<=i/\i<hi')->e' i j=e i j:=λi j hh=>aD hh;have zC:∀j,j<bQ->zs.getD j (.dead undef)∈zs:=λj hj=>cL (by omega) _;have kr:∀i j,i<len->j<bQ->∀b k,(e i j).fp b k->(C.row .own bQ A len cap e).fp b k:=λi j hi hj b k hf=>⟨rfl,.inr ⟨i,j,hi,hj,hf⟩⟩
   have s8:∀b k,(C.row .own bQ A len cap e').fp b k->(C.row .own bQ A len cap e).fp b k:=λb k hf=>by
    obtain⟨_,hA|⟨i,j,hi2,hj,hf⟩⟩:=hf;·exact⟨rfl,.inl hA⟩
    ·by_cases hh:lo<=i/\i<hi';·rw[he i j hh] at hf;exact((Z.all _ (zC j hj)).2.2 b k hf).elim
     ·rw[hne i j hh] at hf;exact kr i j hi2 hj b k hf
   have run:∃w',(execOp a.eval o).run P w=.ok (.value (.tuple #[])) w'/\Ext (λb k=>∃o',A=some (b,o',none)) w w'/\∀i j,i<len->j<bQ->∃g o',A=some (g,o',none)/\w'.cell? ⟨g,o'+i*bQ+j,none⟩=some (e' i j).val:=by
    have lW:∀n' A2 c2 r w',a.eval x'=.slice A2 n' c2->(Builtin.clear_ #[ty] o.type #[.slice A2 n' c2]).run P w=.ok r w'->(execOp a.eval o).run P w=.ok (.value r) w':=by intro n' A2 c2 r w' hh hr;simp[execOp,ho,hh,resolve,invoke,builtin,hr]
    by_cases hn0:hi' - lo=0
    ·refine⟨w,?_,Ext.refl _ _,λi j lY hj=>?_⟩
     ·have zu:a.eval x'=.slice (Option.map (λq:Ad=>⟨q.1,q.2.1,q.2.2⟩) A') 0 cap':=by rw[<-q2,C.val,hv,hn0]
      refine lW _ _ _ _ _ zu ?_;cases A'<;>simp[Builtin.clear_,run_underlying hu]
     ·obtain⟨g,o',b1,b2,_⟩:=h2 i j lY hj;exact⟨g,o',b1,by rw[b2,hne i j (by omega)]⟩
    ·obtain⟨g,o',b1,_,_⟩:=h2 lo 0 (by omega) h0;have hAs:A'=some (g,o'+lo*bQ,none):=by rw[kj (by omega),b1,cj,oO]
     have hall:∀i j,i<len->j<bQ->w.cell? ⟨g,o'+i*bQ+j,none⟩=some (e i j).val:=λi j lY hj=>by
      obtain⟨g2,o2,c1,c2,_⟩:=h2 i j lY hj;rw[b1] at c1;injection c1 with c1
      injection c1 with c3 c4
      injection c4 with c4
      subst c3;subst c4;exact c2
     have adX:∀k,o'<=k->k<o'+cap*bQ->w.frozen? ⟨g,k,none⟩=false:=by
      rcases h4 rfl with ⟨d1,_⟩|⟨g2,o2,arr,t,fz,d1,d2,d3,d4⟩;·rw[b1] at d1;cases d1
      ·rw[b1] at d1;injection d1 with d1
       injection d1 with d5 d6
       injection d6 with d6
       subst d5;subst d6;exact d4
     let vs:List Value:=(Builtin.zeroCells v.cells (hi' - lo)).toList;have hvl:vs.length=(hi' - lo)*bQ:=by simp[vs,Builtin.zeroCells,hvs,hzs]
     have QF:∀k (hk:k<vs.length),vs[k]=(zs.getD (k%bQ) (.dead undef)).val:=by
      intro k hk;have hm:k%bQ<zs.length:=by rw[hzl,hzs];exact sA _ h0
      have hm2:k%bQ<v.cells.size:=by omega
      have e1:vs[k]=v.cells[k%v.cells.size]!:=by simp[vs,Builtin.zeroCells]
      rw[e1,hvs,hzs,getElem!_pos v.cells (k%bQ) hm2];have:=dr (λt:List Value=>t[k%bQ]?) Z.val;simp only[cY] at this;rw[cw hm] at this;rw[kK,cw hm];simp only[cj,Array.getElem?_toList,HF hm2,dO] at this;exact this.symm
     have hidx:∀k,k<(hi' - lo)*bQ->k / bQ<hi' - lo/\k=k / bQ*bQ+k%bQ:=λk hk=>by refine⟨(Nat.div_lt_iff_lt_mul h0).2 hk,?_⟩;have:=CE k bQ;rw[qj] at this;omega
     have Qz:∀k,k<(hi' - lo)*bQ->o'+lo*bQ+k=o'+(lo+k / bQ)*bQ+k%bQ:=λk hk=>by have:=(hidx k hk).2;rw[fB];omega
     have hsome:∀j,j<vs.length->(w.cell? ⟨g,o'+lo*bQ+j,none⟩).isSome=true:=λj hj=>by rw[hvl] at hj;rw[Qz j hj,hall _ _ (by have:=(hidx j hj).1;omega) (sA _ h0)];rfl
     have hst:=run_storeCells_cells (P:=P) g (o'+lo*bQ) vs 0 w (by simpa using hsome) (λj hj=>by
      rw[hvl] at hj;refine adX _ (by omega) ?_;rw[nK,Qz j hj];have h7:=(hidx j hj).1;have h8:(lo+j / bQ+1)*bQ<=cap*bQ:=oJ _ (by omega);have h9:=sA j h0;rw[fB,Hw] at h8;omega) (λu hu=>by
      obtain⟨k,hk,rfl⟩:=yl hu;rw[QF k hk];exact Inv.qG (C.lp (Z.all _ (zC _ (sA _ h0))).1))
     have hE:=Ext.setCells g vs (o'+lo*bQ) w;have adE:=World.cell?_setCells_in g vs (o'+lo*bQ) w hsome;simp only[nK] at hst;refine⟨w.setCells g (o'+lo*bQ) vs,?_,hE.mono λb k hh _=>⟨o',by rw[b1,hh.1]⟩,λi j lY hj=>⟨g,o',b1,?_⟩⟩
     ·have zu:a.eval x'=.slice (some ⟨g,o'+lo*bQ,none⟩) (hi' - lo) cap':=by rw[<-q2,C.val,hv,hAs];rfl
      refine lW _ _ _ _ _ zu ?_;obtain⟨m,hm⟩:∃m,hi' - lo=m+1:=⟨hi' - lo - 1,by omega⟩;have hzr:∀w,(zeroValue el).run P w=.ok v w:=by intro w;simp[zeroValue,typeInfo,hi,hz]
      simp only[vs,hm] at hst⊢;simp[Builtin.clear_,run_underlying hu,hzr,hst]
     ·by_cases hh:lo<=i/\i<hi'
      ·have hk:(i - lo)*bQ+j<vs.length:=by rw[hvl];have:(i - lo+1)*bQ<=(hi' - lo)*bQ:=oJ _ (by omega);rw[fB,Hw] at this;omega
       have:=adE _ hk;rw[QF _ hk,Nat.mul_add_mod_self_right,Nat.mod_eq_of_lt hj] at this;have hq:lo*bQ+(i - lo)*bQ=i*bQ:=by rw[<-fB];congr 1;omega
       rw[show o'+lo*bQ+((i - lo)*bQ+j)=o'+i*bQ+j by omega] at this;rw[he i j hh];exact this
      ·rw[hne i j hh,World.cell?_setCells_out,hall i j lY hj];intro _ _;simp only;rw[hvl];by_cases hl:i<lo;·left;have:(i+1)*bQ<=lo*bQ:=oJ _ (by omega);rw[fB,Hw] at this;omega
       ·right;have t1:hi'*bQ<=i*bQ:=oJ _ (by omega);have t2:lo*bQ+(hi' - lo)*bQ=hi'*bQ:=by rw[<-fB];congr 1;omega
        omega
   obtain⟨w',hrun,hE,hcell⟩:=run;have qW:∀b k,(∃o',A=some (b,o',none))->(C.row .own bQ A len cap e).fp b k:=λb k hh=>⟨rfl,.inl hh⟩;have Qg:∀m b k,Zf zl c.zb m b k->¬(∃o',A=some (b,o',none)):=λm b k hz hh=>h.inv.yo r m b k hz (hin b k (qW b k hh))
   have JC:(C.row .own bQ A len cap e').ok w' (Zf zl c.zb):=by
    refine⟨h1,λi j lY hj=>?_,λi j lY hj=>?_,λhm=>?_,λi j lY hj b k hf=>?_⟩;·obtain⟨g,o',c1,c2⟩:=hcell i j lY hj;exact⟨g,o',c1,c2,λhm=>(hm rfl).elim⟩
    ·obtain⟨a1,a2,a3,a4⟩:=h3 i j lY hj;by_cases hh:lo<=i/\i<hi';·rw[he i j hh];obtain⟨b1,b2,b3⟩:=Z.all _ (zC j hj);exact⟨C.lp b1,C.Bi b1,by cases hq:zs.getD j (.dead undef)<;>first|trivial|exact .inl rfl,C.fH hE Qg _ (λb k hf=>(b3 b k hf).elim) b2⟩
     ·rw[hne i j hh];exact⟨a1,a2,a3,C.fH hE Qg _ (λb k hf hS=>by obtain⟨o',hA⟩:=hS;exact(h5 i j lY hj b k hf).1 rfl o' hA) a4⟩
    ·rcases h4 hm with hh|⟨g,o',arr,t,fz,d1,d2,d3,d4⟩;·exact .inl hh
     ·have hg:g<w.heap.size:=(j7.1 d2).1
      obtain⟨fT,o7,hs'⟩:∃fT,w'.heap[g]?=some (.cells fT t fz)/\fT.size=arr.size:=by
       rcases hE.block g hg with e'|⟨a1,a2,t',lU,q1,q2,q3,q4⟩;·exact⟨arr,e'.trans d2,rfl⟩
       ·rw[d2] at q1;injection q1 with q1
        injection q1 with b1 b2 b3
        subst b1;subst b2;subst b3;exact⟨a2,q2,q3⟩
      exact .inr ⟨g,o',fT,t,fz,d1,o7,by omega,λk k1 k2=>(hE.frozen hg).trans (d4 k k1 k2)⟩
    ·by_cases hh:lo<=i/\i<hi';·rw[he i j hh] at hf;exact((Z.all _ (zC j hj)).2.2 b k hf).elim
     ·rw[hne i j hh] at hf;obtain⟨a1,a2⟩:=h5 i j lY hj b k hf;refine⟨a1,λi' j' hi2 hj2 JP hf'=>?_⟩;by_cases o7:lo<=i'/\i'<hi';·rw[he i' j' o7] at hf';exact(Z.all _ (zC j' hj2)).2.2 b k hf'
      ·rw[hne i' j' o7] at hf';exact a2 i' j' hi2 hj2 JP hf'
   have hk0:=h.inv.ff r p;have hs0:((G r).az (C.belows r p)).sub p=some (C.row .own bQ A len cap e):=C.jj _ p _ _ (h.inv.ok r) hs
   obtain⟨i1,i2,i3⟩:=hk0.HX r p (λt=>C.gA _ _) hs0 (C.gm.row .own .own bQ A len cap e e') ⟨rfl,λh=>h,λh=>h,λh=>h,λm h=>h⟩ ⟨trivial,trivial⟩ hE (λb k hs=>.inl (qW b k hs)) JC (λb k hz=>hz)
    (λb k hz=>⟨λhf=>(h.inv.fz r b k (hin b k (s8 b k hf))).1 hz,kG (h.inv.cE b k (.inl hz)) hE.size,λt hf=>by rw[C.cJ] at hf;exact((h.inv.fz t b k hf).1 hz).elim⟩) (λb k hf=>.inl (s8 b k hf))
   have ko:(C.row .own bQ A len cap e').er=.row .own bQ (Dv lo hi' z ((List.range len).map λi=>(List.range bQ).map λj=>(e i j).er)):=by
    simp only[C.er,Dv];congr 1;apply hO;intro i;rw[CL,C.cV,C.cV];split
    ·simp only[cj,dO];by_cases hh:lo<=i/\i<hi';·rw[ay hh,<-Z.er,<-mh zs (.dead undef) C.er,hzl,hzs];exact b9 λj _=>by rw[he i j hh]
     ·rw[aD hh];exact b9 λj _=>by rw[hne i j hh]
    ·rfl
   rw[ko] at i1
   have hst:St c _ zl _ a w':=h.move i1 (λt=>(i2 t).trans (C.jk _ _)) hE (λb k hs=>h.tr.dom r b k (hin b k (qW b k hs))) (λt b k hf=>by
    rcases i3 t b k hf with hd|⟨hh,_⟩;·exact .inl ⟨r,hin b k (s8 b k hd)⟩
    ·rw[C.cJ] at hh;exact .inl ⟨t,hh⟩)
   exact⟨.tuple #[],w',.inl hrun,_,zl,_,hK,by rw[hd];exact hst⟩
  |sl=>exact hK.elim
  |af=>exact hK.elim
 |_=>exact hK.elim
end
end M
namespace M
open Go Go.RowKit
variable [Bs]
section
variable {P:Program}{c:Ctx}{G:Nat->C}{zl:Nat->Nat->Prop}{s:ah}{a:Act}{w:World}{o:Oper}{K:ah->Prop}
def Ld{x:C}(hc:x.cell)(hs:x.cQ):x.plain:=by cases x<;>first|exact hc|exact hs.elim|trivial
def yQ{x:C}{m:Md}{z:Nat}{xs:List (List X)}(h:x.er=.row m z xs):∃A len cap e,x=.row m z A len cap e/\xs=dH z len e:=by
 cases x with
 |row m' z' A len cap e=>
  simp only[C.er] at h;injection h with h1 h2 h3
  subst h1;subst h2;exact⟨A,len,cap,e,rfl,h3.symm⟩
 |_=>simp[C.er] at h
def SE{z len:Nat}{e:Nat->Nat->C}(h:scalars (dH z len e)){i j:Nat}(hi:i<len)(hj:j<z):scalar (e i j).er=true:=
 h _ (bp.2 ⟨i,by simpa using hi,rfl⟩) _ (bp.2 ⟨j,by simpa using hj,rfl⟩)
def SF{x:C}(h:scalar x.er=true):x.plain/\∀b k,¬x.fp b k:=by cases x<;>first|exact⟨trivial,λ_ _ h=>h⟩|(simp[C.er,scalar] at h)
def ahP{w:World}{zl zb:Nat->Nat->Prop}{G:Nat->C}{s:ah}(h:Inv w zl zb G s){v:Value}{r:Nat}{p:Path}{lo hi:Nat}(hr:(C.cut v r p lo hi).rf G){z:Nat}{xs:List (List X)}(hl:look s r p=some (.row .own z xs)):
  ∃A' cap' e2 G',v=.slice (Option.map (λq:Ad=>⟨q.1,q.2.1,q.2.2⟩) A') (hi - lo) cap'/\((xs.take hi).drop lo)=dH z (hi - lo) e2/\(∀i j,i<hi - lo->j<z->∃g o,A'=some (g,o,none)/\w.cell? ⟨g,o+i*z+j,none⟩=some (e2 i j).val)/\
   (∀i j,i<hi - lo->j<z->(e2 i j).plain)/\bJ w zl zb G (cN (hi - lo) z e2).flatten G' (iz r p (.row .own z (Dj lo hi xs)) s):=by
 obtain⟨m,sz,A,len,cap,e,A',cap',hs,hv,hlo,hhi,hcap,kj,-,-⟩:=hr;unfold look at hl;rw[<-h.er,C.gD,hs] at hl;simp only[cj,C.er,dO,X.row.injEq] at hl;obtain⟨rfl,rfl,rfl⟩:=hl;have hok:=C.gY p hs (h.ok r);have hin:∀b k,(C.row .own sz A len cap e).fp b k->(G r).fp b k:=λb k hf=>C.gE p hs (h.ok r) hf;obtain⟨h1,h2,h3,h4,h5⟩:=hok;let e':Nat->Nat->C:=λi j=>if lo<=i/\i<hi then .dead (e i j).val else e i j
 have he:∀i j,(lo<=i/\i<hi)->e' i j=.dead (e i j).val:=λi j hh=>ay hh;have hne:∀i j,¬(lo<=i/\i<hi)->e' i j=e i j:=λi j hh=>aD hh;have kr:∀i j,i<len->j<sz->∀b k,(e i j).fp b k->(C.row .own sz A len cap e).fp b k:=λi j hi hj b k hf=>⟨rfl,.inr ⟨i,j,hi,hj,hf⟩⟩
 have s8:∀b k,(C.row .own sz A len cap e').fp b k->(C.row .own sz A len cap e).fp b k:=λb k hf=>by
  obtain⟨_,hA|⟨i,j,hi',hj,hf⟩⟩:=hf;·exact⟨rfl,.inl hA⟩
  ·by_cases hh:lo<=i/\i<hi;·rw[he i j hh] at hf;exact hf.elim
   ·rw[hne i j hh] at hf;exact kr i j hi' hj b k hf
 have JC:(C.row .own sz A len cap e').ok w (Zf zl zb):=by
  refine⟨h1,λi j hi' hj=>?_,λi j hi' hj=>?_,h4,λi j hi' hj b k hf=>?_⟩
  ·obtain⟨g,o,a1,a2,a3⟩:=h2 i j hi' hj;refine⟨g,o,a1,?_,a3⟩;rw[a2];by_cases hh:lo<=i/\i<hi;·rw[he i j hh];rfl
   ·rw[hne i j hh]
  ·obtain⟨a1,a2,a3,a4⟩:=h3 i j hi' hj;by_cases hh:lo<=i/\i<hi;·rw[he i j hh];exact⟨Inv.qG a1,trivial,trivial,trivial⟩
   ·rw[hne i j hh];exact⟨a1,a2,a3,a4⟩
  ·by_cases hh:lo<=i/\i<hi;·rw[he i j hh] at hf;exact hf.elim
   ·rw[hne i j hh] at hf;obtain⟨a1,a2⟩:=h5 i j hi' hj b k hf;refine⟨a1,λi' j' hi2 hj2 JP hf'=>?_⟩;by_cases o7:lo<=i'/\i'<hi;·rw[he i' j' o7] at hf';exact hf'
    ·rw[hne i' j' o7] at hf';exact a2 i' j' hi2 hj2 JP hf'
 have h0:=h.ff r p;have hs0:((G r).az (C.belows r p)).sub p=some (C.row .own sz A len cap e):=C.jj _ p _ _ (h.ok r) hs
 obtain⟨i1,i2,i3⟩:=h0.HX r p (λt=>C.gA _ _) hs0 (C.gm.row .own .own sz A len cap e e') ⟨rfl,λh=>h,λh=>h,λh=>h,λm h=>h⟩ ⟨trivial,trivial⟩ (Ext.refl (λ_ _=>False) w) (λb k hs=>hs.elim) JC (λb k hz=>hz)
  (λb k hz=>⟨λhf=>(h.fz r b k (hin b k (s8 b k hf))).1 hz,h.cE b k (.inl hz),λt hf=>by rw[C.cJ] at hf;exact((h.fz t b k hf).1 hz).elim⟩) (λb k hf=>.inl (s8 b k hf))
 have ko:(C.row .own sz A len cap e').er=.row .own sz (Dj lo hi ((List.range len).map λi=>(List.range sz).map λj=>(e i j).er)):=by
  simp only[C.er,Dj];congr 1;apply hO;intro i;rw[CL,C.cV,C.cV];split
  ·simp only[cj,dO];by_cases hh:lo<=i/\i<hi;·rw[ay hh,cK];exact b9 λj _=>by rw[he i j hh];rfl
   ·rw[aD hh];exact b9 λj _=>by rw[hne i j hh]
  ·rfl
 rw[ko] at i1;have hmem:∀x∈(cN (hi - lo) sz λi j=>e (i+lo) j).flatten,∃i j,i<hi - lo/\j<sz/\x=e (i+lo) j:=λx hx=>by obtain⟨i,j,hi',hj,rfl⟩:=mY hx;exact⟨i,j,hi',hj,rfl⟩
 have hlt:hi - lo≠0->A'=A.map λq=>jr (lo*sz) q:=λhne=>kj (by omega)
 have hrow:(((List.range len).map λi=>(List.range sz).map λj=>(e i j).er).take hi).drop lo=dH sz (hi - lo) λi j=>e (i+lo) j:=by
  unfold dH;rw[<-oH,<-lJ,uJ,lF hhi];apply hO;intro i;rw[C.cV,cY,oL];by_cases hh:i<hi - lo;·rw[ay hh,sD (by omega),qi];rfl
  ·rw[aD hh,kL (by simp;omega)];rfl
 have DK:∀i j,i<hi - lo->j<sz->(e (i+lo) j).plain:=λi j hi' hj=>Ld (h3 (i+lo) j (by omega) hj).1 (h3 (i+lo) j (by omega) hj).2.1;refine⟨A',cap',λi j=>e (i+lo) j,_,hv,hrow,λi j hi' hj=>?_,DK,⟨i1,λx hx=>?_,?_,λt=>(i2 t).trans (C.jk _ _),λt b k hf=>?_⟩⟩;·obtain⟨g,o,a1,a2,a3⟩:=h2 (i+lo) j (by omega) hj;refine⟨g,o+lo*sz,by rw[hlt (by omega),a1,cj,oO],?_⟩;rw[show o+lo*sz+i*sz+j=o+(i+lo)*sz+j by rw[fB];omega];exact a2
 ·obtain⟨i,j,hi',hj,rfl⟩:=hmem x hx;have hj2:i+lo<len:=by omega
  refine⟨(h3 (i+lo) j hj2 hj).2.2.2,λt b k hf hf'=>?_,λb k hf=>h.fz r b k (hin b k (kr _ _ hj2 hj b k hf)),λb k hf=>⟨r,hin b k (kr _ _ hj2 hj b k hf)⟩⟩;rcases i3 t b k hf' with hd|⟨_,hn⟩
  ·obtain⟨_,⟨o,hA⟩|⟨i',j',hi2,ad0,jz⟩⟩:=hd;·exact(h5 _ j hj2 hj b k hf).1 rfl o hA
   ·by_cases hh:lo<=i'/\i'<hi;·rw[he i' j' hh] at jz;exact jz
    ·rw[hne i' j' hh] at jz;refine(h5 _ j hj2 hj b k hf).2 i' j' hi2 ad0 (λe=>hh ?_) jz;injection e with e1 e2
     omega
  ·exact hn (kr _ _ hj2 hj b k hf)
 ·have hsub:(C.row .own sz (A.map λq=>jr (lo*sz) q) (hi - lo) (cap - lo) λi j=>e (i+lo) j).ok w (Zf zl zb):=(O3 ⟨h1,h2,h3,h4,h5⟩ hlo hhi (by omega) (by omega) (.inr rfl)).1;exact Ks hsub
 ·by_cases ht:t=r
  ·subst ht;rcases i3 t b k hf with hd|⟨hh,_⟩;·exact hin b k (s8 b k hd)
   ·rwa [C.cJ] at hh
  ·rw[de _ _ ht,C.cJ] at hf;exact hf
def aga(h:St c G zl s a w){d sz bytes:Nat}{tk:Tk}{ty ty' el Dm:TypeId}{i:TypeInfo}{v:Value}{x y:AV}{x' y':Operand}
  (ho:o.op=.call {callee:=.builtin .append,args:= #[x',y'],argTypes:= #[ty,ty']})(hu:P.underlying ty=some (.slice el))(vO:P.underlying ty'=some (.slice Dm))(hi:P.info? el=some i)(hz:i.zero=some v)(hsz:i.size=sz)(hb:i.bytes=bytes)(hb0:0<bytes)(h0:0<sz)(hvs:v.cells.size=sz)
  (hd:o.dst=some d)(hn:d<c.nt)(hx:aO x' x=true)(hy:aO y' y=true)(hK:aR P (.app d tk sz bytes x y) s K):Good P c o a w K:=by
 obtain⟨p,e1,e2,e3⟩:=ck h hx;obtain⟨y1,G1,f1,f2,f3,f4⟩:=qd .mv h.inv e3;simp only[aR] at hK;rw[e1] at f1 f4;rw[<-f1] at hK;have h1:=h.xP f4;have JV:=(f2.trans e2).symm;cases hE:y1.er with
 |row m z xs=>
  rw[hE] at hK;cases m with
  |own=>
   obtain⟨A,len,cap,e,rfl,rfl⟩:=yQ hE;obtain⟨rfl,hK⟩:=hK;obtain⟨q,q1,q2,q3⟩:=ck h1 hy;have hk1:∀i j,i<len->j<z->(e i j).plain:=λi j hi hj=>Ld (f4.ok.2.2.1 i j hi hj).1 (f4.ok.2.2.1 i j hi hj).2.1;have hxl:(dH z len e).length=len:=by simp[dH]
   have other:(∃ys,rowAt (take .mv (ax s x) s).2 (ax (take .mv (ax s x) s).2 y)=some (z,ys)/\((dH z len e).length+ys.length)*bytes<=140737488355328/\scalars ys/\K (put d (.row .own z (dH z len e++ys)) (take .mv (ax s x) s).2))->Good P c o a w K:=by
    rintro ⟨ys,k1,k2,k3,k4⟩;rw[<-q1] at k1;obtain⟨A2,m,cap2,e2,rfl,hv⟩:=Lt h1.inv q3 k1;have pn:(dH z m e2).length=m:=by simp[dH]
    refine HU h (bJ.one f4) ho hu vO hi hz hsz hb hb0 h0 hvs hd hn (fy.2 rfl) JV (by rw[<-q2];exact hv.val) (λi j hi hj=>hv.cell i j hi hj) (λi j hi hj=>?_) (qx λx hx=>?_) (by rw[hxl,pn] at k2;exact k2) hk1 k4;·obtain⟨s1,s2⟩:=SF (SE k3 hi hj);exact⟨s1,(hv.kid i j hi hj).2.2,λb k hf=>(s2 b k hf).elim⟩
    ·obtain⟨i,j,hi,hj,rfl⟩:=mY hx;exact(SF (SE k3 hi hj)).2
   cases tk with
   |al=>exact other hK
   |aS=>exact other hK
   |mv=>
    simp only at hK;by_cases hcut:∃v r p lo hi,q=.cut v r p lo hi
    ·obtain⟨vv,r,pp,lo,hi',rfl⟩:=hcut;rw[<-q1] at hK;simp only[C.er,dB] at hK;split at hK
     ·rename_i hh;split at hh
      ·rename_i z2 xs hl;simp only[X.row.injEq,true_and] at hh;obtain⟨rfl,rfl⟩:=hh;obtain⟨rfl,k2,k4⟩:=hK;obtain⟨A2,cap2,e3,G3,c1,c2,c3,c4,c5⟩:=ahP h1.inv q3.rf hl;rw[c2] at k2 k4;have pn:(dH z2 (hi' - lo) e3).length=hi' - lo:=by simp[dH]
       simp only[hl] at k4;refine HU h (bJ.cons f4 c5) ho hu vO hi hz hsz hb hb0 h0 hvs hd hn (bF ..) JV (A2:=A2) (m:=hi' - lo) (cap2:=cap2) (e2:=e3) (by rw[<-q2];exact c1) c3 (λi j hi hj=>?_) c5.apart (by rw[hxl,pn] at k2;exact k2) hk1 k4;have hm:e3 i j∈(cN (hi' - lo) z2 e3).flatten:=Hs.2 ⟨_,bp.2 ⟨i,by simpa using hi,rfl⟩,bp.2 ⟨j,by simpa using hj,rfl⟩⟩;refine⟨c4 i j hi hj,(c5.all _ hm).1,λb k hf=>⟨λhf'=>?_,_,b8 _ hm,hf⟩⟩;obtain⟨t,ht⟩:=(c5.all _ hm).2.2.2 b k hf;exact f4.sep t b k hf' ht
      ·cases hh
     ·exact hK.elim
    have hte:dB q.er (take .mv (ax s x) s).2=take .mv q.er (take .mv (ax s x) s).2:=by
     cases q with
     |cut v r p lo hi=>exact(hcut ⟨v,r,p,lo,hi,rfl⟩).elim
     |_=>rfl
    rw[<-q1,hte,q1] at hK;obtain⟨y2,G2,g1,g2,g3,g4⟩:=qd .mv h1.inv q3;rw[q1] at g1 g4;rw[<-g1] at hK;cases Jw:y2.er with
    |row m2 z2 xs2=>
     rw[Jw] at hK;cases m2 with
     |own=>
      obtain⟨A2,m,cap2,e2,rfl,rfl⟩:=yQ Jw;obtain⟨rfl,k2,k4⟩:=hK;have pn:(dH z2 m e2).length=m:=by simp[dH]
      obtain⟨r1,r2,r3,r4,r5⟩:=g4.ok;refine HU h (bJ.cons f4 (bJ.one g4)) ho hu vO hi hz hsz hb hb0 h0 hvs hd hn (bF ..) JV (A2:=A2) (m:=m) (cap2:=cap2) (e2:=e2) (by rw[<-q2,<-g2];rfl) (λi j hi hj=>?_) (λi j hi hj=>?_) (Ks g4.ok) (by rw[hxl,pn] at k2;exact k2) hk1 k4;·obtain⟨g,o2,a1,a2,_⟩:=r2 i j hi hj;exact⟨g,o2,a1,a2⟩
      ·obtain⟨a1,a2,a3,a4⟩:=r3 i j hi hj;refine⟨Ld a1 a2,a4,λb k hf=>?_⟩;have hin:(C.row .own z2 A2 m cap2 e2).fp b k:=C.jW a1 a3 hi hj hf;refine⟨λhf'=>?_,_,b8 _ (fy.2 rfl),hin⟩;obtain⟨t,ht⟩:=g4.dom b k hin;exact f4.sep t b k hf' ht
     |_=>exact hK.elim
    |_=>rw[Jw] at hK;exact hK.elim
  |_=>exact hK.elim
 |_=>rw[hE] at hK;exact hK.elim
end
end M
namespace M
open Go Go.RowKit
variable [Bs]
namespace X
def nr(m:Md){α:Type}(f:α->X):∀l:List α,dZ m (l.map f)=l.map λa=>(f a).md m
 |[]=>rfl
 |a::l=>by simp only[bD,dZ,nr m f l]
def FH(m:Md){α β:Type}(g:α->List β)(f:α->β->X):∀l:List α,bY m (l.map λa=>(g a).map (f a))=l.map λa=>(g a).map λb=>(f a b).md m
 |[]=>rfl
 |a::l=>by simp only[bD,bY,nr,FH m g f l]
end X
namespace C
def dN:C->C
 |.row _ sz A len cap e=>.row .af sz A len cap λi j=>(e i j).dN
 |.ptr _ g o n c=>.ptr .af g o n λj=>(c j).dN
 |.agg n c=>.agg n λj=>(c j).dN
 |.au n c=>.au n λj=>(c j).dN
 |.fn f n c=>.fn f n λj=>(c j).dN
 |.ref v _ _=>.dead v
 |.aC v _ _ _ _=>.dead v
 |.cut v _ _ _ _=>.dead v
 |.dead v=>.dead v
 |.int k n=>.int k n
 |.bool b=>.bool b
 |.str s=>.str s
def rL:∀c:C,c.dN.er=c.er.md .af
 |.row m sz A len cap e=>by simp only[dN,er,X.md];rw[X.FH .af (λ_=>List.range sz) (λi j=>(e i j).er)];congr 1;exact b9 λi _=>b9 λj _=>rL (e i j)
 |.ptr m g o n c=>by simp only[dN,er,X.md,X.nr];congr 1;exact b9 λj _=>rL (c j)
 |.agg n c=>by simp only[dN,er,X.md,X.nr];congr 1;exact b9 λj _=>rL (c j)
 |.au n c=>by simp only[dN,er,X.md,X.nr];congr 1;exact b9 λj _=>rL (c j)
 |.fn f n c=>by simp only[dN,er,X.md,X.nr];congr 1;exact b9 λj _=>rL (c j)
 |.ref _ _ _=>by simp only[dN,er,X.md]
 |.aC _ _ _ _ _=>by simp only[dN,er,X.md]
 |.cut _ _ _ _ _=>by simp only[dN,er,X.md]
 |.dead _=>by simp only[dN,er,X.md]
 |.int _ _=>by simp only[dN,er,X.md]
 |.bool _=>by simp only[dN,er,X.md]
 |.str _=>by simp only[dN,er,X.md]
def tU:∀c:C,c.dN.val=c.val
 |.row m sz A len cap e=>rfl
 |.ptr m g o n c=>rfl
 |.agg n c=>by simp only[dN,val];congr 2;exact b9 λj _=>tU (c j)
 |.au n c=>by simp only[dN,val];congr 2;exact b9 λj _=>tU (c j)
 |.fn f n c=>by simp only[dN,val];congr 2;exact b9 λj _=>tU (c j)
 |.ref _ _ _=>rfl
 |.aC _ _ _ _ _=>rfl
 |.cut _ _ _ _ _=>rfl
 |.dead _=>rfl
 |.int _ _=>rfl
 |.bool _=>rfl
 |.str _=>rfl
def A4:∀c:C,c.dN.bare
 |.row m sz A len cap e=>trivial
 |.ptr m g o n c=>λj _=>A4 (c j)
 |.agg n c=>λj _=>A4 (c j)
 |.au n c=>λj _=>A4 (c j)
 |.fn f n c=>λj _=>A4 (c j)
 |.ref _ _ _=>trivial
 |.aC _ _ _ _ _=>trivial
 |.cut _ _ _ _ _=>trivial
 |.dead _=>trivial
 |.int _ _=>trivial
 |.bool _=>trivial
 |.str _=>trivial
def pQ:∀(c:C) (b k:Nat),¬c.dN.fp b k
 |.row m sz A len cap e,b,k=>λh=>by cases h.1
 |.ptr m g o n c,b,k=>λh=>by cases h.1
 |.agg n c,b,k=>λ⟨j,_,hf⟩=>pQ (c j) b k hf
 |.au n c,b,k=>λ⟨j,_,hf⟩=>pQ (c j) b k hf
 |.fn f n c,b,k=>λh=>h
 |.ref _ _ _,b,k=>λh=>h
 |.aC _ _ _ _ _,b,k=>λh=>h
 |.cut _ _ _ _ _,b,k=>λh=>h
 |.dead _,b,k=>λh=>h
 |.int _ _,b,k=>λh=>h
 |.bool _,b,k=>λh=>h
 |.str _,b,k=>λh=>h
def FI{c:C}(h:c.cell):c.dN.cell:=by cases c<;>first|exact h|exact h.elim|trivial
def Rt{c:C}(h:c.fY):c.dN.fY:=by cases c<;>first|exact h|exact h.elim|trivial
def afo{c:C}(h:c.cQ):c.dN.cQ:=by cases c<;>first|exact h|exact h.elim|trivial
def K1(c:C):c.dN.fits .af:=by cases c<;>first|trivial|exact .inr (.inl rfl)
variable {w:World}{zl zb bG:Nat->Nat->Prop}
def wV(hb:∀b k,zb b k->bG b k):∀c:C,(∀b k,c.fp b k->bG b k)->c.ok w (Zf zl zb)->c.dN.ok w (Zf zl bG)
 |.row m sz A len cap e,hf,h=>by
  obtain⟨h1,h2,h3,h4,h5⟩:=h;refine⟨h1,λi j hi hj=>?_,λi j hi hj=>?_,λhm=>by (cases hm),λi j hi hj b k hh=>(pQ _ b k hh).elim⟩
  ·obtain⟨g,o,hA,hc,hz⟩:=h2 i j hi hj;refine⟨g,o,hA,by rw[tU];exact hc,λ_=>?_⟩;cases m with
   |own=>exact .inr (hf _ _ ⟨rfl,.inl ⟨o,hA⟩⟩)
   |sl=>exact .inl (hz (by simp))
   |af=>exact(hz (by simp)).imp id (hb _ _)
  ·obtain⟨a1,a2,a3,a4⟩:=h3 i j hi hj;exact⟨FI a1,afo a2,K1 _,wV hb (e i j) (λb k hk=>hf b k (jW a1 a3 hi hj hk)) a4⟩
 |.ptr m g o n c,hf,h=>by
  obtain⟨h1,h2,h3,h4⟩:=h;refine⟨λj hj=>?_,h2,λj hj=>?_,λj hj b k hh=>(pQ _ b k hh).elim⟩
  ·obtain⟨a1,a2,a3⟩:=h1 j hj;refine⟨by rw[tU];exact a1,λ_=>?_,λhm=>by (cases hm)⟩;cases m with
   |own=>exact .inr (hf _ _ ⟨rfl,.inl ⟨rfl,by omega,by omega⟩⟩)
   |sl=>exact .inl (a2 (by simp))
   |af=>exact(a2 (by simp)).imp id (hb _ _)
  ·obtain⟨a1,a2,a3⟩:=h3 j hj;exact⟨FI a1,K1 _,wV hb (c j) (λb k hk=>hf b k (kB a1 a2 hj hk)) a3⟩
 |.agg n c,hf,h=>⟨λj hj=>⟨FI (h.1 j hj).1,wV hb (c j) (λb k hk=>hf b k ⟨j,hj,hk⟩) (h.1 j hj).2⟩,λj hj b k hh=>(pQ _ b k hh).elim⟩
 |.au n c,hf,h=>⟨λj hj=>⟨Rt (h.1 j hj).1,wV hb (c j) (λb k hk=>hf b k ⟨j,hj,hk⟩) (h.1 j hj).2⟩,λj hj b k hh=>(pQ _ b k hh).elim⟩
 |.fn f n c,hf,h=>λj hj=>⟨wV hb (c j) (λb k hk=>((h j hj).2 b k hk).elim) (h j hj).1,λb k hh=>pQ _ b k hh⟩
 |.ref _ _ _,_,_=>trivial
 |.aC _ _ _ _ _,_,_=>trivial
 |.cut _ _ _ _ _,_,_=>trivial
 |.dead _,_,_=>trivial
 |.int _ _,_,_=>trivial
 |.bool _,_,_=>trivial
 |.str _,_,h=>h
end C
structure fS (w:World) (zl zb:Nat->Nat->Prop) (x:C):Prop where
 ok:x.ok w (Zf zl zb)
 bare:x.bare
 cP:∀b k,¬x.fp b k
section
variable {w:World}{zl zb bG:Nat->Nat->Prop}{G:Nat->C}{s:ah}
def KV(hb:∀b k,zb b k->bG b k){y:C}(hy:y.ok w (Zf zl zb))(hf:∀b k,y.fp b k->bG b k):fS w zl bG y.dN:=⟨C.wV hb y hf hy,C.A4 y,C.pQ y⟩
def AP(v:Value):fS w zl bG (.dead v):=⟨trivial,trivial,λ_ _ h=>h⟩
def F1(h:Inv w zl zb G s)(hb:∀b k,zb b k->bG b k)(hG:∀t b k,(G t).fp b k->bG b k){y:C}(hy:ey w zl zb G y):∃x:C,x.er=lq s y.er/\x.val=y.val/\fS w zl bG x/\(y.cell->x.cell)/\(y.fY->x.fY)/\x.fits .af:=by
 have jl:lq s y.er=y.er.md .af->∃x:C,x.er=lq s y.er/\x.val=y.val/\fS w zl bG x/\(y.cell->x.cell)/\(y.fY->x.fY)/\x.fits .af:=λe=>
  ⟨y.dN,by rw[C.rL,e],C.tU y,KV hb hy.ok λb k hf=>(hy.cP b k hf).elim,C.FI,C.Rt,C.K1 _⟩
 cases y with
 |ref v r p=>
  obtain⟨y',z',hs,hF,hv,m,z1,A,len,cap,e,rfl⟩:=hy.rf;cases hF with
  |row m m' sz' A len cap e e'=>refine⟨(C.row m' z1 A len cap e').dN,?_,by rw[C.tU];exact hv,KV hb (C.gY p hs (h.ok r)) λb k hf=>hG r b k (C.gE p hs (h.ok r) hf),λ_=>trivial,λ_=>trivial,.inr (.inl rfl)⟩;rw[C.rL];simp only[C.er,lq,look];rw[<-h.er,C.gD,hs];rfl
 |cut v r p lo hi=>
  obtain⟨m,sz,A,len,cap,e,A',cap',hs,hv,hlo,hhi,hcap,kj,-,-⟩:=hy.rf;have hok:=C.gY p hs (h.ok r);obtain⟨h1,h2,h3,h4,h5⟩:=(KV hb hok λb k hf=>hG r b k (C.gE p hs (h.ok r) hf)).ok;refine⟨.row .af sz A' (hi - lo) cap' λi j=>(e (i+lo) j).dN,?_,hv.symm,⟨⟨hcap,λi j hi' hj=>?_,λi j hi' hj=>h3 (i+lo) j (by omega) hj,λhm=>by (cases hm),λi j hi' hj b k hh=>(C.pQ _ b k hh).elim⟩,trivial,λb k hh=>by cases hh.1⟩,λ_=>trivial,λ_=>trivial,.inr (.inl rfl)⟩;·simp only[C.er,lq,look];rw[<-h.er,C.gD,hs];simp only[cj,C.er,X.md];rw[<-oH,<-lJ,uJ,lF hhi,oq,cK];show _=X.row .af sz (X.bY .af ((List.range (hi - lo)).map λi=>(List.range sz).map λj=>(e (i+lo) j).er));rw[X.FH .af (λ_=>List.range sz) (λi j=>(e (i+lo) j).er) (List.range (hi - lo))];congr 1;exact b9 λi _=>b9 λj _=>C.rL _
  ·obtain⟨g,o,q1,q2,q3⟩:=h2 (i+lo) j (by omega) hj;refine⟨g,o+lo*sz,by rw[kj (by omega),q1,cj,oO],?_,λhm=>?_⟩;·rw[show o+lo*sz+i*sz+j=o+(i+lo)*sz+j by rw[fB];omega];exact q2
   ·rw[show o+lo*sz+i*sz+j=o+(i+lo)*sz+j by rw[fB];omega];exact q3 hm
 |_=>exact jl rfl
def ae3(h:Inv w zl zb G s){y:C}(hy:ey w zl zb G y){cs:List X}(hc:gv s y.er=some cs):∃g k,y.val=.pointer (some ⟨g,k,none⟩)/\∀j,j<cs.length->zl g (k+j)\/zb g (k+j)\/∃t,(G t).fp g (k+j):=by
 have zs:∀{m:Md} {b k:Nat},m≠.own->Zf zl zb m b k->zl b k\/zb b k\/∃t,(G t).fp b k:=λ{m b k} hm hz=>by
  cases m with
  |own=>exact(hm rfl).elim
  |sl=>exact .inl hz
  |af=>exact hz.imp id .inl
 cases y with
 |ptr m g o n f=>
  simp only[C.er,gv] at hc;injection hc with hc
  refine⟨g,o,rfl,λj hj=>?_⟩;have hj:j<n:=by rw[<-hc] at hj;simpa using hj
  obtain⟨h1,h2,h3,h4⟩:=hy.ok;by_cases hm:m=.own;·exact(hy.cP g (o+j) ⟨hm,.inl ⟨rfl,by omega,by omega⟩⟩).elim
  ·exact zs hm ((h1 j hj).2.1 hm)
 |aC v r p i k0=>
  obtain⟨z,hz,hp⟩:=hy.rf;have rj:=C.gY p hz (h.ok r);simp only[C.er,gv,look] at hc;rw[<-h.er,C.gD,hz] at hc;simp only[cj] at hc;rcases hp with ⟨m,sz,g,o,len,cap,e,rfl,rfl⟩|⟨m,g,o,n,f,rfl,rfl,rfl⟩
  ·simp only[C.er,C.cV] at hc;by_cases hi:i<len
   ·rw[ay hi] at hc;simp only[cj,dO] at hc;refine⟨g,o+i*sz+k0,rfl,λj hj=>?_⟩;have hj:k0+j<sz:=by rw[<-hc] at hj;rw[<-lJ,oq,C.uY r p i ((List.range (sz - k0)).map (· +k0)) k0 (λj=>e i j) (by simp)] at hj;simp at hj;omega
    by_cases hm:m=.own;·subst hm;exact .inr (.inr ⟨r,C.gE p hz (h.ok r) ⟨rfl,.inl ⟨o,rfl⟩⟩⟩)
    ·obtain⟨g',o',hA,hcell,tB⟩:=rj.2.1 i (k0+j) hi hj;injection hA with hA
     injection hA with e1 e2
     injection e2 with e2
     subst e1;subst e2;rw[sy];exact zs hm (tB hm)
   ·rw[aD hi] at hc;cases hc
  ·simp only[C.er,dO] at hc;refine⟨g,o+k0,rfl,λj hj=>?_⟩;have hj:k0+j<n:=by rw[<-hc] at hj;rw[<-lJ,oq,C.uY r p 0 ((List.range (n - k0)).map (· +k0)) k0 f (by simp)] at hj;simp at hj;omega
   by_cases hm:m=.own;·subst hm;exact .inr (.inr ⟨r,C.gE p hz (h.ok r) ⟨rfl,.inl ⟨rfl,by omega,by omega⟩⟩⟩)
   ·have:=(rj.1 (k0+j) hj).2.1 hm;rw[sy];exact zs hm this
 |_=>simp[C.er,gv] at hc
def Ln(h:Inv w zl zb G s)(hb:∀b k,zb b k->bG b k)(hG:∀t b k,(G t).fp b k->bG b k):∀l:List C,(∀x∈l,ey w zl zb G x/\x.cell)->∃l':List C,l'.map C.er=ou s (l.map C.er)/\l'.map C.val=l.map C.val/\∀x∈l',fS w zl bG x/\x.cell/\x.fits .af
 |[],hl=>⟨[],rfl,rfl,λ_ hx=>(by cases hx)⟩
 |y::l,hl=>by
  obtain⟨x,x1,x2,x3,x4,_,x6⟩:=F1 h hb hG (hl y (bF ..)).1;obtain⟨l',l1,l2,l3⟩:=Ln h hb hG l λx hx=>hl x (b8 _ hx);refine⟨x::l',by simp[ou,x1,l1],by simp[x2,l2],λz hz=>?_⟩;rcases bZ.1 hz with rfl|hz;·exact⟨x3,x4 (hl y (bF ..)).2,x6⟩
  ·exact l3 z hz
def Si(F:List X->List X)(hF:∀l:List C,(∀x∈l,ey w zl zb G x/\x.cell)->∃l':List C,l'.map C.er=F (l.map C.er)/\l'.map C.val=l.map C.val/\∀x∈l',fS w zl bG x/\x.cell/\x.fits .af)(h:Inv w zl zb G s)(hb:∀b k,zb b k->bG b k)(hG:∀t b k,(G t).fp b k->bG b k){y:C}(hy:ey w zl zb G y){cs:List X}(hc:gv s y.er=some cs)(hne:cs≠[])(n:Nat)(hn:0<n):
  ∃x:C,x.er=.ptr .af (F (cs.take n))/\x.val=y.val/\fS w zl bG x:=by
 obtain⟨l,l1,⟨g,k,hv,hcell⟩,l3⟩:=Rb h hy hc;obtain⟨g',k',ez,hmem⟩:=ae3 h hy hc;rw[hv] at ez;injection ez with ez;injection ez with ez;injection ez with e1 e2 e3
 subst e1;subst e2;have td:l.length=cs.length:=by rw[<-l1];simp
 obtain⟨l',m1,m2,m3⟩:=hF (l.take n) λx hx=>l3 x (MQ hx);have hl':l'.length=min n l.length:=by have:=dr List.length m2;simpa using this
 have hpos:0<l.length:=by rw[td];exact List.length_pos_iff.2 hne
 refine⟨.ptr .af g k l'.length λj=>l'.getD j (.dead undef),?_,hv.symm,⟨⟨λj hj=>⟨?_,λ_=>?_,λhm=>by (cases hm)⟩,?_,λj hj=>⟨(m3 _ (cL hj _)).2.1,(m3 _ (cL hj _)).2.2,(m3 _ (cL hj _)).1.ok⟩,λj hj b k hh=>((m3 _ (cL hj _)).1.cP b k hh).elim⟩,λj hj=>(m3 _ (cL hj _)).1.bare,λb k hh=>by cases hh.1⟩⟩;·simp only[C.er,mh];rw[m1,oH,l1]
 ·have hj':j<l.length:=by omega
  have tj:(l'.getD j (.dead undef)).val=(l[j]).val:=by have:=dr (λt:List Value=>t[j]?) m2;simp only[cY,cw hj,cj] at this;rw[Nh (by omega),cw hj'] at this;rw[oV (cw hj)];simpa using this
  rw[tj];exact hcell j hj'
 ·rcases hmem j (by omega) with hz|hz|⟨t,ht⟩;·exact .inl hz
  ·exact .inr (hb _ _ hz)
  ·exact .inr (hG t _ _ ht)
 ·have:=hcell 0 hpos;rcases iB g w.heap.size with hg|hg;·exact hg
  ·simp[World.cell?,lI hg] at this
def Sj(h:Inv w zl zb G s)(hb:∀b k,zb b k->bG b k)(hG:∀t b k,(G t).fp b k->bG b k){y:C}(hy:ey w zl zb G y){cs:List X}(hc:gv s y.er=some cs)(hne:cs≠[])(n:Nat)(hn:0<n):
  ∃x:C,x.er=.ptr .af (ou s (cs.take n))/\x.val=y.val/\fS w zl bG x:=Si (ou s) (Ln h hb hG) h hb hG hy hc hne n hn
def ag1(h:Inv w zl zb G s)(hb:∀b k,zb b k->bG b k)(hG:∀t b k,(G t).fp b k->bG b k){y:C}(hy:ey w zl zb G y)(l5:y.cell):∃x:C,x.er=gC s y.er/\x.val=y.val/\fS w zl bG x/\x.cell/\x.fits .af:=by
 have jl:gC s y.er=lq s y.er->∃x:C,x.er=gC s y.er/\x.val=y.val/\fS w zl bG x/\x.cell/\x.fits .af:=λe=>by obtain⟨x,x1,x2,x3,x4,_,x6⟩:=F1 h hb hG hy;exact⟨x,by rw[e,x1],x2,x3,x4 l5,x6⟩
 cases y with
 |aC v r p i k=>
  have dead:gC s (C.aC v r p i k).er=.dead->∃x:C,x.er=gC s (C.aC v r p i k).er/\x.val=(C.aC v r p i k).val/\fS w zl bG x/\x.cell/\x.fits .af:=λe=>⟨.dead v,e.symm,rfl,AP v,l5,trivial⟩;cases hc:gv s (.aC r p i k) with
  |none=>exact dead (by simp only[C.er,gC,hc])
  |some cs=>
   cases cs with
   |nil=>exact dead (by simp only[C.er,gC,hc])
   |cons a cs=>
    obtain⟨x,x1,x2,x3⟩:=Sj h hb hG hy hc (by simp) (a::cs).length (by simp);rw[uH] at x1;have he:gC s (C.aC v r p i k).er=.ptr .af (ou s (a::cs)):=by simp only[C.er,gC,hc]
    rw[he];refine⟨x,x1,x2,x3,?_,?_⟩;·cases x<;>first|trivial|(simp[C.er] at x1)
    ·cases x with
     |ptr m g o n f=>simp only[C.er,X.ptr.injEq] at x1;exact .inr (.inl x1.1)
     |_=>simp[C.er] at x1
 |_=>exact jl rfl
def Sg(h:Inv w zl zb G s)(hb:∀b k,zb b k->bG b k)(hG:∀t b k,(G t).fp b k->bG b k):∀l:List C,(∀x∈l,ey w zl zb G x/\x.cell)->∃l':List C,l'.map C.er=jH s (l.map C.er)/\l'.map C.val=l.map C.val/\∀x∈l',fS w zl bG x/\x.cell/\x.fits .af
 |[],hl=>⟨[],rfl,rfl,λ_ hx=>(by cases hx)⟩
 |y::l,hl=>by
  obtain⟨x,x1,x2,x3⟩:=ag1 h hb hG (hl y (bF ..)).1 (hl y (bF ..)).2;obtain⟨l',l1,l2,l3⟩:=Sg h hb hG l λx hx=>hl x (b8 _ hx);refine⟨x::l',by simp[jH,x1,l1],by simp[x2,l2],λz hz=>?_⟩;rcases bZ.1 hz with rfl|hz;·exact x3
  ·exact l3 z hz
end
end M
namespace M
open Go Go.RowKit
variable [Bs]
section
variable {w:World}{zl zb bG:Nat->Nat->Prop}{G:Nat->C}{s:ah}
def Lm(h:Inv w zl zb G s)(hb:∀b k,zb b k->bG b k)(hG:∀t b k,(G t).fp b k->bG b k):∀l:List C,(∀x∈l,ey w zl zb G x)->∃l':List C,l'.map C.er=fI s (l.map C.er)/\l'.map C.val=l.map C.val/\∀x∈l',fS w zl bG x
 |[],hl=>⟨[],rfl,rfl,λ_ hx=>(by cases hx)⟩
 |y::l,hl=>by
  obtain⟨l',l1,l2,l3⟩:=Lm h hb hG l λx hx=>hl x (b8 _ hx);have hy:=hl y (bF ..)
  have done:∀x:C,x.val=y.val->fS w zl bG x->(fI s ((y::l).map C.er))=x.er::fI s (l.map C.er)->∃l':List C,l'.map C.er=fI s ((y::l).map C.er)/\l'.map C.val=(y::l).map C.val/\∀x∈l',fS w zl bG x:=λx x1 x2 x3=>
   ⟨x::l',by rw[x3,bD,l1],by simp[x1,l2],λz hz=>(bZ.1 hz).elim (λe=>e▸x2) (l3 z)⟩
  have jl:(fI s ((y::l).map C.er))=lq s y.er::fI s (l.map C.er)->∃l':List C,l'.map C.er=fI s ((y::l).map C.er)/\l'.map C.val=(y::l).map C.val/\∀x∈l',fS w zl bG x:=λe=>by obtain⟨x,x1,x2,x3,_⟩:=F1 h hb hG hy;exact done x x2 x3 (by rw[e,x1])
  cases y with
  |aC v r p i k=>
   cases hc:gv s (.aC r p i k) with
   |none=>exact done (.dead v) rfl (AP v) (by simp only[bD,C.er,fI,hc])
   |some cs=>
    cases cs with
    |nil=>exact done (.dead v) rfl (AP v) (by simp only[bD,C.er,fI,hc])
    |cons a cs=>obtain⟨x,x1,x2,x3⟩:=Si (jH s) (Sg h hb hG) h hb hG hy hc (by simp) (a::cs).length (by simp);refine done x x2 x3 ?_;rw[x1,uH];simp only[bD,C.er,fI,hc]
  |_=>exact jl rfl
def ag3(h:Inv w zl zb G s)(hb:∀b k,zb b k->bG b k)(hG:∀t b k,(G t).fp b k->bG b k){y:C}(hy:ey w zl zb G y):∃x:C,x.er=res s y.er/\x.val=y.val/\fS w zl bG x:=by
 have jl:res s y.er=lq s y.er->∃x:C,x.er=res s y.er/\x.val=y.val/\fS w zl bG x:=λe=>by obtain⟨x,x1,x2,x3,_⟩:=F1 h hb hG hy;exact⟨x,by rw[x1,e],x2,x3⟩
 cases y with
 |agg n f=>
  obtain⟨l',l1,l2,l3⟩:=Ln h hb hG ((List.range n).map f) λx hx=>by
   obtain⟨j,hj,rfl⟩:=bp.1 hx;have hj':j<n:=by simpa using hj
   exact⟨NF hy hj',(hy.ok.1 j hj').1⟩
  refine⟨gH l',?_,?_,⟨⟨λj hj=>⟨(l3 _ (cL hj _)).2.1,(l3 _ (cL hj _)).1.ok⟩,λj hj b k hf=>((l3 _ (cL hj _)).1.cP b k hf).elim⟩,λj hj=>(l3 _ (cL hj _)).1.bare,λb k hf=>?_⟩⟩;·rw[uX,l1,cK];rfl
  ·rw[yw,l2,cK];rfl
  ·obtain⟨x,hx,hf⟩:=(qv _ _ _).1 hf;exact(l3 x hx).1.cP b k hf
 |fn g n f=>
  obtain⟨l',l1,l2,l3⟩:=Lm h hb hG ((List.range n).map f) λx hx=>by
   obtain⟨j,hj,rfl⟩:=bp.1 hx;have hj':j<n:=by simpa using hj
   exact⟨(hy.ok j hj').1,hy.rf j hj',(hy.ok j hj').2⟩
  refine⟨.fn g l'.length λj=>l'.getD j (.dead undef),?_,?_,⟨λj hj=>⟨(l3 _ (cL hj _)).ok,(l3 _ (cL hj _)).cP⟩,λj hj=>(l3 _ (cL hj _)).bare,λb k hf=>hf⟩⟩;·show X.fn _ _=_;rw[mh l' _ C.er,l1,cK];rfl
  ·show Value.func _ _ _=_;rw[mh l' _ C.val,l2,cK];rfl
 |_=>exact jl rfl
def ag2(h:Inv w zl zb G s)(hb:∀b k,zb b k->bG b k)(hG:∀t b k,(G t).fp b k->bG b k){y:C}(hy:ey w zl zb G y)(n:Nat)(hn:0<n):∃x:C,x.er=xl n s y.er/\x.val=y.val/\fS w zl bG x:=by
 cases hc:gv s y.er with
 |none=>exact⟨.dead y.val,by simp only[xl,hc,C.er],rfl,AP _⟩
 |some cs=>
  cases cs with
  |nil=>exact⟨.dead y.val,by simp only[xl,hc,C.er],rfl,AP _⟩
  |cons a cs=>obtain⟨x,x1,x2,x3⟩:=Sj h hb hG hy hc (by simp) n hn;exact⟨x,by rw[x1];simp only[xl,hc],x2,x3⟩
end
section
variable {P:Program}{c:Ctx}{G:Nat->C}{zl:Nat->Nat->Prop}{s:ah}{a:Act}{w:World}{o:Oper}{K:ah->Prop}
def gJ:List Operand->List (AV×PM)->Bool
 |[],[]=>true
 |x'::l',(x,m)::l=>aO x' x && (match m with|.iF n=>decide (0<n)|.mut _=>(dR l).isNone|_=>true) && gJ l' l
 |_,_=>false
def MV(a:Act):List Operand->List (AV×PM)->List C->Prop
 |[],[],[]=>True
 |x'::l',(_,.mv)::l,m::ms=>m.val=a.eval x'/\MV a l' l ms
 |_::l',(_,.af)::l,_::ms=>MV a l' l ms
 |_::l',(_,.iF _)::l,_::ms=>MV a l' l ms
 |_::l',(_,.mut _)::l,_::ms=>MV a l' l ms
 |_,_,_=>False
def FL:∀{l':List Operand} {l:List (AV×PM)},gJ l' l=true->∀{G:Nat->C} {s:ah},St c G zl s a w->
  ∃ms G',ms.map C.er=(bU l s).1/\MV a l' l ms/\bJ w zl c.zb G ms G' (bU l s).2
 |[],[],_,G,s,h=>⟨[],G,rfl,trivial,bJ.nil h.inv⟩
 |x'::l',(x,pm)::l,hc,G,s,h=>by
  simp only[gJ,aA] at hc;have other:(bU ((x,pm)::l) s=(.dead::(bU l s).1,(bU l s).2))->(∀m ms,MV a l' l ms->MV a (x'::l') ((x,pm)::l) (m::ms))->∃ms G',ms.map C.er=(bU ((x,pm)::l) s).1/\MV a (x'::l') ((x,pm)::l) ms/\bJ w zl c.zb G ms G' (bU ((x,pm)::l) s).2:=λe hm=>by obtain⟨ms,G',g1,g2,g3⟩:=FL hc.2 h;rw[e];exact⟨.dead undef::ms,G',by simp[C.er,g1],hm _ _ g2,bJ.cons (fC.self h.inv trivial trivial λ_ _ h=>h) g3⟩
  cases pm with
  |mv=>obtain⟨p,p1,p2,p3⟩:=ck h hc.1.1;obtain⟨y,G1,f1,f2,f3,f4⟩:=qd .mv h.inv p3;obtain⟨ms,G',g1,g2,g3⟩:=FL hc.2 (h.xP f4);rw[p1] at f1 g1 g3 f4;exact⟨y::ms,G',by simp[bU,f1,g1],⟨by rw[f2,p2],g2⟩,bJ.cons f4 g3⟩
  |af=>exact other rfl λ_ _ h=>h
  |iF n=>exact other rfl λ_ _ h=>h
  | «mut» n=>exact other rfl λ_ _ h=>h
 |[],_::_,hc,_,_,_=>by cases hc
 |_::_,[],hc,_,_,_=>by cases hc
def CX{G2:Nat->C}{s2:ah}{bG:Nat->Nat->Prop}(h:St c G2 zl s2 a w)(hb:∀b k,c.zb b k->bG b k)(hG:∀t b k,(G2 t).fp b k->bG b k){y:C}(hy:y.ok w (Zf zl bG))(D8:y.bare):∀{l':List Operand} {l:List (AV×PM)},gJ l' l=true->∀{ms:List C},MV a l' l ms->
  (∀x∈ms,x.ok w (Zf zl bG)/\x.bare/\∀b k,x.fp b k->¬y.fp b k)->(ms.Pairwise λa b=>∀x k,a.fp x k->¬b.fp x k)->(∀(i:Nat) (x:AV) (n:Nat) (x':Operand),l[i]?=some (x,PM.mut n)->l'[i]?=some x'->y.val=a.eval x')->
  ∃cs:List C,cs.map C.er=gp s2 y.er l (ms.map C.er)/\cs.map C.val=l'.map a.eval/\(∀x∈cs,x.ok w (Zf zl bG)/\x.bare/\∀b k,x.fp b k->(∃m∈ms,m.fp b k)\/((dR l).isSome=true/\y.fp b k))/\cs.Pairwise λa b=>∀x k,a.fp x k->¬b.fp x k
 |[],[],_,[],_,_,_,_=>⟨[],rfl,rfl,λ_ hx=>(by cases hx),List.Pairwise.nil⟩
 |x'::l',(x,pm)::l,hc,[],hm,_,_,_=>by cases pm<;>exact hm.elim
 |x'::l',(x,pm)::l,hc,m::ms,hm,tg,gP,nY=>by
  simp only[gJ,aA] at hc;have vM:=fA.1 gP;have ih:=λ(hm:MV a l' l ms)=>CX h hb hG hy D8 hc.2 hm (λx hx=>tg x (b8 _ hx)) vM.2 (λi x n x' h1 h2=>nY (i+1) x n x' (by simpa using h1) (by simpa using h2))
  have Ra:∀z:C,z.val=a.eval x'->fS w zl bG z->MV a l' l ms->gp s2 y.er ((x,pm)::l) ((m::ms).map C.er)=z.er::gp s2 y.er l (ms.map C.er)->((dR l).isSome=true->(dR ((x,pm)::l)).isSome=true)->∃cs:List C,cs.map C.er=gp s2 y.er ((x,pm)::l) ((m::ms).map C.er)/\cs.map C.val=(x'::l').map a.eval/\
    (∀z∈cs,z.ok w (Zf zl bG)/\z.bare/\∀b k,z.fp b k->(∃m'∈m::ms,m'.fp b k)\/((dR ((x,pm)::l)).isSome=true/\y.fp b k))/\cs.Pairwise λa b=>∀x k,a.fp x k->¬b.fp x k:=λz z1 z2 hm' he hmo=>by
   obtain⟨cs,c1,c2,c3,c4⟩:=ih hm';refine⟨z::cs,by rw[he,bD,c1],by simp[z1,c2],λu hu=>?_,fA.2 ⟨λu _ b k hf=>(z2.cP b k hf).elim,c4⟩⟩;rcases bZ.1 hu with rfl|hu;·exact⟨z2.ok,z2.bare,λb k hf=>(z2.cP b k hf).elim⟩
   ·obtain⟨u1,u2,u3⟩:=c3 u hu;exact⟨u1,u2,λb k hf=>(u3 b k hf).imp (λ⟨m',hm',hf⟩=>⟨m',b8 _ hm',hf⟩) λhh=>⟨hmo hh.1,hh.2⟩⟩
  obtain⟨p,p1,p2,p3⟩:=ck h hc.1.1;cases pm with
  |af=>obtain⟨z,z1,z2,z3⟩:=ag3 h.inv hb hG p3;rw[p1] at z1;exact Ra z (by rw[z2,p2]) z3 hm (by simp only[bD,gp,z1]) λhh=>hh
  |iF n=>obtain⟨z,z1,z2,z3⟩:=ag2 h.inv hb hG p3 n (by simpa using hc.1.2);rw[p1] at z1;exact Ra z (by rw[z2,p2]) z3 hm (by simp only[bD,gp,z1]) λhh=>hh
  |mv=>
   obtain⟨hv,hm⟩:=hm;obtain⟨cs,c1,c2,c3,c4⟩:=ih hm;obtain⟨m1,m2,m3⟩:=tg m (bF ..);refine⟨m::cs,by simp only[bD,gp,c1],by simp[hv,c2],λu hu=>?_,fA.2 ⟨λu hu b k hf hf'=>?_,c4⟩⟩
   ·rcases bZ.1 hu with rfl|hu;·exact⟨m1,m2,λb k hf=>.inl ⟨u,bF ..,hf⟩⟩
    ·obtain⟨u1,u2,u3⟩:=c3 u hu;exact⟨u1,u2,λb k hf=>(u3 b k hf).imp (λ⟨m',hm',hf⟩=>⟨m',b8 _ hm',hf⟩) id⟩
   ·rcases(c3 u hu).2.2 b k hf' with ⟨m',hm',jz⟩|⟨_,jz⟩;·exact vM.1 m' hm' b k hf jz
    ·exact m3 b k hf jz
  | «mut» n=>
   obtain⟨cs,c1,c2,c3,c4⟩:=ih hm;have hno:dR l=none:=by simpa using hc.1.2
   have hv:=nY 0 x n x' rfl rfl;refine⟨y::cs,by simp only[bD,gp,c1],by simp[hv,c2],λu hu=>?_,fA.2 ⟨λu hu b k hf hf'=>?_,c4⟩⟩
   ·rcases bZ.1 hu with rfl|hu;·exact⟨hy,D8,λb k hf=>.inr ⟨rfl,hf⟩⟩
    ·obtain⟨u1,u2,u3⟩:=c3 u hu;refine⟨u1,u2,λb k hf=>(u3 b k hf).imp (λ⟨m',hm',hf⟩=>⟨m',b8 _ hm',hf⟩) λhh=>⟨rfl,hh.2⟩⟩
   ·rcases(c3 u hu).2.2 b k hf' with ⟨m',hm',jz⟩|⟨hh,_⟩;·exact(tg m' (b8 _ hm')).2.2 b k jz hf
    ·rw[hno] at hh;cases hh
 |[],_::_,hc,_,_,_,_,_=>by cases hc
 |_::_,[],hc,_,_,_,_,_=>by cases hc
 |[],[],_,_::_,hm,_,_,_=>hm.elim
def YQ{G2:Nat->C}{s2:ah}{bG:Nat->Nat->Prop}(h:St c G2 zl s2 a w)(hb:∀b k,c.zb b k->bG b k)(hG:∀t b k,(G2 t).fp b k->bG b k){x:AV}{x':Operand}(hx:aO x' x=true){f:FuncId}{cs:List X}(he:ax s2 x=.fn f cs):
  ∃l:List C,l.map C.er=nR s2 (some x)/\a.eval x'=.func (.func f) #[] (l.map C.val).toArray/\∀x∈l,fS w zl bG x:=by
 obtain⟨p,p1,p2,p3⟩:=ck h hx;rw[he] at p1;cases p with
 |fn g n fc=>
  simp only[C.er,X.fn.injEq] at p1;obtain⟨rfl,p1⟩:=p1
  obtain⟨l',l1,l2,l3⟩:=Lm h.inv hb hG ((List.range n).map fc) λx hx=>by
   obtain⟨j,hj,rfl⟩:=bp.1 hx;have hj':j<n:=by simpa using hj
   exact⟨(p3.ok j hj').1,p3.rf j hj',(p3.ok j hj').2⟩
  refine⟨l',?_,?_,l3⟩;·rw[l1,nR,he,<-p1,cK];rfl
  ·rw[<-p2,l2,cK];rfl
 |_=>simp[C.er] at p1
end
end M
namespace M
open Go Go.RowKit
variable [Bs]
def jP{l:List X}:X.clean.cC l=true↔∀x∈l,x.clean=true:=by
 induction l with
 |nil=>simp[X.clean.cC]
 |cons a l ih=>simp[X.clean.cC,ih]
def OM{l:List (List X)}:X.clean.bH l=true↔∀x∈l,∀y∈x,y.clean=true:=by
 induction l with
 |nil=>simp[X.clean.bH]
 |cons a l ih=>simp[X.clean.bH,ih,jP]
namespace C
def ek:C->C
 |.row _ sz A len cap e=>.row .sl sz A len cap λi j=>(e i j).ek
 |.ptr _ g o n c=>.ptr .sl g o n λj=>(c j).ek
 |.agg n c=>.agg n λj=>(c j).ek
 |.au n c=>.au n λj=>(c j).ek
 |.fn f n c=>.fn f n λj=>(c j).ek
 |.ref v _ _=>.dead v
 |.aC v _ _ _ _=>.dead v
 |.cut v _ _ _ _=>.dead v
 |.dead v=>.dead v
 |.int k n=>.int k n
 |.bool b=>.bool b
 |.str s=>.str s
def wW:∀c:C,c.ek.er=c.er.md .sl
 |.row m sz A len cap e=>by simp only[ek,er,X.md];rw[X.FH .sl (λ_=>List.range sz) (λi j=>(e i j).er)];congr 1;exact b9 λi _=>b9 λj _=>wW (e i j)
 |.ptr m g o n c=>by simp only[ek,er,X.md,X.nr];congr 1;exact b9 λj _=>wW (c j)
 |.agg n c=>by simp only[ek,er,X.md,X.nr];congr 1;exact b9 λj _=>wW (c j)
 |.au n c=>by simp only[ek,er,X.md,X.nr];congr 1;exact b9 λj _=>wW (c j)
 |.fn f n c=>by simp only[ek,er,X.md,X.nr];congr 1;exact b9 λj _=>wW (c j)
 |.ref _ _ _=>by simp only[ek,er,X.md]
 |.aC _ _ _ _ _=>by simp only[ek,er,X.md]
 |.cut _ _ _ _ _=>by simp only[ek,er,X.md]
 |.dead _=>by simp only[ek,er,X.md]
 |.int _ _=>by simp only[ek,er,X.md]
 |.bool _=>by simp only[ek,er,X.md]
 |.str _=>by simp only[ek,er,X.md]
def wY:∀c:C,c.ek.val=c.val
 |.row m sz A len cap e=>rfl
 |.ptr m g o n c=>rfl
 |.agg n c=>by simp only[ek,val];congr 2;exact b9 λj _=>wY (c j)
 |.au n c=>by simp only[ek,val];congr 2;exact b9 λj _=>wY (c j)
 |.fn f n c=>by simp only[ek,val];congr 2;exact b9 λj _=>wY (c j)
 |.ref _ _ _=>rfl
 |.aC _ _ _ _ _=>rfl
 |.cut _ _ _ _ _=>rfl
 |.dead _=>rfl
 |.int _ _=>rfl
 |.bool _=>rfl
 |.str _=>rfl
def rM:∀(c:C) (b k:Nat),¬c.ek.fp b k
 |.row m sz A len cap e,b,k=>λh=>by cases h.1
 |.ptr m g o n c,b,k=>λh=>by cases h.1
 |.agg n c,b,k=>λ⟨j,_,hf⟩=>rM (c j) b k hf
 |.au n c,b,k=>λ⟨j,_,hf⟩=>rM (c j) b k hf
 |.fn f n c,b,k=>λh=>h
 |.ref _ _ _,b,k=>λh=>h
 |.aC _ _ _ _ _,b,k=>λh=>h
 |.cut _ _ _ _ _,b,k=>λh=>h
 |.dead _,b,k=>λh=>h
 |.int _ _,b,k=>λh=>h
 |.bool _,b,k=>λh=>h
 |.str _,b,k=>λh=>h
def K2{c:C}(h:c.cell):c.ek.cell:=by cases c<;>first|exact h|exact h.elim|trivial
def afp{c:C}(h:c.fY):c.ek.fY:=by cases c<;>first|exact h|exact h.elim|trivial
def afr{c:C}(h:c.cQ):c.ek.cQ:=by cases c<;>first|exact h|exact h.elim|trivial
def Ru(c:C):c.ek.fits .sl:=by cases c<;>first|trivial|exact .inr (.inl rfl)
def afq{c:C}(h:c.plain):c.ek.plain:=by cases c<;>first|exact h|exact h.elim|trivial
variable {w:World}{zl aH zb:Nat->Nat->Prop}
def wX(hz:∀b k,zl b k->aH b k):∀c:C,c.er.clean=true->(∀b k,c.fp b k->aH b k)->c.ok w (Zf zl zb)->c.ek.ok w (Zf aH zb)
 |.row m sz A len cap e,hcl,hf,h=>by
  obtain⟨h1,h2,h3,h4,h5⟩:=h;simp only[er,X.clean,aA] at hcl;refine⟨h1,λi j hi hj=>?_,λi j hi hj=>?_,λhm=>by (cases hm),λi j hi hj b k hh=>(rM _ b k hh).elim⟩
  ·obtain⟨g,o,hA,hc,tB⟩:=h2 i j hi hj;refine⟨g,o,hA,by rw[wY];exact hc,λ_=>?_⟩;cases m with
   |own=>exact hf _ _ ⟨rfl,.inl ⟨o,hA⟩⟩
   |sl=>exact hz _ _ (tB (by simp))
   |af=>simp at hcl
  ·obtain⟨a1,a2,a3,a4⟩:=h3 i j hi hj;exact⟨K2 a1,afr a2,Ru _,wX hz (e i j) (OM.1 hcl.2 _ (bp.2 ⟨i,by simpa using hi,rfl⟩) _ (bp.2 ⟨j,by simpa using hj,rfl⟩)) (λb k hk=>hf b k (jW a1 a3 hi hj hk)) a4⟩
 |.ptr m g o n c,hcl,hf,h=>by
  obtain⟨h1,h2,h3,h4⟩:=h;simp only[er,X.clean,aA] at hcl;refine⟨λj hj=>?_,h2,λj hj=>?_,λj hj b k hh=>(rM _ b k hh).elim⟩
  ·obtain⟨a1,a2,a3⟩:=h1 j hj;refine⟨by rw[wY];exact a1,λ_=>?_,λhm=>by (cases hm)⟩;cases m with
   |own=>exact hf _ _ ⟨rfl,.inl ⟨rfl,by omega,by omega⟩⟩
   |sl=>exact hz _ _ (a2 (by simp))
   |af=>simp at hcl
  ·obtain⟨a1,a2,a3⟩:=h3 j hj;exact⟨K2 a1,Ru _,wX hz (c j) (jP.1 hcl.2 _ (bp.2 ⟨j,by simpa using hj,rfl⟩)) (λb k hk=>hf b k (kB a1 a2 hj hk)) a3⟩
 |.agg n c,hcl,hf,h=>by simp only[er,X.clean] at hcl;exact⟨λj hj=>⟨K2 (h.1 j hj).1,wX hz (c j) (jP.1 hcl _ (bp.2 ⟨j,by simpa using hj,rfl⟩)) (λb k hk=>hf b k ⟨j,hj,hk⟩) (h.1 j hj).2⟩,λj hj b k hh=>(rM _ b k hh).elim⟩
 |.au n c,hcl,hf,h=>by simp only[er,X.clean] at hcl;exact⟨λj hj=>⟨afp (h.1 j hj).1,wX hz (c j) (jP.1 hcl _ (bp.2 ⟨j,by simpa using hj,rfl⟩)) (λb k hk=>hf b k ⟨j,hj,hk⟩) (h.1 j hj).2⟩,λj hj b k hh=>(rM _ b k hh).elim⟩
 |.fn f n c,hcl,hf,h=>by simp only[er,X.clean] at hcl;exact λj hj=>⟨wX hz (c j) (jP.1 hcl _ (bp.2 ⟨j,by simpa using hj,rfl⟩)) (λb k hk=>((h j hj).2 b k hk).elim) (h j hj).1,λb k hh=>rM _ b k hh⟩
 |.ref _ _ _,_,_,_=>trivial
 |.aC _ _ _ _ _,_,_,_=>trivial
 |.cut _ _ _ _ _,_,_,_=>trivial
 |.dead _,_,_,_=>trivial
 |.int _ _,_,_,_=>trivial
 |.bool _,_,_,_=>trivial
 |.str _,_,_,h=>h
end C
variable {w:World}{zl zb:Nat->Nat->Prop}{G:Nat->C}{s:ah}
def Inv.more{aH:Nat->Nat->Prop}(h:Inv w zl zb G s)(h1:∀b k,zl b k->aH b k)(h2:∀b k,aH b k->(zl b k\/∀t,¬(G t).fp b k)/\b<w.heap.size):Inv w aH zb G s where
 er:=h.er
 ok:=λt=>C.gB (λm b k hz=>by
  cases m with
  |own=>exact hz
  |sl=>exact h1 b k hz
  |af=>exact hz.imp (h1 b k) id) _ (h.ok t)
 sep:=h.sep
 fz:=λt b k hf=>⟨λhz=>by
  rcases(h2 b k hz).1 with hh|hh;·exact(h.fz t b k hf).1 hh
  ·exact hh t hf,(h.fz t b k hf).2⟩
 rf:=h.rf
 cE:=λb k hz=>hz.elim (λhz=>(h2 b k hz).2) λhz=>h.cE b k (.inr hz)
section
variable {P:Program}{c:Ctx}{a:Act}{o:Oper}{K:ah->Prop}
def St.more{aH:Nat->Nat->Prop}(h:St c G zl s a w)(h1:∀b k,zl b k->aH b k)(h2:∀b k,aH b k->(zl b k\/∀t,¬(G t).fp b k)/\b<w.heap.size)(h3:∀b k,aH b k->zl b k\/c.F0 b k\/c.w0.heap.size<=b):St c G aH s a w where
 inv:=h.inv.more h1 h2
 val:=h.val
 size:=h.size
 small:=h.small
 defers:=h.defers
 tr:=⟨h.tr.ext,h.tr.dom,λb k hz=>h1 b k (h.tr.oM b k hz),λb k hz=>(h3 b k hz).elim (h.tr.zl b k) .inr,h.tr.gl,h.tr.yX⟩
 args:=h.args
def R9{d:Nat}{v:Value}(hd:a.tmps.getD d undef=v)(hn:d<a.tmps.size):a.put (some d) v=a:=by
 unfold Act.put;simp only;congr 1;apply HA;intro i;by_cases e:d=i;·subst e;rw[TS hn,<-hd,uO,HF hn];rfl
 ·rw[Nq e]
def PR{d:Nat}{s':ah}(h:St c G zl s a w)(hn:d<c.nt)(cs:List C)(hcs:∀x∈cs,yu w zl c.zb G x)(k:List C->C)(kx:List X->X)(hk:∀l:List C,l.length=cs.length->(k l).er=kx (l.map C.er))
  (hkv:∀l:List C,l.map C.val=cs.map C.val->(k l).val=a.tmps.getD d undef)(hko:∀{aH:Nat->Nat->Prop},∀l:List C,l.length=cs.length->(∀x∈l,x.plain/\x.ok w (Zf aH c.zb)/\∀b k,¬x.fp b k)->(k l).ok w (Zf aH c.zb)/\(∀b q,¬(k l).fp b q)/\∀G,(k l).rf G)
  (hg:yW d (cs.map C.er) kx s=some s'):∃G' aH,St c G' aH s' a w:=by
 obtain⟨l,G1,e1,e2,e3,e4,e5⟩:=Cg cs G s h.inv hcs;unfold yW at hg;rw[<-e1] at hg;cases hcl:X.clean.cC (l.map C.er) with
 |false=>rw[hcl] at hg;cases hg
 |true=>
  rw[hcl,lG] at hg;have hlen:l.length=cs.length:=by have:=dr List.length e2;simpa using this
  let aH:Nat->Nat->Prop:=λb k=>zl b k\/∃y∈l,y.fp b k;have h1:St c G1 zl (bV (cs.map C.er) s).2 a w:=h.move e4.inv e4.val (Ext.refl (λ_ _=>False) w) (λ_ _ hs=>hs.elim) (λt b k hf=>.inl ⟨t,e4.mono t b k hf⟩)
  have h2:St c G1 aH (bV (cs.map C.er) s).2 a w:=h1.more (λb k hz=>.inl hz) (λb k hz=>by
   rcases hz with hz|⟨y,hy,hf⟩;·exact⟨.inl hz,h1.inv.cE b k (.inl hz)⟩
   ·exact⟨.inr λt=>(e4.all y hy).2.1 t b k hf,C.fE _ (e4.all y hy).1 b k hf⟩) (λb k hz=>by
   rcases hz with hz|⟨y,hy,hf⟩;·exact .inl hz
   ·obtain⟨t,ht⟩:=(e4.all y hy).2.2.2 b k hf;exact .inr (h.tr.dom t b k ht))
  let m:=l.map C.ek;have hml:m.length=cs.length:=by simp[m,hlen]
  have ad5:m.map C.er=X.dZ .sl (l.map C.er):=by rw[X.nr];simp only[m,cK];exact b9 λx _=>C.wW x
  have Qw:m.map C.val=cs.map C.val:=by rw[<-e2];simp only[m,cK];exact b9 λx _=>C.wY x
  have hmem:∀x∈m,x.plain/\x.ok w (Zf aH c.zb)/\∀b k,¬x.fp b k:=λx hx=>by obtain⟨y,hy,rfl⟩:=bp.1 hx;exact⟨C.afq (e3 y hy),C.wX (λb k hz=>.inl hz) y (jP.1 hcl _ (fK hy)) (λb k hf=>.inr ⟨y,hy,hf⟩) (e4.all y hy).1,C.rM y⟩
  rw[<-ad5] at hg;cases hb:mH (cs.map C.er) (m.map C.er) (bV (cs.map C.er) s).2 with
  |none=>rw[hb] at hg;cases hg
  |some s3=>
   rw[hb] at hg;simp only[cj,dO] at hg;subst hg;obtain⟨G2,g1,g2,g3⟩:=CZ cs m h2.inv hml (λv r p hm=>e5 v r p ((hcs _ hm).weak v r p rfl)) (λi x y hx hy=>by have hy':=hmem y (lE hy);refine⟨hy'.1,?_,hy'.2.1⟩;have:=dr (λt:List Value=>t[i]?) Qw;simpa [cY,hx,hy] using this) (λy hy=>⟨λt b k hf=>((hmem y hy).2.2 b k hf).elim,λb k hf=>((hmem y hy).2.2 b k hf).elim⟩) (qx λx hx=>(hmem x hx).2.2) hb
   have h3:St c G2 aH s3 a w:=h2.move g1 g2 (Ext.refl (λ_ _=>False) w) (λ_ _ hs=>hs.elim) (λt b k hf=>by
    rcases g3 t b k hf with hh|⟨y,hy,hh⟩;·exact .inl ⟨t,hh⟩
    ·exact((hmem y hy).2.2 b k hh).elim)
   obtain⟨o1,o2,o3⟩:=hko m hml hmem;obtain⟨G3,h4⟩:=h3.put hn o1 (λt _ b k hf=>(o2 b k hf).elim) (λb k hf=>(o2 b k hf).elim) (o3 G2) (λb k hf=>(o2 b k hf).elim);rw[hk m hml,R9 (hkv m Qw).symm (by rw[h.size];exact hn)] at h4;exact⟨G3,aH,h4⟩
def adl{fz:Bool}{d:Nat}{s':ah}(h:St c G zl s a w)(hn:d<c.nt)(hg:ghost fz d s=some s'):∃G' aH,St c G' aH s' a w:=by
 obtain⟨e1,e2,e3⟩:=RR h d;have hd:d<base:=kG hn h.small;have hval:a.tmps.getD d undef=(G d).val:=(h.val d hd).symm;unfold ghost at hg;cases fz with
 |false=>
  obtain⟨y,G1,f1,f2,f3,f4⟩:=qd .mv h.inv e3;rw[e1] at f1 f4;have n5:y.val=a.tmps.getD d undef:=by rw[f2,e2,hval]
  simp only[qk,dO] at hg;subst hg;obtain⟨G2,h2⟩:=h.Mn f4 hn;rw[f1,R9 n5.symm (by rw[h.size];exact hn)] at h2;exact⟨G2,zl,h2⟩
 |true=>
  simp only[lG] at hg;rw[<-e1] at hg;cases hx:(G d).alias d [] with
  |agg n f=>
   rw[hx] at hg e2 e3;have er:(C.agg n f).er=.agg (((List.range n).map f).map C.er):=by simp only[C.er,cK];rfl
   rw[er] at hg;have hlen:((List.range n).map f).length=n:=by simp
   refine PR h hn ((List.range n).map f) (λx hx=>?_) gH .agg (λl _=>uX l) (λl hl=>?_) (λl hl hm=>⟨⟨λj hj=>⟨C.lp (hm _ (cL hj _)).1,(hm _ (cL hj _)).2.1⟩,λj hj b q hf=>((hm _ (cL hj _)).2.2 b q hf).elim⟩,λb q hf=>?_,λG j hj=>C.oo (hm _ (cL hj _)).1 G⟩) hg
   ·obtain⟨j,hj,rfl⟩:=bp.1 hx;have hj':j<n:=by simpa using hj
    exact⟨(e3.ok.1 j hj').1,(e3.ok.1 j hj').2,λb k hf=>e3.cP b k ⟨j,hj',hf⟩,λv r p e=>Cl (by rw[<-e];exact e3.rf j hj')⟩
   ·rw[yw,hl,hval,<-e2];simp only[C.val,cK];rfl
   ·obtain⟨x,hx,hf⟩:=(qv _ _ _).1 hf;exact(hm x hx).2.2 b q hf
  |ref v r p=>
   rw[hx] at hg e2 e3;refine PR h hn [.ref v r p] (λx hx=>?_) (λl=>l.headD (.dead undef)) (λl=>l.headD .dead) (λl hl=>?_) (λl hl=>?_) (λl hl hm=>?_) hg;·obtain rfl:=fy.1 hx;exact⟨Lr e3.rf,trivial,λb k hf=>hf,λv' r' p' e=>by cases e;exact Cl e3.rf⟩
   ·cases l with
    |nil=>simp at hl
    |cons x l=>rfl
   ·cases l with
    |nil=>simp at hl
    |cons x l=>
     have:x.val=v:=by have:=dr List.head? hl;simpa [C.val] using this
     show x.val=_;rw[this,hval,<-e2];rfl
   ·cases l with
    |nil=>simp at hl
    |cons x l=>obtain⟨a1,a2,a3⟩:=hm x (bF ..);exact⟨a2,a3,λG=>C.oo a1 G⟩
  |_=>rw[hx] at hg;simp only[C.er,dO] at hg;subst hg;exact⟨G,zl,h⟩
def agv(h:St c G zl s a w){d sz:Nat}{fz agg:Bool}{ty:TypeId}{x:AV}{x':Operand}(ho:o.op=.load ty x')(hsz:∃i,P.info? ty=some i/\i.size=sz)(mQ:∃dd,P.underlying ty=some dd/\(match dd with|.struct _=>true|.array _ _=>true|_=>false)=agg)
  (h1:agg=true\/sz=1)(hd:o.dst=some d)(hn:d<c.nt)(hx:aO x' x=true)
  (hK:aR P (.ni d fz sz agg x) s K):dJ P c o a w K:=by obtain⟨cs,k1,k2,s',k3,k4⟩:=hK;obtain⟨v,hr,G1,sE,s1,q1,q2⟩:=RP (K:=λt=>t=put d (bif agg then .agg (cs.take sz) else cs.headD .dead) s) h ho hsz mQ h1 hd hn hx ⟨cs,k1,k2,rfl⟩;subst q1;obtain⟨G2,sF,h2⟩:=adl q2 hn k3;exact⟨v,hr,G2,sF,s',k4,h2⟩
end
end M
namespace M
open Go Go.RowKit
variable [Bs]
section
variable {P:Program}{c:Ctx}{G:Nat->C}{zl:Nat->Nat->Prop}{s:ah}{a:Act}{w:World}{o:Oper}{K:ah->Prop}
def qt(P:Program)(c:Ctx)(o:Oper)(a:Act)(w:World)(K:ah->Prop)(q:Bool):Prop:=
 ∃f args,(execOp a.eval o).run P w=.ok (.enter f args) w/\Calls P f args w λe w'=>∃v,e=.returned v/\Rel q w w'/\∃G' aH s',K s'/\St c G' aH s' (a.put o.dst v) w'
def Lx{f:FuncId}{fn:Func}(hf:P.funcs[f]?=some fn)(hname:(fn.name== "runtime.NumGoroutine")=false) (hb:fn.body.isNone=false) (args:Array Value) (w:World):(callFunc f args).run P w=.ok (.enter f args) w:=by simp only[callFunc,Sem.run_bind,run_program,Result.andThen_ok,hf,hname,hb,fL,cT,Sem.run_pure]
def St.result{aH:Nat->Nat->Prop}(h:St c G aH s a w){x:C}(d:Option Nat)(hn:∀n,d=some n->n<c.nt)(hok:x.ok w (Zf aH λ_ _=>False))(hb:x.bare)(hsep:∀t b k,x.fp b k->¬(G t).fp b k)(hfz:∀b k,x.fp b k->¬aH b k/\¬c.zb b k)
  (hdom:∀b k,x.fp b k->c.F0 b k\/c.w0.heap.size<=b):∃G',St c G' aH (fO d x.er s) (a.put d x.val) w:=by
 cases d with
 |none=>exact⟨G,h⟩
 |some n=>
  refine h.put (hn n rfl) (C.gB (λm b k hz=>?_) _ hok) (λt _=>hsep t) hfz (C.qB G _ hb) hdom;cases m with
  |own=>exact hz
  |sl=>exact hz
  |af=>exact hz.imp id λh=>h.elim
def St.after{aH:Nat->Nat->Prop}{w':World}{G1:Nat->C}{s1:ah}{S:Nat->Nat->Prop}(h:St c G zl s a w)(hi:Inv w' aH c.zb G1 s1)(hv:∀t,(G1 t).val=(G t).val)(hE:Ext S w w')(hS:∀b k,S b k->∃t,(G t).fp b k)
  (hd:∀t b k,(G1 t).fp b k->(∃u,(G u).fp b k)\/w.heap.size<=b)(hz1:∀b k,zl b k->aH b k)(hz2:∀b k,aH b k->zl b k\/(∃t,(G t).fp b k)\/w.heap.size<=b):St c G1 aH s1 a w' where
 inv:=hi
 val:=λt ht=>(hv t).trans (h.val t ht)
 size:=h.size
 small:=h.small
 defers:=h.defers
 tr:=⟨h.tr.ext.trans hE (λb k hs hb=>by
   obtain⟨t,ht⟩:=hS b k hs;rcases h.tr.dom t b k ht with hh|hh;·exact hh
   ·omega),λt b k hf=>by
   rcases hd t b k hf with ⟨u,hu⟩|hb;·exact h.tr.dom u b k hu
   ·exact .inr (eO h.tr.ext.size hb),λb k hz=>hz1 b k (h.tr.oM b k hz),λb k hz=>by
   rcases hz2 b k hz with hz|⟨t,ht⟩|hb;·exact h.tr.zl b k hz
   ·exact .inr (h.tr.dom t b k ht)
   ·exact .inr (.inr (eO h.tr.ext.size hb)),h.tr.gl,h.tr.yX⟩
 args:=λi v hi=>(hv _).trans (h.args i v hi)
def St.Js(h:St c G zl s a w)(bG:Nat->Nat->Prop)(hz:∀b k,c.zb b k->bG b k):CQ w zl bG:=λb hb=>by
 obtain⟨h1,h2⟩:=h.tr.gl b hb;refine⟨?_,λk=>(h2 k).imp (h.tr.oM b k) (hz b k)⟩;rw[<-h1]
 have hlt:b<c.w0.heap.size:=by
  rcases iB b c.w0.heap.size with h|h;·exact h
  ·rw[lI h] at h1;have:=Array.getElem?_eq_none_iff.1 h1.symm;omega
 rcases h.tr.ext.block b hlt with e|⟨arr,fT,t,fz,e1,e2,e3,e4⟩;·exact e
 ·have:fT=arr:=by apply HA;intro i;exact e4 i (h.tr.yX b i hb)
  rw[e1,e2,this]
def GZ{G1:Nat->C}{s1:ah}{l:List C}(h:St c G zl s a w)(hT:bJ w zl c.zb G l G1 s1):St c G1 zl s1 a w:=
 h.move hT.inv hT.val (Ext.refl (λ_ _=>False) w) (λ_ _ hs=>hs.elim) (λt b k hf=>.inl ⟨t,hT.mono t b k hf⟩)
structure sG (P:Program) (c:Ctx) (zl:Nat->Nat->Prop) (o:Oper) (a:Act) (w:World) (l':List Operand) (f:FuncId) (fv:Option AV):Prop where
 run:∃oR:List Value,(execOp a.eval o).run P w=.ok (.enter f ((l'.map a.eval)++oR).toArray) w/\
  ∀{G2:Nat->C} {s2:ah} {bG:Nat->Nat->Prop},St c G2 zl s2 a w->(∀b k,c.zb b k->bG b k)->(∀t b k,(G2 t).fp b k->bG b k)->qF s2 fv f->∃l:List C,l.map C.er=nR s2 fv/\l.map C.val=oR/\∀x∈l,fS w zl bG x
def jm:List (AV×PM)->Bool
 |[]=>true
 |(_,.af)::l=>jm l
 |(_,.iF _)::l=>jm l
 |_::_=>false
def K4:∀{l:List (AV×PM)} (s:ah),jm l=true->∀x∈(bU l s).1,x=.dead
 |[],s,_,x,hx=>by cases hx
 |(_,.af)::l,s,h,x,hx=>(bZ.1 hx).elim id (K4 (l:=l) s h x)
 |(_,.iF _)::l,s,h,x,hx=>(bZ.1 hx).elim id (K4 (l:=l) s h x)
 |(_,.mv)::l,s,h,x,hx=>by cases h
 |(_,.mut _)::l,s,h,x,hx=>by cases h
def w5:∀{l:List (AV×PM)},jm l=true->dR l=none
 |[],_=>rfl
 |(_,.af)::l,h=>w5 (l:=l) h
 |(_,.iF _)::l,h=>w5 (l:=l) h
 |(_,.mv)::l,h=>by cases h
 |(_,.mut _)::l,h=>by cases h
def OD(q:Bool)(h:St c G zl s a w){l':List Operand}{as:List (AV×PM)}(hc:gJ l' as=true)(hno:dR as=none){f:FuncId}{fv:Option AV}(hop:sG P c zl o a w l' f fv)(hq:q=true->jm as=true)(hn:∀n,o.dst=some n->n<c.nt)(hK:sQ P f o.dst as fv s K):qt P c o a w K q:=by
 obtain⟨k1,k2⟩:=hK;rw[hno] at k2;obtain⟨k2,k3⟩:=k2;obtain⟨ms,G1,g1,g2,hT⟩:=FL hc h;obtain⟨oR,hrun,za⟩:=hop.run;have h1:=GZ h hT;rw[<-g1] at k1 k3;have jA:∀b k,c.zb b k->(c.zb b k\/∃t,(G1 t).fp b k):=λb k hz=>.inl hz;have ri:∀t b k,(G1 t).fp b k->(c.zb b k\/∃t,(G1 t).fp b k):=λt b k hf=>.inr ⟨t,hf⟩;obtain⟨l,l1,l2,l3⟩:=za (bG:=λb k=>c.zb b k\/∃t,(G1 t).fp b k) h1 jA ri k2
 have ad6:∀x∈ms,x.ok w (Zf zl λb k=>c.zb b k\/∃t,(G1 t).fp b k)/\x.bare/\∀b k,x.fp b k->¬(C.dead undef).fp b k:=λx hx=>by
  refine⟨C.gB (λm b k hz=>?_) _ (hT.all x hx).1,(C.lM x).1 (C.vh.1 k1 _ (fK hx)),λ_ _ _ h=>h⟩;cases m with
  |own=>exact hz
  |sl=>exact hz
  |af=>exact hz.imp id .inl
 obtain⟨cs,c1,c2,c3,c4⟩:=CX (bG:=λb k=>c.zb b k\/∃t,(G1 t).fp b k) h1 jA ri (y:=.dead undef) trivial trivial hc g2 ad6 hT.apart (λi x n x' hi _=>by
  exfalso
  have:∀{l:List (AV×PM)} {i:Nat},l[i]?=some (x,PM.mut n)->dR l≠none:=by
   intro l;induction l with
   |nil=>intro i hi;simp at hi
   |cons p l ih=>
    intro i hi;obtain⟨y,pm⟩:=p;cases i with
    |zero=>simp only[yg,dO,jK] at hi;obtain⟨_,rfl⟩:=hi;simp[dR]
    |succ i=>have:=ih (by simpa using hi);cases pm<;>simp[dR]<;>first|exact this|skip
  exact this hi hno)
 have cr:∀x∈cs++l,∀b k,x.fp b k->∃m∈ms,m.fp b k:=λx hx b k hf=>by
  rcases gG.1 hx with hx|hx
  ·rcases(c3 x hx).2.2 b k hf with hh|hh;·exact hh
   ·exact hh.2.elim
  ·exact((l3 x hx).cP b k hf).elim
 have hA:qn w zl (λb k=>c.zb b k\/∃t,(G1 t).fp b k) (cs++l):={
  ok:=λx hx=>(gG.1 hx).elim (λhx=>(c3 x hx).1) λhx=>(l3 x hx).ok
  bare:=λx hx=>(gG.1 hx).elim (λhx=>(c3 x hx).2.1) λhx=>(l3 x hx).bare
  fz:=λx hx b k hf=>by obtain⟨m,hm,hf⟩:=cr x hx b k hf;exact⟨((hT.all m hm).2.2.1 b k hf).1,λhz=>hz.elim ((hT.all m hm).2.2.1 b k hf).2 λ⟨t,ht⟩=>(hT.all m hm).2.1 t b k hf ht⟩
  cE:=λb k hz=>by
   rcases hz with hz|hz|⟨t,ht⟩;·exact hT.inv.cE b k (.inl hz)
   ·exact hT.inv.cE b k (.inr hz)
   ·exact C.fE _ (hT.inv.ok t) b k ht
  apart:=uF.2 ⟨c4,qx λx hx=>(l3 x hx).cP,λx _ y hy b k _ hf=>(l3 y hy).cP b k hf⟩}
 have qZ:=k3 w zl _ (cs++l) (by rw[jq,c1,l1];rfl) hA (h.Js _ λb k hz=>.inl hz);have tu:(cs++l).map C.val=l'.map a.eval++oR:=by rw[jq,c2,l2]
 rw[tu] at qZ;refine⟨f,_,hrun,qZ.mono ?_⟩;rintro e w' ⟨r,ps,aH,hD,hk⟩;have hin:∀b k,aH b k->b<w'.heap.size:=λb k hz=>hD.all.cE b k (.inl hz);have ku:∀b k,(∃m∈ms,m.fp b k)->(∀t,¬(G1 t).fp b k)/\¬zl b k/\¬c.zb b k:=λb k ⟨m,hm,hf⟩=>⟨λt=>(hT.all m hm).2.1 t b k hf,(hT.all m hm).2.2.1 b k hf⟩;have kR:∀b k,(∃x∈cs++l,x.fp b k)->∃m∈ms,m.fp b k:=λb k ⟨x,hx,hf⟩=>cr x hx b k hf;have zA:∀b k,aH b k->zl b k\/(∃m∈ms,m.fp b k)\/w.heap.size<=b:=λb k hz=>(hD.sF b k hz).imp id λhh=>hh.imp (kR b k) id
 have hi:=hT.inv.NN hD.ext (λb k hs=>ku b k (kR b k hs)) hD.sE (λb k hz=>⟨hin b k hz,λt hf=>by
  rcases zA b k hz with hz|hm|hb;·exact(hT.inv.fz t b k hf).1 hz
  ·exact(ku b k hm).1 t hf
  ·have:=C.fE _ (hT.inv.ok t) b k hf;omega⟩)
 have kz:∀b k,(∃m∈ms,m.fp b k)->∃t,(G t).fp b k:=λb k ⟨m,hm,hf⟩=>(hT.all m hm).2.2.2 b k hf;have h2:St c G1 aH (bU as s).2 a w':=h.after hi hT.val hD.ext (λb k hs=>kz b k (kR b k hs)) (λt b k hf=>.inl ⟨t,hT.mono t b k hf⟩) hD.sE (λb k hz=>(zA b k hz).imp id λhh=>hh.imp (kz b k) id);have hrd:∀b k,r.fp b k->(∃m∈ms,m.fp b k)\/w.heap.size<=b:=λb k hf=>(hD.dom r (bF ..) b k hf).imp (kR b k) id
 obtain⟨G3,h3⟩:=h2.result (x:=r) o.dst hn (hD.all.ok r (bF ..)) (hD.all.bare r (bF ..)) (λt b k hf hf'=>by
   rcases hrd b k hf with hm|hb;·exact(ku b k hm).1 t hf'
   ·have:=C.fE _ (hT.inv.ok t) b k hf';omega) (λb k hf=>⟨(hD.all.fz r (bF ..) b k hf).1,λhz=>by
   rcases hrd b k hf with hm|hb;·exact(ku b k hm).2.2 hz
   ·have:=hT.inv.cE b k (.inr hz);omega⟩) (λb k hf=>by
   rcases hrd b k hf with hm|hb;·obtain⟨t,ht⟩:=kz b k hm;exact h.tr.dom t b k ht
   ·exact .inr (eO h.tr.ext.size hb))
 refine⟨r.val,hD.ends,λJS=>hD.ext.mono λb k hs _=>?_,G3,aH,_,hk,h3⟩;obtain⟨m,hm,hf⟩:=kR b k hs;have hd:=K4 s (hq JS) m.er (by rw[<-g1];exact fK hm);cases m<;>first|exact hf|(simp[C.er] at hd)
end
end M
namespace M
open Go Go.RowKit
variable [Bs]
structure e8 (w w':World) (zl aH zb:Nat->Nat->Prop) (G:Nat->C) (r:Nat) (p:Path) (D y q:C) (S M:Nat->Nat->Prop):Prop where
 sub:(G r).sub p=some D
 yD:∀b k,y.fp b k->D.fp b k
 ext:Ext S w w'
 ry:∀b k,S b k->M b k\/y.fp b k
 xg:∀b k,M b k->(∀t,¬(G t).fp b k)/\¬zl b k/\¬zb b k
 FV:q.ok w' (Zf aH zb)
 bare:q.bare
 val:q.val=y.val
 fp:∀b k,q.fp b k->S b k\/w.heap.size<=b
 qz:∀b k,q.fp b k->¬aH b k
 z1:∀b k,zl b k->aH b k
 z2:∀b k,aH b k->zl b k\/S b k\/w.heap.size<=b
 cE:∀b k,aH b k->b<w'.heap.size
section
variable {w w':World}{zl aH zb:Nat->Nat->Prop}{G:Nat->C}{s:ah}{r:Nat}{p:Path}{D y q:C}{S M:Nat->Nat->Prop}
def e8.DG(h:e8 w w' zl aH zb G r p D y q S M)(hi:Inv w zl zb G s){b k:Nat}(hf:D.fp b k):(G r).fp b k:=C.gE p h.sub (hi.ok r) hf
def e8.notM(h:e8 w w' zl aH zb G r p D y q S M)(hi:Inv w zl zb G s){b k:Nat}(hf:D.fp b k):¬M b k:=λhm=>(h.xg b k hm).1 r (h.DG hi hf)
def e8.Ry(h:e8 w w' zl aH zb G r p D y q S M)(hi:Inv w zl zb G s){b k:Nat}(hf:D.fp b k):¬w.heap.size<=b:=λhb=>by have:=C.fE _ (hi.ok r) b k (h.DG hi hf);omega
def e8.qD(h:e8 w w' zl aH zb G r p D y q S M)(hi:Inv w zl zb G s){b k:Nat}(hq:q.fp b k)(hf:D.fp b k):y.fp b k:=by
 rcases h.fp b k hq with hs|hb;·exact(h.ry b k hs).resolve_left (h.notM hi hf)
 ·exact(h.Ry hi hf hb).elim
def e8.zD(h:e8 w w' zl aH zb G r p D y q S M)(hi:Inv w zl zb G s){b k:Nat}(hz:aH b k)(hf:D.fp b k):y.fp b k:=by
 rcases h.z2 b k hz with hz|hs|hb;·exact((hi.fz r b k (h.DG hi hf)).1 hz).elim
 ·exact(h.ry b k hs).resolve_left (h.notM hi hf)
 ·exact(h.Ry hi hf hb).elim
def e8.SD(h:e8 w w' zl aH zb G r p D y q S M)(hi:Inv w zl zb G s){b k:Nat}(hs:S b k)(hf:D.fp b k):y.fp b k:=(h.ry b k hs).resolve_left (h.notM hi hf)
def e8.Z(h:e8 w w' zl aH zb G r p D y q S M)(hi:Inv w zl zb G s):∀m b k,Zf zl zb m b k->¬S b k:=λm b k hz hs=>by
 rcases h.ry b k hs with hm|hy
 ·obtain⟨_,a1,a2⟩:=h.xg b k hm;cases m with
  |own=>exact hz
  |sl=>exact a1 hz
  |af=>exact hz.elim a1 a2
 ·exact hi.yo r m b k hz (h.DG hi (h.yD b k hy))
def e8.mono(h:e8 w w' zl aH zb G r p D y q S M):∀m b k,Zf zl zb m b k->Zf aH zb m b k:=λm b k hz=>by
 cases m with
 |own=>exact hz
 |sl=>exact h.z1 b k hz
 |af=>exact hz.imp (h.z1 b k) id
def e8.back(h:e8 w w' zl aH zb G r p D y q S M)(hi:Inv w zl zb G s){d0:C}(hok:d0.ok w' (Zf aH zb))(hF:C.gm D d0)(hl:C.hU D d0)(hrf:(d0.az (C.belows r p)).rf λt=>(G t).az (C.belows r p))(cr:∀b k,d0.fp b k->q.fp b k\/(D.fp b k/\¬y.fp b k))(hz:∀b k,d0.fp b k->¬aH b k):
  ∃G',Inv w' aH zb G' (iz r p d0.er s)/\(∀t,(G' t).val=(G t).val)/\∀t b k,(G' t).fp b k->q.fp b k\/((∃u,(G u).fp b k)/\¬y.fp b k):=by
 have h1:=hi.ff r p;have hs1:((G r).az (C.belows r p)).sub p=some (D.az (C.belows r p)):=C.jj _ p _ _ (hi.ok r) h.sub;have zg:∀t b k,((G t).az (C.belows r p)).fp b k↔(G t).fp b k:=λt b k=>C.cJ _ _ b k
 have hFB:C.gm (D.az (C.belows r p)) (d0.az (C.belows r p)):=by
  cases hF with
  |row=>exact .row ..
  |ptr=>exact .ptr ..
 have q6:C.hU (D.az (C.belows r p)) (d0.az (C.belows r p)):=by
  cases hF with
  |row m m' sz A len cap e e'=>exact⟨rfl,λh=>h,λh=>h,λh=>h,hl.fits⟩
  |ptr m m' g o n c c'=>exact⟨rfl,λh=>h,λh=>h,λh=>h,hl.fits⟩
 obtain⟨i1,i2,i3⟩:=h1.HX r p (λt=>C.gA _ _) hs1 hFB q6 ⟨hrf,C.gA _ _⟩ h.ext (λb k hs=>by
   rcases h.ry b k hs with hm|hy;·obtain⟨a1,a2,a3⟩:=h.xg b k hm;exact .inr ⟨λt hf=>a1 t ((zg t b k).1 hf),a2,a3⟩
   ·exact .inl ((C.cJ _ D b k).2 (h.yD b k hy))) (C.mg _ _ hok) h.z1 (λb k tB=>⟨λhf=>hz b k ((C.cJ _ d0 b k).1 hf) tB,h.cE b k tB,λt hf=>by
   refine(C.cJ _ D b k).2 ?_;have hf:=(zg t b k).1 hf;rcases h.z2 b k tB with fG|hs|hb;·exact((hi.fz t b k hf).1 fG).elim
   ·rcases h.ry b k hs with hm|hy;·exact((h.xg b k hm).1 t hf).elim
    ·exact h.yD b k hy
   ·have:=C.fE _ (hi.ok t) b k hf;omega⟩) (λb k hf=>by
   rcases(cr b k ((C.cJ _ d0 b k).1 hf)).symm with hf|hf;·exact .inl ((C.cJ _ D b k).2 hf.1)
   ·rcases h.fp b k hf with hs|hb
    ·rcases h.ry b k hs with hm|hy;·obtain⟨a1,a2,a3⟩:=h.xg b k hm;exact .inr ⟨λt hf=>a1 t ((zg t b k).1 hf),a3⟩
     ·exact .inl ((C.cJ _ D b k).2 (h.yD b k hy))
    ·exact .inr ⟨λt hf=>by have:=C.fE _ (hi.ok t) b k ((zg t b k).1 hf);omega,λhz=>by have:=hi.cE b k (.inr hz);omega⟩)
 rw[C.wq] at i1;refine⟨_,i1,λt=>(i2 t).trans (C.jk _ _),λt b k hf=>?_⟩;rcases i3 t b k hf with hf|hf
 ·rcases cr b k ((C.cJ _ d0 b k).1 hf) with hf|hf;·exact .inl hf
  ·exact .inr ⟨⟨r,h.DG hi hf.1⟩,hf.2⟩
 ·exact .inr ⟨⟨t,(zg t b k).1 hf.1⟩,λhy=>hf.2 ((C.cJ _ D b k).2 (h.yD b k hy))⟩
end
end M
namespace M
open Go Go.RowKit
variable [Bs]
def SP{α:Type}(f g:Nat->α){nn c n:Nat}(h:c+n<=nn):((List.range nn).map λj=>if c<=j/\j<c+n then g (j - c) else f j)=((List.range nn).map f).take c++(List.range n).map g++((List.range nn).map f).drop (c+n):=by
 apply hO;intro i;rw[C.cV];have s9:(((List.range nn).map f).take c).length=c:=by simp;omega
 have mR:(((List.range nn).map f).take c++(List.range n).map g).length=c+n:=by rw[iD,s9];simp
 by_cases h0:i<nn
 ·rw[ay h0];by_cases h1:i<c;·rw[aD (by omega),nO (by omega),nO (by omega),Nh h1,C.cV,ay h0]
  ·by_cases h2:i<c+n;·rw[ay ⟨by omega,h2⟩,nO (by omega),iC (by omega),s9,C.cV,ay (by omega)]
   ·rw[aD (by omega),iC (by omega),mR,oL,C.cV,show c+n+(i - (c+n))=i by omega,ay h0]
 ·rw[aD h0,iC (by omega),mR,oL,C.cV,aD (by omega)]
section
variable {w w':World}{zl aH zb:Nat->Nat->Prop}{G:Nat->C}{s:ah}{r:Nat}{p:Path}{S M:Nat->Nat->Prop}
def e8.ptr{g o nn n c:Nat}{f qf:Nat->C}(h:e8 w w' zl aH zb G r p (.ptr .own g o nn f) (.ptr .own g (o+c) n λj=>f (j+c)) (.ptr .own g (o+c) n qf) S M)(hi:Inv w zl zb G s)(hn:c+n<=nn):
  ∃G',Inv w' aH zb G' (iz r p (.ptr .own (((List.range nn).map λj=>(f j).er).take c++((List.range n).map λj=>(qf j).er)++((List.range nn).map λj=>(f j).er).drop (c+n))) s)/\(∀t,(G' t).val=(G t).val)/\∀t b k,(G' t).fp b k->(C.ptr .own g (o+c) n qf).fp b k\/((∃u,(G u).fp b k)/\¬(C.ptr .own g (o+c) n λj=>f (j+c)).fp b k):=by
 obtain⟨D1,D2,D3,D4⟩:=C.gY p h.sub (hi.ok r);obtain⟨q1,q2,q3,q4⟩:=h.FV;have mS:∀j,j<n->∀b k,(qf j).fp b k->(C.ptr .own g (o+c) n qf).fp b k:=λj hj b k hf=>C.kB (q3 j hj).1 (q3 j hj).2.1 hj hf;have mP:∀j,j<nn->∀b k,(f j).fp b k->(C.ptr .own g o nn f).fp b k:=λj hj b k hf=>C.kB (D3 j hj).1 (D3 j hj).2.1 hj hf;have oY:∀k,o<=k->k<o+nn->(C.ptr .own g o nn f).fp g k:=λk h1 h2=>⟨rfl,.inl ⟨rfl,h1,h2⟩⟩
 have l5:∀k,o<=k->k<o+nn->(C.ptr .own g (o+c) n λj=>f (j+c)).fp g k->o+c<=k/\k<o+c+n:=λk h1 h2 ⟨_,hf⟩=>by
  rcases hf with hf|⟨j,hj,hf⟩;·exact hf.2
  ·exact((D4 (j+c) (by omega) g k hf).1 rfl ⟨rfl,h1,h2⟩).elim
 have mU:∀j,j<nn->¬(c<=j/\j<c+n)->∀b k,(f j).fp b k->¬(C.ptr .own g (o+c) n λj=>f (j+c)).fp b k:=λj hj hne b k hf ⟨_,hf'⟩=>by
  rcases hf' with hf'|⟨j',hj',hf'⟩;·exact(D4 j hj b k hf).1 rfl ⟨hf'.1,by omega,by omega⟩
  ·exact(D4 j hj b k hf).2 (j'+c) (by omega) (by omega) hf'
 let d:Nat->C:=λj=>if c<=j/\j<c+n then qf (j - c) else f j
 have iG:∀j,c<=j/\j<c+n->d j=qf (j - c):=λj hj=>ay hj;have iH:∀j,¬(c<=j/\j<c+n)->d j=f j:=λj hj=>aD hj
 have hok:(C.ptr .own g o nn d).ok w' (Zf aH zb):=by
  refine⟨λj hj=>⟨?_,λhm=>(hm rfl).elim,λ_=>(h.ext.frozen D2).trans ((D1 j hj).2.2 rfl)⟩,kG D2 h.ext.size,λj hj=>?_,λj hj b k hf=>⟨λ_ hb=>?_,λj' hj' hne=>?_⟩⟩
  ·by_cases hr:c<=j/\j<c+n;·rw[iG j hr];have:=(q1 (j - c) (by omega)).1;rwa [show o+c+(j - c)=o+j by omega] at this
   ·rw[iH j hr];exact h.ext.cell (λhs=>hr (by have:=l5 (o+j) (by omega) (by omega) (h.SD hi hs (oY _ (by omega) (by omega)));omega)) (D1 j hj).1
  ·by_cases hr:c<=j/\j<c+n;·rw[iG j hr];obtain⟨a1,a2,a3⟩:=q3 (j - c) (by omega);exact⟨a1,a2,a3⟩
   ·rw[iH j hr];obtain⟨a1,a2,a3⟩:=D3 j hj;exact⟨a1,a2,C.gB h.mono _ (C.fH h.ext (h.Z hi) _ (λb k hf hs=>mU j hj hr b k hf (h.SD hi hs (mP j hj b k hf))) a3)⟩
  ·obtain⟨rfl,dQ,gM⟩:=hb;by_cases hr:c<=j/\j<c+n;·rw[iG j hr] at hf;have:=l5 k dQ gM (h.qD hi (mS _ (by omega) _ _ hf) (oY k dQ gM));exact(q4 (j - c) (by omega) _ k hf).1 rfl ⟨rfl,this.1,this.2⟩
   ·rw[iH j hr] at hf;exact(D4 j hj _ k hf).1 rfl ⟨rfl,dQ,gM⟩
  ·by_cases hr:c<=j/\j<c+n
   ·rw[iG j hr] at hf;by_cases hr':c<=j'/\j'<c+n;·rw[iG j' hr'];exact(q4 (j - c) (by omega) b k hf).2 (j' - c) (by omega) (by omega)
    ·rw[iH j' hr'];exact λhf'=>mU j' hj' hr' b k hf' (h.qD hi (mS _ (by omega) _ _ hf) (mP j' hj' b k hf'))
   ·rw[iH j hr] at hf;by_cases hr':c<=j'/\j'<c+n;·rw[iG j' hr'];exact λhf'=>mU j hj hr b k hf (h.qD hi (mS _ (by omega) _ _ hf') (mP j hj b k hf))
    ·rw[iH j' hr'];exact(D4 j hj b k hf).2 j' hj' hne
 have adz:=Inv.uA.Ce p ((hi.ff r p).ok r) (C.jj (C.belows r p) p _ _ (hi.ok r) h.sub) ((hi.ff r p).rf r)
 obtain⟨G',i1,i2,i3⟩:=h.back hi (d0:=.ptr .own g o nn d) hok (.ptr ..) ⟨rfl,λh=>h,λh=>h,λh=>h,λ_ h=>h⟩ (λj hj=>by
   by_cases hr:c<=j/\j<c+n;·show ((d j).az _).rf _;rw[iG j hr];exact C.ny _ _ (C.qB _ _ (h.bare (j - c) (by omega)))
   ·show ((d j).az _).rf _;rw[iH j hr];exact adz j hj) (λb k hf=>by
   obtain⟨_,hf|⟨j,hj,hf⟩⟩:=hf
   ·obtain⟨rfl,h1,h2⟩:=hf;by_cases hr:o+c<=k/\k<o+c+n;·exact .inl ⟨rfl,.inl ⟨rfl,hr.1,hr.2⟩⟩
    ·exact .inr ⟨oY k h1 h2,λhy=>hr (l5 k h1 h2 hy)⟩
   ·by_cases hr:c<=j/\j<c+n;·rw[iG j hr] at hf;exact .inl (mS _ (by omega) _ _ hf)
    ·rw[iH j hr] at hf;exact .inr ⟨mP j hj b k hf,mU j hj hr b k hf⟩) (λb k hf hz=>by
   obtain⟨_,hf|⟨j,hj,hf⟩⟩:=hf;·obtain⟨rfl,h1,h2⟩:=hf;have:=l5 k h1 h2 (h.zD hi hz (oY k h1 h2));exact h.qz _ k ⟨rfl,.inl ⟨rfl,this.1,this.2⟩⟩ hz
   ·by_cases hr:c<=j/\j<c+n;·rw[iG j hr] at hf;exact h.qz b k (mS _ (by omega) _ _ hf) hz
    ·rw[iH j hr] at hf;exact mU j hj hr b k hf (h.zD hi hz (mP j hj b k hf)))
 have ko:(C.ptr .own g o nn d).er=.ptr .own (((List.range nn).map λj=>(f j).er).take c++((List.range n).map λj=>(qf j).er)++((List.range nn).map λj=>(f j).er).drop (c+n)):=by rw[<-SP (λj=>(f j).er) (λj=>(qf j).er) hn];simp only[C.er];congr 1;refine b9 λj _=>?_;show (if _ then _ else _:C).er=_;split<;>rfl
 rw[ko] at i1;exact⟨G',i1,i2,i3⟩
def e8.row{z len cap:Nat}{A:Option Ad}{e qe:Nat->Nat->C}(h:e8 w w' zl aH zb G r p (.row .own z A len cap e) (.row .own z A len cap e) (.row .own z A len cap qe) S M)(hi:Inv w zl zb G s):
  ∃G',Inv w' aH zb G' (iz r p (.row .own z (dH z len qe)) s)/\(∀t,(G' t).val=(G t).val)/\∀t b k,(G' t).fp b k->(C.row .own z A len cap qe).fp b k\/((∃u,(G u).fp b k)/\¬(C.row .own z A len cap e).fp b k):=
 h.back hi (d0:=.row .own z A len cap qe) h.FV (.row ..) ⟨rfl,λh=>h,λh=>h,λh=>h,λ_ h=>h⟩ trivial (λb k hf=>.inl hf) (λb k hf=>h.qz b k hf)
def e8.elem{z g o len cap n c i:Nat}{e:Nat->Nat->C}{qf:Nat->C}(h:e8 w w' zl aH zb G r p (.row .own z (some (g,o,none)) len cap e) (.ptr .own g (o+i*z+c) n λj=>e i (j+c)) (.ptr .own g (o+i*z+c) n qf) S M)(hi:Inv w zl zb G s)(zi:i<len)(hn:c+n<=z)(hqs:∀j,j<n->(qf j).cQ):
  ∃G',Inv w' aH zb G' (iz r p (.row .own z ((dH z len e).set i (((List.range z).map λj=>(e i j).er).take c++((List.range n).map λj=>(qf j).er)++((List.range z).map λj=>(e i j).er).drop (c+n)))) s)/\(∀t,(G' t).val=(G t).val)/\∀t b k,(G' t).fp b k->(C.ptr .own g (o+i*z+c) n qf).fp b k\/((∃u,(G u).fp b k)/\¬(C.ptr .own g (o+i*z+c) n λj=>e i (j+c)).fp b k):=by
 obtain⟨D1,D2,D3,D4,D5⟩:=C.gY p h.sub (hi.ok r);obtain⟨q1,q2,q3,q4⟩:=h.FV;have mS:∀j,j<n->∀b k,(qf j).fp b k->(C.ptr .own g (o+i*z+c) n qf).fp b k:=λj hj b k hf=>C.kB (q3 j hj).1 (q3 j hj).2.1 hj hf;have mP:∀i' j,i'<len->j<z->∀b k,(e i' j).fp b k->(C.row .own z (some (g,o,none)) len cap e).fp b k:=λi' j hi' hj b k hf=>C.jW (D3 i' j hi' hj).1 (D3 i' j hi' hj).2.2.1 hi' hj hf;have oY:∀k,(C.row .own z (some (g,o,none)) len cap e).fp g k:=λk=>⟨rfl,.inl ⟨o,rfl⟩⟩
 have l5:∀k,(C.ptr .own g (o+i*z+c) n λj=>e i (j+c)).fp g k->o+i*z+c<=k/\k<o+i*z+c+n:=λk ⟨_,hf⟩=>by
  rcases hf with hf|⟨j,hj,hf⟩;·exact hf.2
  ·exact((D5 i (j+c) zi (by omega) g k hf).1 rfl o rfl).elim
 have mU:∀i' j,i'<len->j<z->¬(i'=i/\c<=j/\j<c+n)->∀b k,(e i' j).fp b k->¬(C.ptr .own g (o+i*z+c) n λj=>e i (j+c)).fp b k:=λi' j hi' hj hne b k hf ⟨_,hf'⟩=>by
  rcases hf' with hf'|⟨j',hj',hf'⟩;·exact(D5 i' j hi' hj b k hf).1 rfl o (by rw[hf'.1])
  ·exact(D5 i' j hi' hj b k hf).2 i (j'+c) zi (by omega) (λe=>by simp only[jK] at e;exact hne ⟨e.1,by omega,by omega⟩) hf'
 let d:Nat->Nat->C:=λi' j=>if i'=i/\c<=j/\j<c+n then qf (j - c) else e i' j
 have iG:∀i' j,i'=i/\c<=j/\j<c+n->d i' j=qf (j - c):=λi' j hj=>ay hj;have iH:∀i' j,¬(i'=i/\c<=j/\j<c+n)->d i' j=e i' j:=λi' j hj=>aD hj
 have hok:(C.row .own z (some (g,o,none)) len cap d).ok w' (Zf aH zb):=by
  refine⟨D1,λi' j hi' hj=>⟨g,o,rfl,?_,λhm=>(hm rfl).elim⟩,λi' j hi' hj=>?_,λ_=>?_,λi' j hi' hj b k hf=>⟨λ_ o' hA=>?_,λi2 j2 hi2 hj2 hne=>?_⟩⟩
  ·by_cases hr:i'=i/\c<=j/\j<c+n;·rw[iG i' j hr];obtain⟨rfl,h1,h2⟩:=hr;have:=(q1 (j - c) (by omega)).1;rwa [show o+i'*z+c+(j - c)=o+i'*z+j by omega] at this
   ·rw[iH i' j hr];obtain⟨g',o',hA,hcl,_⟩:=D2 i' j hi' hj;injection hA with hA
    injection hA with e1 e2
    injection e2 with e2
    subst e1;subst e2;refine h.ext.cell (λhs=>hr ?_) hcl;have:=l5 _ (h.SD hi hs (oY _));have hj0:o+i'*z+j - (o+i*z)<z:=by omega
    have:=Lc hj hj0 (show i'*z+j=i*z+(o+i'*z+j - (o+i*z)) by omega);exact⟨this.1,by omega,by omega⟩
  ·by_cases hr:i'=i/\c<=j/\j<c+n;·rw[iG i' j hr];obtain⟨a1,a2,a3⟩:=q3 (j - c) (by omega);exact⟨a1,hqs _ (by omega),a2,a3⟩
   ·rw[iH i' j hr];obtain⟨a1,a2,a3,a4⟩:=D3 i' j hi' hj;exact⟨a1,a2,a3,C.gB h.mono _ (C.fH h.ext (h.Z hi) _ (λb k hf hs=>mU i' j hi' hj hr b k hf (h.SD hi hs (mP i' j hi' hj b k hf))) a4)⟩
  ·rcases D4 rfl with ⟨hA,_⟩|⟨g',o',arr,t,fz,hA,hh,hsz,hfr⟩;·cases hA
   ·injection hA with hA
    injection hA with e1 e2
    injection e2 with e2
    subst e1;subst e2;have hg:g<w.heap.size:=(j7.1 hh).1;rcases h.ext.block g hg with e'|⟨a1,a2,t',lU,r1,r2,r3,r4⟩;·exact .inr ⟨g,o,arr,t,fz,rfl,e'.trans hh,hsz,λk hk hk'=>(h.ext.frozen hg).trans (hfr k hk hk')⟩
    ·rw[hh] at r1;injection r1 with r1
     injection r1 with s1 s2 s3
     subst s1;exact .inr ⟨g,o,a2,t',lU,rfl,r2,by omega,λk hk hk'=>(h.ext.frozen hg).trans (hfr k hk hk')⟩
  ·injection hA with hA
   injection hA with e1 e2
   subst e1;by_cases hr:i'=i/\c<=j/\j<c+n;·rw[iG i' j hr] at hf;have:=l5 k (h.qD hi (mS _ (by omega) _ _ hf) (oY k));exact(q4 (j - c) (by omega) _ k hf).1 rfl ⟨rfl,this.1,this.2⟩
   ·rw[iH i' j hr] at hf;exact(D5 i' j hi' hj _ k hf).1 rfl o rfl
  ·by_cases hr:i'=i/\c<=j/\j<c+n
   ·rw[iG i' j hr] at hf;by_cases hr':i2=i/\c<=j2/\j2<c+n;·rw[iG i2 j2 hr'];exact(q4 (j - c) (by omega) b k hf).2 (j2 - c) (by omega) (λe=>hne (by simp only[jK];exact⟨by rw[hr.1,hr'.1],by omega⟩))
    ·rw[iH i2 j2 hr'];exact λhf'=>mU i2 j2 hi2 hj2 hr' b k hf' (h.qD hi (mS _ (by omega) _ _ hf) (mP i2 j2 hi2 hj2 b k hf'))
   ·rw[iH i' j hr] at hf;by_cases hr':i2=i/\c<=j2/\j2<c+n;·rw[iG i2 j2 hr'];exact λhf'=>mU i' j hi' hj hr b k hf (h.qD hi (mS _ (by omega) _ _ hf') (mP i' j hi' hj b k hf))
    ·rw[iH i2 j2 hr'];exact(D5 i' j hi' hj b k hf).2 i2 j2 hi2 hj2 hne
 obtain⟨G',i1,i2,i3⟩:=h.back hi (d0:=.row .own z (some (g,o,none)) len cap d) hok (.row ..) ⟨rfl,λh=>h,λh=>h,λh=>h,λ_ h=>h⟩ trivial (λb k hf=>by
   obtain⟨_,hf|⟨i',j,hi',hj,hf⟩⟩:=hf
   ·obtain⟨o',hA⟩:=hf;injection hA with hA
    injection hA with e1 e2
    subst e1;by_cases hr:o+i*z+c<=k/\k<o+i*z+c+n;·exact .inl ⟨rfl,.inl ⟨rfl,hr.1,hr.2⟩⟩
    ·exact .inr ⟨oY k,λhy=>hr (l5 k hy)⟩
   ·by_cases hr:i'=i/\c<=j/\j<c+n;·rw[iG i' j hr] at hf;exact .inl (mS _ (by omega) _ _ hf)
    ·rw[iH i' j hr] at hf;exact .inr ⟨mP i' j hi' hj b k hf,mU i' j hi' hj hr b k hf⟩) (λb k hf hz=>by
   obtain⟨_,⟨o',hA⟩|⟨i',j,hi',hj,hf⟩⟩:=hf
   ·injection hA with hA
    injection hA with e1 e2
    subst e1;have:=l5 k (h.zD hi hz (oY k));exact h.qz _ k ⟨rfl,.inl ⟨rfl,this.1,this.2⟩⟩ hz
   ·by_cases hr:i'=i/\c<=j/\j<c+n;·rw[iG i' j hr] at hf;exact h.qz b k (mS _ (by omega) _ _ hf) hz
    ·rw[iH i' j hr] at hf;exact mU i' j hi' hj hr b k hf (h.zD hi hz (mP i' j hi' hj b k hf)))
 have ko:(C.row .own z (some (g,o,none)) len cap d).er=.row .own z ((dH z len e).set i (((List.range z).map λj=>(e i j).er).take c++((List.range n).map λj=>(qf j).er)++((List.range z).map λj=>(e i j).er).drop (c+n))):=by
  rw[<-SP (λj=>(e i j).er) (λj=>(qf j).er) hn];simp only[C.er];congr 1;symm;refine C.AY _ _ len i _ λi' hi'=>?_;split;·rename_i hii;subst hii;refine b9 λj _=>?_;show (if _ then _ else _:C).er=_;simp only[true_and];split<;>rfl
  ·rename_i hii;refine b9 λj _=>?_;show (if _ then _ else _:C).er=_;rw[aD (λhh=>hii hh.1)]
 rw[ko] at i1;exact⟨G',i1,i2,i3⟩
end
end M
namespace M
open Go Go.RowKit
variable [Bs]
section
variable {P:Program}{c:Ctx}{G:Nat->C}{zl:Nat->Nat->Prop}{s:ah}{a:Act}{w:World}{o:Oper}{K:ah->Prop}
def K5:∀{l':List Operand} {l:List (AV×PM)} {x:AV} {n:Nat},gJ l' l=true->dR l=some (x,n)->∃i x',l[i]?=some (x,PM.mut n)/\l'[i]?=some x'/\aO x' x=true/\(∀(j:Nat) (x2:AV) (n2:Nat),l[j]?=some (x2,PM.mut n2)->j=i)/\∀ps:List X,kD l ps=ps.getD i .dead
 |[],[],x,n,_,h=>by cases h
 |Tx::l',(x0,pm)::l,x,n,hc,h=>by
  simp only[gJ,aA] at hc
  have other:dR l=some (x,n)->(∀n2,pm≠PM.mut n2)->(∀(y:X) ps,kD ((x0,pm)::l) (y::ps)=kD l ps)->(kD ((x0,pm)::l) []=.dead)->∃i x',((x0,pm)::l)[i]?=some (x,PM.mut n)/\(Tx::l')[i]?=some x'/\aO x' x=true/\(∀(j:Nat) (x2:AV) (n2:Nat),((x0,pm)::l)[j]?=some (x2,PM.mut n2)->j=i)/\∀ps:List X,kD ((x0,pm)::l) ps=ps.getD i .dead:=λhm hpm h1 h2=>by
   obtain⟨i,x',i1,i2,i3,i4,i5⟩:=K5 hc.2 hm;refine⟨i+1,x',by simpa using i1,by simpa using i2,i3,λj x2 n2 hj=>?_,λps=>?_⟩
   ·cases j with
    |zero=>simp only[yg,dO,jK] at hj;exact(hpm n2 hj.2).elim
    |succ j=>rw[i4 j x2 n2 (by simpa using hj)]
   ·cases ps with
    |nil=>rw[h2];rfl
    |cons y ps=>rw[h1,i5];rfl
  cases pm with
  |mv=>exact other h (λ_ e=>by cases e) (λ_ _=>rfl) rfl
  |af=>exact other h (λ_ e=>by cases e) (λ_ _=>rfl) rfl
  |iF m=>exact other h (λ_ e=>by cases e) (λ_ _=>rfl) rfl
  | «mut» m=>
   simp only[dR,dO,jK] at h;obtain⟨rfl,rfl⟩:=h;refine⟨0,Tx,rfl,rfl,hc.1.1,λj x2 n2 hj=>?_,λps=>?_⟩
   ·cases j with
    |zero=>rfl
    |succ j=>
     exfalso;have hno:dR l=none:=by simpa using hc.1.2
     have:∀{l:List (AV×PM)} {i:Nat},l[i]?=some (x2,PM.mut n2)->dR l≠none:=by
      intro l;induction l with
      |nil=>intro i hi;simp at hi
      |cons p l ih=>
       intro i hi;obtain⟨y,pm⟩:=p;cases i with
       |zero=>simp only[yg,dO,jK] at hi;obtain⟨_,rfl⟩:=hi;simp[dR]
       |succ i=>have:=ih (by simpa using hi);cases pm<;>simp[dR]<;>first|exact this|skip
     exact this (by simpa using hj) hno
   ·cases ps<;>rfl
 |[],_::_,_,_,hc,_=>by cases hc
 |_::_,[],_,_,hc,_=>by cases hc
def K6(h:St c G zl s a w){l':List Operand}{as:List (AV×PM)}(hc:gJ l' as=true){x:AV}{n:Nat}(nY:dR as=some (x,n)){f:FuncId}{fv:Option AV}(hop:sG P c zl o a w l' f fv)(hn:∀n,o.dst=some n->n<c.nt)
  {ms:List C}{G1:Nat->C}{sm:ah}(hT:bJ w zl c.zb G ms G1 sm)(g2:MV a l' as ms)(hmb:∀m∈ms,m.bare){r:Nat}{p:Path}{D y:C}(hsub:(G1 r).sub p=some D)(pq:y.ok w (Zf zl c.zb))(D8:y.bare)(n5:∀(i:Nat) (x':Operand),as[i]?=some (x,PM.mut n)->l'[i]?=some x'->y.val=a.eval x')(JW:∀b k,y.fp b k->D.fp b k)
  (za:qF (iO r p .dead sm) fv f){back:X->(ah->Prop)->Prop}(hk:AC P f (gp (iO r p .dead sm) y.er as (ms.map C.er)++nR (iO r p .dead sm) fv) λq ps=>back (kD as ps) λs'=>K (fO o.dst q s'))
  (adH:∀{w':World} {aH:Nat->Nat->Prop} {S M:Nat->Nat->Prop} {q:C},e8 w w' zl aH c.zb G1 r p D y q S M->∀Kx,back q.er Kx->∃s',Kx s'/\∃G',Inv w' aH c.zb G' s'/\(∀t,(G' t).val=(G1 t).val)/\∀t b k,(G' t).fp b k->q.fp b k\/((∃u,(G1 u).fp b k)/\¬y.fp b k)):qt P c o a w K false:=by
 obtain⟨oR,hrun,adL⟩:=hop.run;have h1:=GZ h hT;obtain⟨D',G2,t1,t2,t3,t4,t5,t6,t7,t8,t9,t10,t11,t12⟩:=h1.inv.uA r p D hsub;have h2:St c G2 zl (iO r p .dead sm) a w:=h1.move t3 t10 (Ext.refl (λ_ _=>False) w) (λ_ _ hs=>hs.elim) (λt b k hf=>.inl ⟨t,t11 t b k hf⟩);have aes:∀b k,y.fp b k->∀t,¬(G2 t).fp b k:=λb k hf t=>t8 t b k ((t12 b k).2 (JW b k hf));have D7:∀b k,y.fp b k->(G1 r).fp b k:=λb k hf=>C.gE p hsub (hT.inv.ok r) (JW b k hf);have jA:∀b k,c.zb b k->(c.zb b k\/∃t,(G2 t).fp b k):=λb k hz=>.inl hz;have ri:∀t b k,(G2 t).fp b k->(c.zb b k\/∃t,(G2 t).fp b k):=λt b k hf=>.inr ⟨t,hf⟩;obtain⟨l,l1,l2,l3⟩:=adL (bG:=λb k=>c.zb b k\/∃t,(G2 t).fp b k) h2 jA ri za
 have QE:∀m b k,Zf zl c.zb m b k->Zf zl (λb k=>c.zb b k\/∃t,(G2 t).fp b k) m b k:=λm b k hz=>by
  cases m with
  |own=>exact hz
  |sl=>exact hz
  |af=>exact hz.imp id .inl
 obtain⟨i,x',i1,i2,i3,i4,i5⟩:=K5 hc nY;have QL:=n5 i x' i1 i2
 obtain⟨cs,c1,c2,c3,c4⟩:=CX (bG:=λb k=>c.zb b k\/∃t,(G2 t).fp b k) h2 jA ri (y:=y) (C.gB QE _ pq) D8 hc g2 (λx hx=>⟨C.gB QE _ (hT.all x hx).1,hmb x hx,λb k hf hf'=>(hT.all x hx).2.1 r b k hf (D7 b k hf')⟩) hT.apart (λj x2 n2 x2' hj hj'=>by
  have:=i4 j x2 n2 hj;subst this;rw[i2] at hj';injection hj' with hj'
  rw[<-hj'];exact QL)
 have cr:∀x∈cs++l,∀b k,x.fp b k->(∃m∈ms,m.fp b k)\/y.fp b k:=λx hx b k hf=>by
  rcases gG.1 hx with hx|hx;·exact((c3 x hx).2.2 b k hf).imp id λhh=>hh.2
  ·exact((l3 x hx).cP b k hf).elim
 have ku:∀b k,(∃m∈ms,m.fp b k)->(∀t,¬(G1 t).fp b k)/\¬zl b k/\¬c.zb b k:=λb k ⟨m,hm,hf⟩=>⟨λt=>(hT.all m hm).2.1 t b k hf,(hT.all m hm).2.2.1 b k hf⟩
 have hA:qn w zl (λb k=>c.zb b k\/∃t,(G2 t).fp b k) (cs++l):={
  ok:=λx hx=>(gG.1 hx).elim (λhx=>(c3 x hx).1) λhx=>(l3 x hx).ok
  bare:=λx hx=>(gG.1 hx).elim (λhx=>(c3 x hx).2.1) λhx=>(l3 x hx).bare
  fz:=λx hx b k hf=>by
   rcases cr x hx b k hf with hm|hy;·obtain⟨a1,a2,a3⟩:=ku b k hm;exact⟨a2,λhz=>hz.elim a3 λ⟨t,ht⟩=>a1 t (t11 t b k ht)⟩
   ·have:=hT.inv.fz r b k (D7 b k hy);exact⟨this.1,λhz=>hz.elim this.2 λ⟨t,ht⟩=>aes b k hy t ht⟩
  cE:=λb k hz=>by
   rcases hz with hz|hz|⟨t,ht⟩;·exact hT.inv.cE b k (.inl hz)
   ·exact hT.inv.cE b k (.inr hz)
   ·exact C.fE _ (t3.ok t) b k ht
  apart:=uF.2 ⟨c4,qx λx hx=>(l3 x hx).cP,λx _ y hy b k _ hf=>(l3 y hy).cP b k hf⟩}
 have qZ:=hk w zl _ (cs++l) (by rw[jq,c1,l1]) hA (h.Js _ λb k hz=>.inl hz);have tu:(cs++l).map C.val=l'.map a.eval++oR:=by rw[jq,c2,l2]
 rw[tu] at qZ;refine⟨f,_,hrun,qZ.mono ?_⟩;rintro e w' ⟨r0,ps,aH,hD,hkk⟩;have zi:i<ps.length:=by have h1:=dr List.length hD.vals;have h2:=dr List.length tu;simp only[dx,iD] at h1 h2;have h3:=(aF.1 i2).1;omega
 have hq:ps[i]?=some ps[i]:=cw zi;have QB:ps[i]∈ps:=bx zi
 have hqv:(ps[i]).val=y.val:=by
  have:(ps.map C.val)[i]?=(l'.map a.eval++oR)[i]?:=by rw[hD.vals,tu]
  rw[cY,hq,nO (by simpa using (aF.1 i2).1),cY,i2] at this;simp only[cj,dO] at this;rw[this,QL]
 have hmp:kD as (ps.map C.er)=(ps[i]).er:=by rw[i5];exact oV (by rw[cY,hq];rfl) _
 rw[hmp] at hkk;have DZ:=b8 r0 QB
 have Qf:e8 w w' zl aH c.zb G1 r p D y ps[i] (λb k=>∃x∈cs++l,x.fp b k) (λb k=>∃m∈ms,m.fp b k):={
  sub:=hsub
  yD:=JW
  ext:=hD.ext
  ry:=λb k ⟨x,hx,hf⟩=>cr x hx b k hf
  xg:=ku
  FV:=C.gB (λm b k hz=>by
   cases m with
   |own=>exact hz
   |sl=>exact hz
   |af=>exact hz.imp id λh=>h.elim) _ (hD.all.ok _ DZ)
  bare:=hD.all.bare _ DZ
  val:=hqv
  fp:=λb k hf=>hD.dom _ DZ b k hf
  qz:=λb k hf=>(hD.all.fz _ DZ b k hf).1
  z1:=hD.sE
  z2:=hD.sF
  cE:=λb k hz=>hD.all.cE b k (.inl hz)}
 obtain⟨s',hKs,G',j1,j2,j3⟩:=adH Qf _ hkk;have kz:∀b k,(∃m∈ms,m.fp b k)->∃t,(G t).fp b k:=λb k ⟨m,hm,hf⟩=>(hT.all m hm).2.2.2 b k hf
 have qW:∀b k,(∃x∈cs++l,x.fp b k)->∃t,(G t).fp b k:=λb k ⟨x,hx,hf⟩=>by
  rcases cr x hx b k hf with hm|hy;·exact kz b k hm
  ·exact⟨r,hT.mono r b k (D7 b k hy)⟩
 have h3:St c G' aH s' a w':=h.after j1 (λt=>(j2 t).trans (hT.val t)) hD.ext qW (λt b k hf=>by
   rcases j3 t b k hf with hq|⟨⟨u,hu⟩,_⟩;·exact(Qf.fp b k hq).imp (qW b k) id
   ·exact .inl ⟨u,hT.mono u b k hu⟩) hD.sE (λb k hz=>(hD.sF b k hz).imp id λhh=>hh.imp (qW b k) id)
 have hrm:=bF (a:=r0) (l:=ps)
 obtain⟨G3,h4⟩:=h3.result (x:=r0) o.dst hn (hD.all.ok r0 hrm) (hD.all.bare r0 hrm) (λt b k hf hf'=>by
   rcases j3 t b k hf' with hq|⟨⟨u,hu⟩,hny⟩;·exact(fA.1 hD.all.apart).1 _ QB b k hf hq
   ·rcases hD.dom r0 hrm b k hf with ⟨x,hx,hf⟩|hb
    ·rcases cr x hx b k hf with hm|hy;·exact(ku b k hm).1 u hu
     ·exact hny hy
    ·have:=C.fE _ (hT.inv.ok u) b k hu;omega) (λb k hf=>⟨(hD.all.fz r0 hrm b k hf).1,λhz=>by
   rcases hD.dom r0 hrm b k hf with ⟨x,hx,hf⟩|hb
   ·rcases cr x hx b k hf with hm|hy;·exact(ku b k hm).2.2 hz
    ·exact(hT.inv.fz r b k (D7 b k hy)).2 hz
   ·have:=hT.inv.cE b k (.inr hz);omega⟩) (λb k hf=>by
   rcases hD.dom r0 hrm b k hf with hs|hb;·obtain⟨t,ht⟩:=qW b k hs;exact h.tr.dom t b k ht
   ·exact .inr (eO h.tr.ext.size hb))
 exact⟨r0.val,hD.ends,(λh=>by cases h),G3,aH,_,hKs,h4⟩
end
end M
namespace M
open Go Go.RowKit
variable [Bs]
section
variable {P:Program}{c:Ctx}{G:Nat->C}{zl:Nat->Nat->Prop}{s:ah}{a:Act}{w:World}{o:Oper}{K:ah->Prop}
def Ja{x:C}{m:Md}{xs:List X}(h:x.er=.ptr m xs):∃g o n f,x=.ptr m g o n f/\xs=(List.range n).map λj=>(f j).er:=by
 cases x with
 |ptr m' g o n f=>
  simp only[C.er] at h;injection h with h1 h2
  subst h1;exact⟨g,o,n,f,rfl,h2.symm⟩
 |_=>simp[C.er] at h
def ahb{m m':Md}{z z' len len' cap cap':Nat}{A A':Option Ad}{e e':Nat->Nat->C}(h:(C.row m z A len cap e).val=(C.row m' z' A' len' cap' e').val):A=A'/\len=len'/\cap=cap':=by
 simp only[C.val] at h;injection h with h1 h2 h3
 refine⟨?_,h2,h3⟩;cases A with
 |none=>cases A' with
  |none=>rfl
  |some q=>simp at h1
 |some q=>cases A' with
  |none=>simp at h1
  |some q'=>
   simp only[cj,dO,Addr.mk.injEq,and_true] at h1
   rw[show q=q' from Prod.ext h1.1 (Prod.ext h1.2.1 h1.2.2)]
def R3(n:Nat)(f:Nat->C){k sz:Nat}(h:k+sz<=n):((List.range sz).map λj=>(f (j+k)).er)=(((List.range n).map λj=>(f j).er).drop k).take sz:=by rw[<-lJ,oq,<-oH,<-oH,uJ,lF (by omega),cK];rfl
def OC(h:St c G zl s a w){l':List Operand}{as:List (AV×PM)}(hc:gJ l' as=true){x:AV}{n:Nat}(nY:dR as=some (x,n)){f:FuncId}{fv:Option AV}(hop:sG P c zl o a w l' f fv)(hn:∀n,o.dst=some n->n<c.nt)(hK:sQ P f o.dst as fv s K):qt P c o a w K false:=by
 obtain⟨k1,k2⟩:=hK;rw[nY] at k2;simp only at k2;obtain⟨ms,G1,g1,g2,hT⟩:=FL hc h;have h1:=GZ h hT;rw[<-g1] at k1 k2;have hmb:∀m∈ms,m.bare:=λm hm=>(C.lM m).1 (C.vh.1 k1 _ (fK hm));obtain⟨i,x',i1,i2,i3,i4,i5⟩:=K5 hc nY;obtain⟨u,u1,u2,u3⟩:=ck h1 i3;rw[<-u1] at k2
 have hval:∀y:C,y.val=u.val->∀(j:Nat) (x2:Operand),as[j]?=some (x,PM.mut n)->l'[j]?=some x2->y.val=a.eval x2:=λy hy j x2 hj hj'=>by
  have:=i4 j x n hj;subst this;rw[i2] at hj';injection hj' with hj'
  rw[hy,u2,hj']
 cases u with
 |ref v r p=>
  obtain⟨y',z',hs,hF,hv,m,z1,A,len,cap,e,rfl⟩:=u3.rf;cases hF with
  |row m m' sz' A len cap e e'=>
   simp only[C.er,placeOf,w4] at k2;split at k2
   ·rename_i z xs hlk;obtain⟨k2,k3,k4⟩:=k2;simp only[look] at hlk;rw[<-h1.inv.er,C.gD,hs] at hlk;simp only[cj,dO] at hlk;obtain⟨A2,an7,cap2,e2,he,rfl⟩:=yQ hlk;injection he with b1 b2 b3 b4 b5 b6
    subst b1;subst b2;subst b3;subst b4;subst b5;subst b6;have hok:=C.gY p hs (h1.inv.ok r)
    refine K6 h hc nY hop hn hT g2 hmb hs (y:=.row .own z1 A len cap e') (back:=λy Kx=>match y with
     |.row .own z' ys=>z'=z1/\Kx (iz r p (.row .own z1 ys) (bU as s).2)
     |_=>False) hok trivial (hval _ hv) (λb k hf=>hf) k3 (by rw[hlk];exact k4) λ{w' aH S M q} hM Kx hb=>?_
    split at hb;·rename_i z' ys hq;obtain⟨rfl,hb⟩:=hb;obtain⟨A3,an8,amt,e3,rfl,rfl⟩:=yQ hq;obtain⟨c1,c2,c3⟩:=ahb hM.val;subst c1;subst c2;subst c3;obtain⟨G',j1,j2,j3⟩:=hM.row h1.inv;exact⟨_,hb,G',j1,j2,j3⟩
    ·exact hb.elim
   ·exact k2.elim
 |aC v r p i k=>
  obtain⟨D,hs,hp⟩:=u3.rf;have hok:=C.gY p hs (h1.inv.ok r);simp only[C.er,placeOf,w4] at k2;have hlk:look (bU as s).2 r p=some D.er:=by simp only[look];rw[<-h1.inv.er,C.gD,hs];rfl
  rw[hlk] at k2;rcases hp with ⟨m,z,g,o',len,cap,e,rfl,rfl⟩|⟨m,g,o',nn,f',rfl,rfl,rfl⟩
  ·simp only[C.er] at k2;cases m with
   |own=>
    simp only[C.cV] at k2;split at k2
    ·rename_i e0 kU;split at kU
     ·rename_i hi;injection kU with kU
      obtain⟨k0,k2,k3,k4⟩:=k2;have hkn:k+n<=z:=by rw[<-kU] at k0;simpa using k0
      obtain⟨D1,D2,D3,D4,D5⟩:=hok;have zy:(C.ptr .own g (o'+i*z+k) n λj=>e i (j+k)).er=.ptr .own ((e0.drop k).take n):=by rw[<-kU,<-R3 z (λj=>e i j) hkn];rfl
      have hfr:∀j,j<z->w.frozen? ⟨g,o'+i*z+j,none⟩=false/\g<w.heap.size:=λj hj=>by
       rcases D4 rfl with ⟨hA,_⟩|⟨g',o2,arr,t,fz,hA,hh,hsz,hfr⟩;·cases hA
       ·injection hA with hA
        injection hA with e1 e2
        injection e2 with e2
        subst e1;subst e2;refine⟨hfr _ (by omega) ?_,(j7.1 hh).1⟩;have:(i+1)*z<=cap*z:=oJ _ (by omega);rw[fB] at this;omega
      have lX:g<w.heap.size:=by
       rcases D4 rfl with ⟨hA,_⟩|⟨g',o2,arr,t,fz,hA,hh,hsz,hfr⟩;·cases hA
       ·injection hA with hA
        injection hA with e1 e2
        subst e1;exact(j7.1 hh).1
      have pq:(C.ptr .own g (o'+i*z+k) n λj=>e i (j+k)).ok w (Zf zl c.zb):=by
       refine⟨λj hj=>⟨?_,λhm=>(hm rfl).elim,λ_=>?_⟩,lX,λj hj=>?_,λj hj b k' hf=>⟨λ_ hb=>?_,λj' hj' hne=>?_⟩⟩
       ·obtain⟨g',o2,hA,hcl,_⟩:=D2 i (j+k) hi (by omega);injection hA with hA
        injection hA with e1 e2
        injection e2 with e2
        subst e1;subst e2;rw[show o'+i*z+k+j=o'+i*z+(j+k) by omega];exact hcl
       ·rw[show o'+i*z+k+j=o'+i*z+(j+k) by omega];exact(hfr (j+k) (by omega)).1
       ·obtain⟨a1,a2,a3,a4⟩:=D3 i (j+k) hi (by omega);exact⟨a1,a3,a4⟩
       ·exact(D5 i (j+k) hi (by omega) b k' hf).1 rfl o' (by rw[hb.1])
       ·exact(D5 i (j+k) hi (by omega) b k' hf).2 i (j'+k) hi (by omega) (λe=>by simp only[jK] at e;omega)
      refine K6 h hc nY hop hn hT g2 hmb hs (back:=λy Kx=>match y with
       |.ptr .own ys=>ys.length=n/\gW ys=true/\Kx (iz r p (.row .own z ((dH z len e).set i (e0.take k++ys++e0.drop (k+n)))) (bU as s).2)
       |_=>False) pq ((C.lM _).1 (by rw[zy];exact k2)) (hval _ rfl) (λb k' hf=>?_) k3 (by rw[zy];exact k4) λ{w' aH S M q} hM Kx hb=>?_
      ·obtain⟨_,hf|⟨j,hj,hf⟩⟩:=hf;·exact⟨rfl,.inl ⟨o',by rw[hf.1]⟩⟩
       ·exact⟨rfl,.inr ⟨i,j+k,hi,by omega,hf⟩⟩
      ·split at hb
       ·rename_i ys hq;obtain⟨dQ,gM,Jz⟩:=hb;obtain⟨g3,o3,n3,f3,rfl,rfl⟩:=Ja hq;have kY:=hM.val;simp only[C.val] at kY;injection kY with kY
        injection kY with kY
        injection kY with c1 c2 c3
        subst c1;subst c2;have vK:n3=n:=by simpa using dQ
        subst vK;obtain⟨G',j1,j2,j3⟩:=hM.elem h1.inv hi hkn (λj hj=>SN (GL gM _ (bp.2 ⟨j,by simpa using hj,rfl⟩)));rw[kU] at j1;exact⟨_,Jz,G',j1,j2,j3⟩
       ·exact hb.elim
     ·cases kU
    ·exact k2.elim
   |sl=>exact k2.elim
   |af=>exact k2.elim
  ·simp only[C.er] at k2;cases m with
   |own=>
    obtain⟨k0,k2,k3,k4⟩:=k2;have hkn:k+n<=nn:=by simpa using k0
    obtain⟨D1,D2,D3,D4⟩:=hok;have zy:(C.ptr .own g (o'+k) n λj=>f' (j+k)).er=.ptr .own ((((List.range nn).map λj=>(f' j).er).drop k).take n):=by rw[<-R3 nn f' hkn];rfl
    have pq:(C.ptr .own g (o'+k) n λj=>f' (j+k)).ok w (Zf zl c.zb):=by
     refine⟨λj hj=>⟨?_,λhm=>(hm rfl).elim,λ_=>?_⟩,D2,λj hj=>D3 (j+k) (by omega),λj hj b k' hf=>⟨λ_ hb=>?_,λj' hj' hne=>?_⟩⟩;·rw[show o'+k+j=o'+(j+k) by omega];exact(D1 (j+k) (by omega)).1
     ·rw[show o'+k+j=o'+(j+k) by omega];exact(D1 (j+k) (by omega)).2.2 rfl
     ·exact(D4 (j+k) (by omega) b k' hf).1 rfl ⟨hb.1,by omega,by omega⟩
     ·exact(D4 (j+k) (by omega) b k' hf).2 (j'+k) (by omega) (by omega)
    refine K6 h hc nY hop hn hT g2 hmb hs (back:=λy Kx=>match y with
     |.ptr .own ys=>ys.length=n/\Kx (iz r p (.ptr .own (((List.range nn).map λj=>(f' j).er).take k++ys++((List.range nn).map λj=>(f' j).er).drop (k+n))) (bU as s).2)
     |_=>False) pq ((C.lM _).1 (by rw[zy];exact k2)) (hval _ rfl) (λb k' hf=>?_) k3 (by rw[zy];exact k4) λ{w' aH S M q} hM Kx hb=>?_
    ·obtain⟨_,hf|⟨j,hj,hf⟩⟩:=hf;·exact⟨rfl,.inl ⟨hf.1,by omega,by omega⟩⟩
     ·exact⟨rfl,.inr ⟨j+k,by omega,hf⟩⟩
    ·split at hb
     ·rename_i ys hq;obtain⟨dQ,Jz⟩:=hb;obtain⟨g3,o3,n3,f3,rfl,rfl⟩:=Ja hq;have kY:=hM.val;simp only[C.val] at kY;injection kY with kY
      injection kY with kY
      injection kY with c1 c2 c3
      subst c1;subst c2;have vK:n3=n:=by simpa using dQ
      subst vK;obtain⟨G',j1,j2,j3⟩:=hM.ptr h1.inv hkn;exact⟨_,Jz,G',j1,j2,j3⟩
     ·exact hb.elim
   |sl=>exact k2.elim
   |af=>exact k2.elim
 |_=>exact k2.elim
def Jk{f:FuncId}(h:ak P f=true):∃fn,P.funcs[f]?=some fn/\(fn.name== "runtime.NumGoroutine")=false/\fn.body.isNone=false:=by
 unfold ak at h;split at h;·rename_i fn hf;simp only[aA,yb] at h;exact⟨fn,hf,h.1,h.2⟩
 ·cases h
def agj(h:St c G zl s a w){f:FuncId}{fn:Func}{as':Array Operand}{as:List (AV×PM)}{ts:Array TypeId}(ho:o.op=.call {callee:=.value (.func f),args:=as',argTypes:=ts})(hf:P.funcs[f]?=some fn)(hname:(fn.name== "runtime.NumGoroutine")=false) (hb:fn.body.isNone=false)
  (hn:∀n,o.dst=some n->n<c.nt) (hc:gJ as'.toList as=true) (hK:aR P (.call o.dst f as) s K):qt P c o a w K (jm as):=by
 have hop:sG P c zl o a w as'.toList f none:=⟨[],by simp only[execOp,ho,resolve,Act.eval,Deferred.ofValue,Sem.run_bind,Sem.run_pure,Result.andThen_ok,invoke,Lx hf hname hb];congr 2;apply oG;simp,λ_ _ _ _=>⟨[],rfl,rfl,λ_ hx=>(by cases hx)⟩⟩
 cases hm:dR as with
 |none=>exact OD _ h hc hm hop (λh=>h) hn hK
 |some q=>
  have hq:jm as=false:=by
   cases hq:jm as with
   |false=>rfl
   |true=>rw[w5 hq] at hm;cases hm
  rw[hq];exact OC h hc hm hop hn hK
def agl(h:St c G zl s a w){x:AV}{x':Operand}{as':Array Operand}{as:List (AV×PM)}{ts:Array TypeId}(ho:o.op=.call {callee:=.value x',args:=as',argTypes:=ts})(hx:aO x' x=true)
  (hn:∀n,o.dst=some n->n<c.nt)(hc:gJ as'.toList as=true)(hK:aR P (.kf o.dst x as) s K):qt P c o a w K (jm as):=by
 simp only[aR] at hK;split at hK
 ·rename_i f cs he;obtain⟨hf,hK⟩:=hK;obtain⟨fn,hf1,jz,hf3⟩:=Jk hf;obtain⟨p,p1,p2,p3⟩:=ck h hx;rw[he] at p1;cases p with
  |fn g n fc=>
   simp only[C.er,X.fn.injEq] at p1;obtain⟨rfl,p1⟩:=p1
   have hop:sG P c zl o a w as'.toList g (some x):=⟨(List.range n).map λj=>(fc j).val,by
    simp only[execOp,ho,resolve,<-p2,C.val,Deferred.ofValue,Sem.run_bind,Sem.run_pure,Result.andThen_ok,invoke,Lx hf1 jz hf3];congr 2;apply oG;simp,λ{G2 s2 bG} h2 hb hG hi=>by
    simp only[qF] at hi;split at hi;·rename_i g' cs' he';subst hi;obtain⟨l,l1,l2,l3⟩:=YQ h2 hb hG hx he';refine⟨l,l1,?_,l3⟩;rw[<-p2] at l2;simp only[C.val,Value.func.injEq,true_and] at l2;exact(Array.mk.injEq _ _▸l2:_).symm
    ·exact hi.elim⟩
   cases hm:dR as with
   |none=>exact OD _ h hc hm hop (λh=>h) hn hK
   |some q=>
    have hq:jm as=false:=by
     cases hq:jm as with
     |false=>rfl
     |true=>rw[w5 hq] at hm;cases hm
    rw[hq];exact OC h hc hm hop hn hK
  |_=>simp[C.er] at p1
 ·exact hK.elim
end
end M
namespace M
open Go Go.RowKit
variable [Bs]
section
variable {P:Program}{c:Ctx}{G:Nat->C}{zl:Nat->Nat->Prop}{s:ah}{a:Act}{w:World}{o:Oper}{K:ah->Prop}
def aht{x:C}(hc:x.cell)(hs:M.cQ x.er=true):x.plain:=by cases x<;>first|trivial|exact hc|(simp[C.er,M.cQ] at hs)
def agO{x:C}(h:x.plain):x.bare:=by cases x<;>first|trivial|exact h.elim
def ahs{l:List X}(h:gW l=true):∀x∈l,M.cQ x=true:=by
 induction l with
 |nil=>intro x hx;cases hx
 |cons a l ih=>
  simp only[gW,aA] at h;intro x hx;rcases bZ.1 hx with rfl|hx;·exact h.1
  ·exact ih h.2 x hx
def HL:∀{l':List Operand} {l:List (AV×PM)},gJ l' l=true->jm l=true->MV a l' l (l.map λ_=>.dead undef)
 |[],[],_,_=>trivial
 |x'::l',(x,.af)::l,hc,hq=>HL (l':=l') (l:=l) (by simp only[gJ,aA] at hc;exact hc.2) hq
 |x'::l',(x,.iF n)::l,hc,hq=>HL (l':=l') (l:=l) (by simp only[gJ,aA] at hc;exact hc.2) hq
 |x'::l',(x,.mv)::l,hc,hq=>by cases hq
 |x'::l',(x,.mut _)::l,hc,hq=>by cases hq
 |[],_::_,hc,_=>by cases hc
 |_::_,[],hc,_=>by cases hc
def YP(h:St c G zl s a w){x':Operand}{l':List Operand}{x:AV}{as:List (AV×PM)}(hx:aO x' x=true)(hc:gJ l' as=true)(hq:jm as=true){f:FuncId}(hop:sG P c zl o a w (x'::l') f none)(hn:∀n,o.dst=some n->n<c.nt)(hK:aR P (.qC o.dst f x as) s K):qt P c o a w K false:=by
 obtain⟨p,p1,p2,p3⟩:=ck h hx;simp only[aR] at hK;rw[<-p1] at hK;cases p with
 |agg n f0=>
  have per:(C.agg n f0).er=.agg (((List.range n).map f0).map C.er):=by simp only[C.er,cK];rfl
  rw[per] at hK;simp only at hK;obtain⟨k1,k3⟩:=hK
  have hcells:∀c'∈(List.range n).map f0,yu w zl c.zb G c':=λc' jU=>by
   obtain⟨j,hj,rfl⟩:=bp.1 jU;have hj':j<n:=by simpa using hj
   exact⟨(p3.ok.1 j hj').1,(p3.ok.1 j hj').2,λb k hf=>p3.cP b k ⟨j,hj',hf⟩,λv r p e=>Cl (by rw[<-e];exact p3.rf j hj')⟩
  obtain⟨l0,G1,e1,e2,e3,e4,e5⟩:=Cg _ G s h.inv hcells;obtain⟨oR,hrun,za⟩:=hop.run;have h1:=GZ h e4;rw[<-e1] at k1 k3;have jA:∀b k,c.zb b k->(c.zb b k\/∃t,(G1 t).fp b k):=λb k hz=>.inl hz;have ri:∀t b k,(G1 t).fp b k->(c.zb b k\/∃t,(G1 t).fp b k):=λt b k hf=>.inr ⟨t,hf⟩;obtain⟨l,q1,q2,q3⟩:=za h1 jA ri trivial;have hl0:l=[]:=by simpa [nR] using q1
  subst hl0;have hcap:oR=[]:=by simpa using q2.symm
  subst hcap
  obtain⟨yL,r1,r2,r3,r4⟩:=CX h1 jA ri (y:=.dead undef) trivial trivial hc (HL hc hq) (λx hx=>by
   obtain⟨_,_,rfl⟩:=bp.1 hx;exact⟨trivial,trivial,λb k hf=>hf.elim⟩) (qx λx hx=>by
   obtain⟨_,_,rfl⟩:=bp.1 hx
   exact λb k hf=>hf) (λi x n x' hi _=>by
    exfalso;have hno:=w5 hq
    have:∀{l:List (AV×PM)} {i:Nat},l[i]?=some (x,PM.mut n)->dR l≠none:=by
     intro l;induction l with
     |nil=>intro i hi;simp at hi
     |cons y l ih=>
      intro i hi;obtain⟨y,pm⟩:=y;cases i with
      |zero=>simp only[yg,dO,jK] at hi;obtain⟨_,rfl⟩:=hi;simp[dR]
      |succ i=>have:=ih (by simpa using hi);cases pm<;>simp[dR]<;>first|exact this|skip
    exact this hi hno)
  have DV:∀x∈yL,∀b k,¬x.fp b k:=λx hx b k hf=>by
   rcases(r3 x hx).2.2 b k hf with ⟨m,hm,hh⟩|⟨hh,_⟩;·obtain⟨_,_,rfl⟩:=bp.1 hm;exact hh
   ·rw[w5 hq] at hh;cases hh
  have pn:l0.length=n:=by have:=dr List.length e2;simpa using this
  have QK:∀b k,(gH l0).fp b k->∃m∈l0,m.fp b k:=λb k hf=>(qv _ _ _).1 hf
  have hpl:∀x∈l0,x.ok w (Zf zl λb k=>c.zb b k\/∃t,(G1 t).fp b k):=λx hx=>C.gB (λm b k hz=>by
   cases m with
   |own=>exact hz
   |sl=>exact hz
   |af=>exact hz.imp id .inl) _ (e4.all x hx).1
  have hA:qn w zl (λb k=>c.zb b k\/∃t,(G1 t).fp b k) (gH l0::yL):={
   ok:=λx hx=>by
    rcases bZ.1 hx with rfl|hx;·exact⟨λj hj=>⟨C.lp (e3 _ (cL hj _)),hpl _ (cL hj _)⟩,λj hj b k hf j' hj' hne=>xj e4.apart _ hj hj' hne hf⟩
    ·exact(r3 x hx).1
   bare:=λx hx=>by
    rcases bZ.1 hx with rfl|hx;·exact λj hj=>agO (e3 _ (cL hj (C.dead undef)))
    ·exact(r3 x hx).2.1
   fz:=λx hx b k hf=>by
    rcases bZ.1 hx with rfl|hx;·obtain⟨m,hm,hf⟩:=QK b k hf;exact⟨((e4.all m hm).2.2.1 b k hf).1,λhz=>hz.elim ((e4.all m hm).2.2.1 b k hf).2 λ⟨t,ht⟩=>(e4.all m hm).2.1 t b k hf ht⟩
    ·exact(DV x hx b k hf).elim
   cE:=λb k hz=>by
    rcases hz with hz|hz|⟨t,ht⟩;·exact e4.inv.cE b k (.inl hz)
    ·exact e4.inv.cE b k (.inr hz)
    ·exact C.fE _ (e4.inv.ok t) b k ht
   apart:=fA.2 ⟨λx hx b k _ hf=>DV x hx b k hf,qx DV⟩}
  have qZ:=k3 w zl _ (gH l0::yL) (by rw[bD,r1,uX];simp only[cK];rfl) hA (h1.Js _ λb k hz=>.inl hz)
  have QM:(gH l0).val=a.eval x':=by rw[yw,e2,<-p2];simp only[C.val,cK];rfl
  have tu:(gH l0::yL).map C.val=(x'::l').map a.eval++[]:=by rw[bD,QM,r2];simp
  rw[tu] at qZ;refine⟨f,_,hrun,qZ.mono ?_⟩;rintro e w' ⟨r,ps,aH,hD,hk⟩;have hin:∀b k,aH b k->b<w'.heap.size:=λb k hz=>hD.all.cE b k (.inl hz);have ku:∀b k,(∃m∈l0,m.fp b k)->(∀t,¬(G1 t).fp b k)/\¬zl b k/\¬c.zb b k:=λb k ⟨m,hm,hf⟩=>⟨λt=>(e4.all m hm).2.1 t b k hf,(e4.all m hm).2.2.1 b k hf⟩
  have kR:∀b k,(∃x∈gH l0::yL,x.fp b k)->∃m∈l0,m.fp b k:=λb k ⟨x,hx,hf⟩=>by
   rcases bZ.1 hx with rfl|hx;·exact QK b k hf
   ·exact(DV x hx b k hf).elim
  have zA:∀b k,aH b k->zl b k\/(∃m∈l0,m.fp b k)\/w.heap.size<=b:=λb k hz=>(hD.sF b k hz).imp id λhh=>hh.imp (kR b k) id
  have hi:=e4.inv.NN hD.ext (λb k hs=>ku b k (kR b k hs)) hD.sE (λb k hz=>⟨hin b k hz,λt hf=>by
   rcases zA b k hz with hz|hm|hb;·exact(e4.inv.fz t b k hf).1 hz
   ·exact(ku b k hm).1 t hf
   ·have:=C.fE _ (e4.inv.ok t) b k hf;omega⟩)
  have kz:∀b k,(∃m∈l0,m.fp b k)->∃t,(G t).fp b k:=λb k ⟨m,hm,hf⟩=>(e4.all m hm).2.2.2 b k hf;have DX:∀x∈r::ps,∀b k,x.fp b k->(∃m∈l0,m.fp b k)\/w.heap.size<=b:=λx hx b k hf=>(hD.dom x hx b k hf).imp (kR b k) id
  have Qy:∀x∈r::ps,∀t b k,x.fp b k->¬(G1 t).fp b k:=λx hx t b k hf hf'=>by
   rcases DX x hx b k hf with hm|hb;·exact(ku b k hm).1 t hf'
   ·have:=C.fE _ (e4.inv.ok t) b k hf';omega
  have QA:∀x∈r::ps,∀b k,x.fp b k->¬aH b k/\¬c.zb b k:=λx hx b k hf=>⟨(hD.all.fz x hx b k hf).1,λhz=>by
   rcases DX x hx b k hf with hm|hb;·exact(ku b k hm).2.2 hz
   ·have:=e4.inv.cE b k (.inr hz);omega⟩
  cases ps with
  |nil=>exact hk.elim
  |cons p0 ps=>
   cases p0 with
   |agg n0 g0=>
    simp only[bD,C.er] at hk;obtain⟨j1,s',j2,j3⟩:=hk;have DW:(C.agg n0 g0)∈r::C.agg n0 g0::ps:=b8 _ (bF ..);have hv0:(C.agg n0 g0).val=(C.agg n f0).val:=by have:=dr List.head? hD.vals;simp only[bD,List.head?_cons,dO] at this;rw[this,QM,p2]
    simp only[C.val,Value.agg.injEq,Array.mk.injEq,List.toArray_inj] at hv0;have jh:n0=n:=by have:=dr List.length hv0;simpa using this
    subst jh;have JR:=hD.all.ok _ DW;have DR:∀y∈(List.range n0).map g0,∀b k,y.fp b k->(C.agg n0 g0).fp b k:=λy hy b k hf=>by obtain⟨j,hj,rfl⟩:=bp.1 hy;exact⟨j,by simpa using hj,hf⟩
    rw[show ((List.range n0).map λj=>(g0 j).er)=((List.range n0).map g0).map C.er by simp only[cK];rfl] at j1 j2
    obtain⟨G2,g1,g2,g3⟩:=CZ ((List.range n0).map f0) ((List.range n0).map g0) hi (by simp) (λv r p hm=>e5 v r p ((hcells _ hm).weak v r p rfl)) (λi cc y hi1 hi2=>by
     have hy:y∈(List.range n0).map g0:=lE hi2;obtain⟨j,hj,rfl⟩:=bp.1 hy;have hj':j<n0:=by simpa using hj
     refine⟨aht (JR.1 j hj').1 (ahs j1 _ (fK hy)),?_,C.gB (λm b k hz=>by
      cases m with
      |own=>exact hz
      |sl=>exact hz
      |af=>exact hz.imp id λh=>h.elim) _ (JR.1 j hj').2⟩
     have:=dr (λt:List Value=>t[i]?) hv0;rw[show ((List.range n0).map λj=>(g0 j).val)=((List.range n0).map g0).map C.val by simp only[cK];rfl,show ((List.range n0).map λj=>(f0 j).val)=((List.range n0).map f0).map C.val by simp only[cK];rfl,cY (l:=(List.range n0).map g0),cY (l:=(List.range n0).map f0),hi1,hi2] at this;simpa using this) (λy hy=>⟨λt b k hf=>Qy _ DW t b k (DR y hy b k hf),λb k hf=>QA _ DW b k (DR y hy b k hf)⟩) (by
     rw[Cz];refine HC ?_ List.nodup_range;intro i j hi hj hne b k hf;exact JR.2 i (by simpa using hi) b k hf j (by simpa using hj) hne) j2
    have zx:∀b k,(∃y∈(List.range n0).map g0,y.fp b k)->(∃m∈l0,m.fp b k)\/w.heap.size<=b:=λb k ⟨y,hy,hf⟩=>DX _ DW b k (DR y hy b k hf)
    have h2:St c G2 aH s' a w':=h.after g1 (λt=>(g2 t).trans (e4.val t)) hD.ext (λb k hs=>kz b k (kR b k hs)) (λt b k hf=>by
     rcases g3 t b k hf with hh|hh;·exact .inl ⟨t,e4.mono t b k hh⟩
     ·exact(zx b k hh).imp (kz b k) id) hD.sE (λb k hz=>(zA b k hz).imp id λhh=>hh.imp (kz b k) id)
    have hr:r∈r::C.agg n0 g0::ps:=bF ..
    obtain⟨G3,h3⟩:=h2.result (x:=r) o.dst hn (hD.all.ok r hr) (hD.all.bare r hr) (λt b k hf hf'=>by
      rcases g3 t b k hf' with hh|⟨y,hy,hh⟩;·exact Qy r hr t b k hf hh
      ·exact(fA.1 hD.all.apart).1 _ (bF ..) b k hf (DR y hy b k hh)) (QA r hr) (λb k hf=>by
      rcases DX r hr b k hf with hm|hb;·obtain⟨t,ht⟩:=kz b k hm;exact h.tr.dom t b k ht
      ·exact .inr (eO h.tr.ext.size hb))
    exact⟨r.val,hD.ends,λJS=>by (cases JS),G3,aH,_,j3,h3⟩
   |_=>exact hk.elim
 |_=>exact hK.elim
def agk(h:St c G zl s a w){f:FuncId}{fn:Func}{as':Array Operand}{x:AV}{x':Operand}{l':List Operand}{as:List (AV×PM)}{ts:Array TypeId}(ho:o.op=.call {callee:=.value (.func f),args:=as',argTypes:=ts})(hl:as'.toList=x'::l')(hf:P.funcs[f]?=some fn)(hname:(fn.name== "runtime.NumGoroutine")=false) (hb:fn.body.isNone=false)
  (hn:∀n,o.dst=some n->n<c.nt) (hx:aO x' x=true) (hc:gJ l' as=true) (hq:jm as=true) (hK:aR P (.qC o.dst f x as) s K):qt P c o a w K false:=by
 have hop:sG P c zl o a w (x'::l') f none:=⟨[],by simp only[execOp,ho,resolve,Act.eval,Deferred.ofValue,Sem.run_bind,Sem.run_pure,Result.andThen_ok,invoke,Lx hf hname hb];rw[<-hl];congr 2;apply oG;simp,λ_ _ _ _=>⟨[],rfl,rfl,λ_ hx=>(by cases hx)⟩⟩
 exact YP h hx hc hq hop hn hK
end
end M
namespace M
open Go Go.RowKit
variable [Bs]
section
variable {P:Program}{ops:Array Oper}{Q:Exit->Act->World->Prop}
def wpAnyQ(P:Program)(ops:Array Oper)(quiet:Nat->Bool)(Q:Exit->Act->World->Prop):Nat->Array Bool->Act->World->Prop
 |0,listed,a,w=>Region.ready .any ops listed=[]/\Q .normal a w
 |fuel+1,listed,a,w=>(Region.ready .any ops listed=[]->Q .normal a w)/\
  ∀i∈Region.ready .any ops listed,wpOp P ops Q i (λa' w'=>Rel (quiet i) w w'/\wpAnyQ P ops quiet Q fuel (listed.setIfInBounds i true) a' w') a w
def wpAnyQ.any{quiet:Nat->Bool}:∀{fuel:Nat} {listed:Array Bool} {a:Act} {w:World},wpAnyQ P ops quiet Q fuel listed a w->wpAny P .any ops Q fuel listed a w
 |0,_,_,_,h=>h
 |fuel+1,_,_,_,h=>⟨h.1,λi hi=>wpOp_mono (λ_ _ h=>h.2.any) (h.2 i hi)⟩
def nP(P:Program)(ops:Array Oper)(o:Oper)(v:Value)(a:Act)(w:World):Prop:=
 (Region.wanted o (yielded ops a.tmps)=true/\∀w',Ext (λ_ _=>False) w w'->(execOp a.eval o).run P w'=.ok (.value v) w')\/
 (Region.wanted o (yielded ops a.tmps)=false/\v=undef)
def nP.wpOp{i:Nat}{o:Oper}{v:Value}{a:Act}{w:World}(hi:ops[i]?=some o)(hy:nP P ops o v a w){K:Act->World->Prop}(h:K (a.put o.dst v) w):wpOp P ops Q i K a w:=by
 unfold Go.wpOp;simp only[hi];rcases hy with ⟨hw,hv⟩|⟨hw,rfl⟩;·simp only[hw,cG,Oper.wp,hv w (Ext.refl _ _),Oper.upon];exact .inl h
 ·simp only[hw,fL,cT];exact h
def qp(P:Program)(ops:Array Oper)(o:Oper)(v:Value)(a:Act):Prop:=
 (Region.wanted o (yielded ops a.tmps)=true/\∀w',(execOp a.eval o).run P w'=.ok (.value v) w')\/
 (Region.wanted o (yielded ops a.tmps)=false/\v=undef)
def qp.later{o:Oper}{v:Value}{a:Act}(h:qp P ops o v a)(w:World):nP P ops o v a w:=h.imp (λh=>⟨h.1,λw' _=>h.2 w'⟩) id
def CR(ops:Array Oper)(o:Oper)(a a':Act):Prop:=execOp a'.eval o=execOp a.eval o/\Region.wanted o (yielded ops a'.tmps)=Region.wanted o (yielded ops a.tmps)
def nP.same{o:Oper}{v:Value}{a a':Act}{w w':World}(hy:nP P ops o v a w)(h:CR ops o a a')(hE:Ext (λ_ _=>False) w w'):nP P ops o v a' w':=by unfold nP;rw[h.1,h.2];exact hy.imp (λhh=>⟨hh.1,λw2 h2=>hh.2 w2 (hE.trans h2 λ_ _ h _=>h)⟩) id
def qp.same{o:Oper}{v:Value}{a a':Act}(hy:qp P ops o v a)(h:CR ops o a a'):qp P ops o v a':=by unfold qp;rw[h.1,h.2];exact hy
def Tv{j:Nat}{oi oj:Oper}{v:Value}(hj:ops[j]?=some oj)(hap:oi.apart ops oj=true)(hsi:∀cs b,oi.op≠.select cs b)(hsj:∀cs b,oj.op≠.select cs b)
  (hQ:∀c a w,Q (.panic c) (a.put oi.dst v) w->Q (.panic c) a w){K:Act->World->Prop}{a:Act}{w:World}(h:wpOp P ops Q j K (a.put oi.dst v) w):
  wpOp P ops Q j (λa' w'=>CR ops oi a a'/\K (a'.put oi.dst v) w') a w:=by
 obtain⟨h1,h2,h3⟩:=Oper.apart_spec hap;have keep:∀u,CR ops oi a (a.put oj.dst u):=λu=>⟨execOp_put oi hsi a oj.dst u h3,wanted_put oi a oj.dst u h3⟩;have put:∀u,(a.put oj.dst u).put oi.dst v=(a.put oi.dst v).put oj.dst u:=λu=>(Act.put_comm a v u h2).symm;unfold Go.wpOp at*;simp only[hj] at*;rw[wanted_put oj a oi.dst v h1] at h;by_cases hw:Region.wanted oj (yielded ops a.tmps)=true
 ·rw[ay hw] at h⊢;have lW:execOp (a.put oi.dst v).eval oj=execOp a.eval oj:=execOp_put oj hsj a oi.dst v h1;refine h.imp (λh=>?_) λh=>⟨?_,h.2⟩
  ·unfold Oper.wp at*;rw[lW] at h;generalize (execOp a.eval oj).run P w=r at h⊢;match r,h with
   |.ok (.value u) w',h=>exact⟨keep u,by rw[put];exact h⟩
   |.ok .skip w',h=>exact⟨keep _,by rw[put];exact h⟩
   |.ok (.defer d) w',h=>
    refine⟨by have k:=keep undef;unfold Act.put at*;cases hd:oj.dst<;>rw[hd] at k<;>exact⟨k.1,k.2⟩,?_⟩
    have h':K (({a.put oi.dst v with defers:=d::(a.put oi.dst v).defers}:Act).put oj.dst undef) w':=h;rw[Act.put_defers,Act.put_comm _ v undef h2] at h';exact h'
   |.ok (.enter f args) w',h=>
    refine Calls.mono h λe w'' he=>?_;match e,he with
    |.returned u,he=>exact⟨keep u,by rw[put];exact he⟩
    |.panicked c,he=>exact hQ _ _ _ he
    |.outgrown,he=>exact he
   |.ok (.row row args) w',h=>exact Rows.mono h λu w'' he=>⟨keep u,by rw[put];exact he⟩
   |.halt (.panic u) w',h=>exact hQ _ _ _ h
  ·have:=h.1;unfold Oper.asks at this⊢;rwa [lW] at this
 ·rw[aD hw] at h⊢;exact⟨keep _,by rw[put];exact h⟩
def Down(ops:Array Oper)(listed:Array Bool):Prop:=∀k ok,ops[k]?=some ok->listed.getD k false=true->∀e∈ok.after,Region.binds .any e=true->listed.getD e.on false=true
def vw(ops : Array Oper)(t : Nat -> Nat -> Bool) : Bool := (List.range ops.size).all λj => (List.range ops.size).all λi => !t j i || (match ops[j]? with
 |some oj=>oj.after.any λe=>Region.binds .any e && (e.on==i||(decide (e.on<j) && t e.on i))
 |none=>false)
def Lj{t:Nat->Nat->Bool}(jU:vw ops t=true){listed:Array Bool}(hd:Down ops listed){i:Nat}(hi:listed.getD i false=false):∀(n j:Nat),j<n->j<ops.size->i<ops.size->(∀oj,ops[j]?=some oj->∀e∈oj.after,Region.binds .any e=true->listed.getD e.on false=true)->t j i=false
 |0,j,hj,_,_,_=>by omega
 |n+1,j,hj,DS,Qu,hall=>by
  cases ht:t j i with
  |false=>rfl
  |true=>
   exfalso;have hc:=jU;simp only[vw,oK,sw] at hc;have h1:=hc j DS i Qu;rw[ht] at h1;simp only[Bool.not_true,Bool.false_or] at h1;split at h1
   ·rename_i oj gx;obtain⟨e,he,hb⟩:=Array.any_eq_true'.1 h1;simp only[aA,uN,ew,bz] at hb;have hl:=hall oj gx e he hb.1;rcases hb.2 with h2|⟨h2,h3⟩;·rw[h2,hi] at hl;cases hl
    ·have:=Lj jU hd hi n e.on (by omega) (by omega) Qu (λoe hoe e' he' hb'=>hd e.on oe hoe hl e' he' hb');rw[this] at h3;cases h3
   ·cases h1
def Down.set{listed:Array Bool}(h:Down ops listed){j:Nat}{oj:Oper}(hj:ops[j]?=some oj)(hall:∀e∈oj.after,Region.binds .any e=true->listed.getD e.on false=true):Down ops (listed.setIfInBounds j true):=by
 intro k ok hk hl e he hb;by_cases hjk:j=k
 ·subst hjk;rw[hj] at hk;injection hk with hk
  subst hk;exact getD_set_true (hall e he hb)
 ·rw[getD_set_ne false hjk] at hl;exact getD_set_true (h k ok hk hl e he hb)
def wpAnyQ_first{quiet:Nat->Bool}{i:Nat}{oi:Oper}{v:Value}(hi:ops[i]?=some oi)(hsel:∀(j:Nat) (o:Oper) cs b,ops[j]?=some o->o.op≠.select cs b)(hQ:∀c a w,Q (.panic c) (a.put oi.dst v) w->Q (.panic c) a w){t:Nat->Nat->Bool}(kA:vw ops t=true):
  ∀(fuel:Nat) (listed:Array Bool) (a:Act) (w:World),
   Down ops listed->(∀j oj,ops[j]?=some oj->j≠i->listed.getD j true=false->t j i=false->oi.apart ops oj=true/\quiet j=true)->
   i∈Region.ready .any ops listed->nP P ops oi v a w->
   wpAnyQ P ops quiet Q fuel (listed.setIfInBounds i true) (a.put oi.dst v) w->wpAnyQ P ops quiet Q (fuel+1) listed a w:=by
 intro fuel;induction fuel with
 |zero=>
  intro listed a w _ _ hr hy H;refine⟨λh=>(by rw[h] at hr;cases hr),λj hj=>?_⟩;by_cases hji:j=i;·subst hji;exact hy.wpOp hi ⟨Rel.refl _ _,H⟩
  ·have:=ready_mono hj hji;rw[H.1] at this;cases this
 |succ fuel ih=>
  intro listed a w ze hfree hr hy H;refine⟨λh=>(by rw[h] at hr;cases hr),λj hj=>?_⟩;by_cases hji:j=i;·subst hji;exact hy.wpOp hi ⟨Rel.refl _ _,H⟩
  ·have h1:=H.2 j (ready_mono hj hji);obtain⟨zj,oj,gx,hall⟩:=mem_ready.1 hj
   have hi0:listed.getD i false=false:=by
    have h0:=(mem_ready.1 hr).1;rcases iB i listed.size with h'|h';·simpa [h'] using h0
    ·simp[lI h']
   have hnot:t j i=false:=Lj kA ze hi0 (j+1) j (by omega) (j7.1 gx).1 (j7.1 hi).1 (λoj' pg e he hb=>by
    rw[gx] at pg;injection pg with pg
    rw[<-pg] at he;exact hall e he hb)
   obtain⟨hap,hqu⟩:=hfree j oj gx hji zj hnot;have h2:=Tv gx hap (λcs b=>hsel i oi cs b hi) (λcs b=>hsel j oj cs b gx) hQ h1
   have JJ:∀k ok,ops[k]?=some ok->k≠i->(listed.setIfInBounds j true).getD k true=false->
     t k i=false->oi.apart ops ok=true/\quiet k=true:=λk ok hk hki hun hno=>by
    refine hfree k ok hk hki ?_ hno;by_cases hjk:j=k;·subst hjk;exact zj
    ·rw[getD_set_ne true hjk] at hun;exact hun
   refine wpOp_mono (λa' w' ⟨hsame,hrel,h3⟩=>⟨hrel,ih (listed.setIfInBounds j true) a' w' (ze.set gx hall) JJ (ready_mono hr (uK hji)) (hy.same hsame (hrel hqu)) ?_⟩) h2;rw[TX _ _ hji];exact h3
def alx{quiet:Nat->Bool}{i:Nat}{oi:Oper}{v:Value}(hi:ops[i]?=some oi)(hsel:∀(j:Nat) (o:Oper) cs b,ops[j]?=some o->o.op≠.select cs b)(hQ:∀c a w,Q (.panic c) (a.put oi.dst v) w->Q (.panic c) a w){t:Nat->Nat->Bool}(kA:vw ops t=true):
  ∀(fuel:Nat) (listed:Array Bool) (a:Act) (w:World),
   Down ops listed->(∀j oj,ops[j]?=some oj->j≠i->listed.getD j true=false->t j i=false->oi.apart ops oj=true)->
   i∈Region.ready .any ops listed->qp P ops oi v a->
   wpAnyQ P ops quiet Q fuel (listed.setIfInBounds i true) (a.put oi.dst v) w->wpAnyQ P ops quiet Q (fuel+1) listed a w:=by
 intro fuel;induction fuel with
 |zero=>
  intro listed a w _ _ hr hy H;refine⟨λh=>(by rw[h] at hr;cases hr),λj hj=>?_⟩;by_cases hji:j=i;·subst hji;exact(hy.later w).wpOp hi ⟨Rel.refl _ _,H⟩
  ·have:=ready_mono hj hji;rw[H.1] at this;cases this
 |succ fuel ih=>
  intro listed a w ze hfree hr hy H;refine⟨λh=>(by rw[h] at hr;cases hr),λj hj=>?_⟩;by_cases hji:j=i;·subst hji;exact(hy.later w).wpOp hi ⟨Rel.refl _ _,H⟩
  ·have h1:=H.2 j (ready_mono hj hji);obtain⟨zj,oj,gx,hall⟩:=mem_ready.1 hj
   have hi0:listed.getD i false=false:=by
    have h0:=(mem_ready.1 hr).1;rcases iB i listed.size with h'|h';·simpa [h'] using h0
    ·simp[lI h']
   have hnot:t j i=false:=Lj kA ze hi0 (j+1) j (by omega) (j7.1 gx).1 (j7.1 hi).1 (λoj' pg e he hb=>by
    rw[gx] at pg;injection pg with pg
    rw[<-pg] at he;exact hall e he hb)
   have hap:=hfree j oj gx hji zj hnot;have h2:=Tv gx hap (λcs b=>hsel i oi cs b hi) (λcs b=>hsel j oj cs b gx) hQ h1
   have JJ:∀k ok,ops[k]?=some ok->k≠i->(listed.setIfInBounds j true).getD k true=false->
     t k i=false->oi.apart ops ok=true:=λk ok hk hki hun hno=>by
    refine hfree k ok hk hki ?_ hno;by_cases hjk:j=k;·subst hjk;exact zj
    ·rw[getD_set_ne true hjk] at hun;exact hun
   refine wpOp_mono (λa' w' ⟨hsame,hrel,h3⟩=>⟨hrel,ih (listed.setIfInBounds j true) a' w' (ze.set gx hall) JJ (ready_mono hr (uK hji)) (hy.same hsame) ?_⟩) h2;rw[TX _ _ hji];exact h3
end
end M
namespace M
open Go Go.RowKit
variable [Bs]
def lB(P:Program)(t:TypeId):Option TypeId:=match P.underlying t with
 |some (.slice e)=>some e
 |_=>none
def isStr(P:Program)(t:TypeId):Bool:=match P.underlying t with
 |some .string=>true
 |_=>false
def Kj(P:Program)(t:TypeId):Bool:=match P.underlying t with
 |some .bool=>true
 |_=>false
def isInt(P:Program)(t:TypeId)(k:IntKind):Bool:=match P.underlying t with
 |some (.int k')=>decide (k'=k)
 |_=>false
def kS(P:Program)(t:TypeId)(n:Nat):Bool:=match P.info? t with
 |some i=>decide (i.size=n)
 |none=>false
def Wb:TypeDesc->Bool
 |.struct _=>true
 |.array _ _=>true
 |_=>false
def tL(P:Program)(t:TypeId)(b:Bool):Bool:=match P.underlying t with
 |some d=>Wb d==b
 |none=>false
section
variable {P:Program}{t:TypeId}
def nF{e:TypeId}(h:lB P t=some e):P.underlying t=some (.slice e):=by
 unfold lB at h;split at h;·rename_i e' he;injection h with h;subst h;exact he
 ·cases h
def Ae(h:isStr P t=true):P.underlying t=some .string:=by
 unfold isStr at h;split at h;·assumption
 ·cases h
def aez(h:Kj P t=true):P.underlying t=some .bool:=by
 unfold Kj at h;split at h;·assumption
 ·cases h
def Kk{k:IntKind}(h:isInt P t k=true):P.underlying t=some (.int k):=by
 unfold isInt at h;split at h;·rename_i k' hk;rw[hk,ya h]
 ·cases h
def qY{n:Nat}(h:kS P t n=true):∃i,P.info? t=some i/\i.size=n:=by
 unfold kS at h;split at h;·rename_i i hi;exact⟨i,hi,ya h⟩
 ·cases h
def Ac{b:Bool}(h:tL P t b=true):∃dd,P.underlying t=some dd/\(match dd with|.struct _=>true|.array _ _=>true|_=>false)=b:=by
 unfold tL at h;split at h;·rename_i d hd;refine⟨d,hd,?_⟩;rw[ew] at h;rw[<-h];cases d<;>rfl
 ·cases h
end
def dy(nt:Nat)(o:Oper)(d:Nat):Bool:=(match o.dst with|some d'=>d'==d|none=>false) && decide (d<nt)
def dK{nt:Nat}{o:Oper}{d:Nat}(h:dy nt o d=true):o.dst=some d/\d<nt:=by
 simp only[dy,aA,bz] at h;refine⟨?_,h.2⟩;have:=h.1;split at this;·rename_i d' hd;rw[hd];simpa using this
 ·cases this
def xk:cq->Bool
 |.mv _ _|.pick _ _ _ _|.un _ _ _|.bin _ _ _ _|.beq _ _ _ _|.mG _ _ _ _ _|.rP _ _ _|.conv _ _ _|.text _ _|.load _ _ _ _|.dF _ _|.oT _ _ _|.nU _ _ _ _ _|.fe _ _ _ _|.dn _ _ _|.qw _ _ _ _ _ _
 |.ext _ _ _|.gd _ _ _ _|.mq _ _ _ _ _|.nu _ _ _|.len _ _|.r9 _ _|.mn _ _|.mx _ _|.ni _ _ _ _ _=>true
 |_=>false
def rT:cq->Bool
 |.aT _ _ _|.box _ _ _|.new _ _|.make _ _ _ _ _|.bytes _ _|.lit _ _ _ _|.build _ _ _ _=>true
 |.call _ _ as=>jm as
 |.kf _ _ as=>jm as
 |x=>xk x
def Db(P:Program)(nt:Nat)(o:Oper):cq->Bool
 |.mv d x=>dy nt o d && (match o.op with|.move x'=>aO x' x|.assign x'=>aO x' x|_=>false)
 |.pick d c a b=>dy nt o d && (match o.op with|.pick c' a' b'=>aO c' c && aO a' a && aO b' b|_=>false)
 |.un d op x=>dy nt o d && (match o.op with|.unOp op' _ x'=>decide (op'=op) && aO x' x|_=>false)
 |.bin d op x y=>dy nt o d && (match o.op with|.binOp op' _ x' y' _=>decide (op'=op) && aO x' x && aO y' y|_=>false)
 |.beq d neg x y=>dy nt o d && (match o.op with|.binOp op' ty x' y' _=>decide (op'=bif neg then .neq else .eql) && Kj P ty && aO x' x && aO y' y|_=>false)
 |.rP d neg x=>dy nt o d && (match o.op with|.binOp op' ty x' (.const (.slice none 0 0)) _=>decide (op'=bif neg then .neq else .eql) && (lB P ty).isSome && aO x' x|_=>false)
 |.mG d neg ks x y=>dy nt o d && (match o.op with|.binOp op' ty x' y' _=>decide (op'=bif neg then .neq else .eql) && Jj P ty ks && aO x' x && aO y' y|_=>false)
 |.conv d k x=>dy nt o d && (match o.op with|.convert src dst x'=>(P.underlying src).isSome && isInt P dst k && aO x' x|_=>false)
 |.text d x=>dy nt o d && (match o.op with|.convert src dst x'=>(match lB P src with|some el=>isInt P el .u8 && isStr P dst && aO x' x|none=>false)|_=>false)
 |.load d sz agg x=>dy nt o d && (match o.op with|.load ty x'=>kS P ty sz && tL P ty agg && (agg||decide (sz=1)) && aO x' x|_=>false)
 |.ni d fz sz agg x=>dy nt o d && (match o.op with|.load ty x'=>kS P ty sz && tL P ty agg && (agg||decide (sz=1)) && aO x' x|_=>false)
 |.dF d x=>dy nt o d && (match o.op with|.nilCheck x'=>aO x' x|_=>false)
 |.oT d x off=>dy nt o d && (match o.op with|.fieldAddr ty x' fi=>(match P.underlying ty with|some (.struct fs)=>(match fs[fi]? with|some f=>decide (f.offset=off) && !kS P f.type 0 && (P.info? f.type).isSome && aO x' x|none=>false)|_=>false)|_=>false)
 |.nU d x off sz agg=>dy nt o d && (match o.op with|.field ty x' fi=>(match P.underlying ty with|some (.struct fs)=>(match fs[fi]? with|some f=>decide (f.offset=off) && kS P f.type sz && tL P f.type agg && (agg||decide (sz=1)) && aO x' x|none=>false)|_=>false)|_=>false)
 |.fe d sz x y=>dy nt o d && (match o.op with|.indexAddr ty x' y'=>(match lB P ty with|some el=>kS P el sz && decide (0<sz) && aO x' x && aO y' y|none=>false)|_=>false)
 |.dn d x y=>dy nt o d && (match o.op with|.index ty x' y'=>isStr P ty && aO x' x && aO y' y|_=>false)
 |.qw d n sz agg x y=>dy nt o d && (match o.op with|.index ty x' y'=>(match P.underlying ty with|some (.array n' el)=>decide (n'=n) && kS P el sz && tL P el agg && (agg||decide (sz=1)) && aO x' x && aO y' y|_=>false)|_=>false)
 |.ext d x i=>dy nt o d && (match o.op with|.extract x' i'=>i'==i && aO x' x|_=>false)
 |.gd d x lo hi=>dy nt o d && (match o.op with|.slice ty x' lo' hi' none=>isStr P ty && aO x' x && mK lo' lo && mK hi' hi|_=>false)
 |.mq d sz x lo hi=>dy nt o d && (match o.op with|.slice ty x' lo' hi' none=>(match lB P ty with|some el=>kS P el sz && aO x' x && mK lo' lo && mK hi' hi|none=>false)|_=>false)
 |.nu d f cs=>dy nt o d && (match o.op with|.makeFunc (.func f') fs cs'=>f'==f && fs.toList.isEmpty && lN cs'.toList cs|_=>false)
 |.len d x=>dy nt o d && (match o.op with|.call ⟨.builtin .len,as,ts⟩=>(match as.toList,ts.toList with|[x'],[ty]=>(lB P ty).isSome && aO x' x|_,_=>false)|_=>false)
 |.r9 d x=>dy nt o d && (match o.op with|.call ⟨.builtin .len,as,ts⟩=>(match as.toList,ts.toList with|[x'],[ty]=>isStr P ty && aO x' x|_,_=>false)|_=>false)
 |.mn d [x,y]=>dy nt o d && (match o.op with|.call ⟨.builtin .min,as,_⟩=>(match as.toList with|[x',y']=>aO x' x && aO y' y|_=>false)|_=>false)
 |.mx d [x,y]=>dy nt o d && (match o.op with|.call ⟨.builtin .max,as,_⟩=>(match as.toList with|[x',y']=>aO x' x && aO y' y|_=>false)|_=>false)
 |_=>false
section
variable {P:Program}{c:Ctx}{G:Nat->C}{zl:Nat->Nat->Prop}{s:ah}{a:Act}{w:World}{o:Oper}{K:ah->Prop}
def P9(op:BinOp)(ty:TypeId)(p q:Operand)(a b:Option Addr)(l m n k:Nat):eqGuard op ty p q (.slice a l m) (.slice b n k)=pure ():=by unfold eqGuard;cases op<;>rfl
def ag6{sz len:Nat}{e:Nat->Nat->C}(h:mo (dH sz len e)=true):0<len/\0<sz:=by
 unfold dH at h;cases len with
 |zero=>cases h
 |succ len=>
  cases sz with
  |zero=>rw[CA] at h;cases h
  |succ sz=>exact⟨Nat.succ_pos _,Nat.succ_pos _⟩
def agB(h:St c G zl s a w){d:Nat}{neg:Bool}{ty ty':TypeId}{e:TypeId}{x:AV}{x':Operand}(ho:o.op=.binOp (bif neg then .neq else .eql) ty x' (.const (.slice none 0 0)) ty')(ht:P.underlying ty=some (.slice e))(hd:o.dst=some d)(hn:d<c.nt)(hx:aO x' x=true)
  (hK:aR P (.rP d neg x) s K):dJ P c o a w K:=by
 obtain⟨p,p1,p2,p3⟩:=ck h hx;simp only[aR] at hK;split at hK
 ·rename_i m z xs h1;rw[<-p1] at h1;obtain⟨A,len,cap,f,rfl,hxs⟩:=yQ h1;have hb:mo xs=true->(A.map λq=>(⟨q.1,q.2.1,q.2.2⟩:Addr)).isNone=false:=λhc=>by rw[hxs] at hc;obtain⟨h1,h2⟩:=ag6 hc;obtain⟨g,o',hA,_⟩:=p3.ok.2.1 0 0 h1 h2;rw[hA];rfl
  have Qc:=hK _ hb;obtain⟨nb,hnb⟩:∃nb,(A.map λq=>(⟨q.1,q.2.1,q.2.2⟩:Addr)).isNone=nb:=⟨_,rfl⟩;rw[hnb] at Qc;have hc:a.eval (.const (.slice none 0 0))=.slice none 0 0:=rfl;refine dP h hd hn (x:=.bool (xor neg nb)) trivial (λ_ _ _ _ _ _ e=>(by cases e)) trivial (λw' _=>?_) Qc;cases neg;·simp only[execOp,ho,hc,<-p2,C.val,P9,Sem.run_bind,Sem.run_pure,Result.andThen_ok,qk,Lib.run_eql_slice_nil w' ty e _ _ _ _ _ ht,Bool.false_bne,hnb]
  ·simp only[execOp,ho,hc,<-p2,C.val,P9,Sem.run_bind,Sem.run_pure,Result.andThen_ok,lG,run_neq_slice_nil w' ty e _ _ _ ht,Bool.true_bne,hnb]
 ·exact hK.elim
def FU{b:Bool}{n m:Nat}(h:(b||decide (n=m))=true):b=true\/n=m:=by simpa using h
def xO{α:Type}{xs:Array α}{x:α}(h:xs.toList=[x]):xs= #[x]:=oG h
def GX{α:Type}{xs:Array α}{x y:α}(h:xs.toList=[x,y]):xs= #[x,y]:=oG h
def IP(h:St c G zl s a w){x:cq}(hc:Db P c.nt o x=true)(hK:aR P x s K):dJ P c o a w K:=by
 unfold Db at hc;split at hc
 ·simp only[aA] at hc;obtain⟨hd,hn⟩:=dK hc.1;have hc:=hc.2;split at hc;·rename_i ho;exact RQ h (.inl ho) hd hn hc hK
  ·rename_i ho;exact RQ h (.inr ho) hd hn hc hK
  ·cases hc
 ·simp only[aA] at hc;obtain⟨hd,hn⟩:=dK hc.1;have hc:=hc.2;split at hc;·rename_i ho;simp only[aA] at hc;exact agC h ho hd hn hc.1.1 hc.1.2 hc.2 hK
  ·cases hc
 ·simp only[aA] at hc;obtain⟨hd,hn⟩:=dK hc.1;have hc:=hc.2;split at hc;·rename_i ho;simp only[aA,bz] at hc;obtain⟨rfl,hx⟩:=hc;exact agJ h ho hd hn hx hK
  ·cases hc
 ·simp only[aA] at hc;obtain⟨hd,hn⟩:=dK hc.1;have hc:=hc.2;split at hc;·rename_i ho;simp only[aA,bz] at hc;obtain⟨⟨rfl,hx⟩,hy⟩:=hc;exact agd h ho hd hn hx hy hK
  ·cases hc
 ·simp only[aA] at hc;obtain⟨hd,hn⟩:=dK hc.1;have hc:=hc.2;split at hc;·rename_i ho;simp only[aA,bz] at hc;obtain⟨⟨⟨rfl,ht⟩,hx⟩,hy⟩:=hc;exact agc h ho (aez ht) hd hn hx hy hK
  ·cases hc
 ·simp only[aA] at hc;obtain⟨hd,hn⟩:=dK hc.1;have hc:=hc.2;split at hc;·rename_i ho;simp only[aA,bz] at hc;obtain⟨⟨rfl,ht⟩,hx⟩:=hc;obtain⟨el,ht⟩:=x8.1 ht;exact agB h ho (nF ht) hd hn hx hK
  ·cases hc
 ·simp only[aA] at hc;obtain⟨hd,hn⟩:=dK hc.1;have hc:=hc.2;split at hc;·rename_i ho;simp only[aA,bz] at hc;obtain⟨⟨⟨rfl,ht⟩,hx⟩,hy⟩:=hc;exact af8 h ho ht hd hn hx hy hK
  ·cases hc
 ·simp only[aA] at hc;obtain⟨hd,hn⟩:=dK hc.1;have hc:=hc.2;split at hc;·rename_i ho;simp only[aA] at hc;obtain⟨⟨hs,ht⟩,hx⟩:=hc;obtain⟨sd,hs⟩:=x8.1 hs;exact ago h ho hs (Kk ht) hd hn hx hK
  ·cases hc
 ·simp only[aA] at hc;obtain⟨hd,hn⟩:=dK hc.1;have hc:=hc.2;split at hc
  ·rename_i ho;split at hc;·rename_i el hel;simp only[aA] at hc;exact agI h ho (nF hel) (Kk hc.1.1) (Ae hc.1.2) hd hn hc.2 hK
   ·cases hc
  ·cases hc
 ·simp only[aA] at hc;obtain⟨hd,hn⟩:=dK hc.1;have hc:=hc.2;split at hc;·rename_i ho;simp only[aA] at hc;exact RP h ho (qY hc.1.1.1) (Ac hc.1.1.2) (FU hc.1.2) hd hn hc.2 hK
  ·cases hc
 ·simp only[aA] at hc;obtain⟨hd,hn⟩:=dK hc.1;have hc:=hc.2;split at hc;·rename_i ho;simp only[aA] at hc;exact agv h ho (qY hc.1.1.1) (Ac hc.1.1.2) (FU hc.1.2) hd hn hc.2 hK
  ·cases hc
 ·simp only[aA] at hc;obtain⟨hd,hn⟩:=dK hc.1;have hc:=hc.2;split at hc;·rename_i ho;exact agm h ho hd hn hc hK
  ·cases hc
 ·simp only[aA] at hc;obtain⟨hd,hn⟩:=dK hc.1;have hc:=hc.2;split at hc
  ·rename_i ho;split at hc
   ·rename_i fs hfs;split at hc;·rename_i f hf;simp only[aA,bz,yb] at hc;obtain⟨⟨⟨h1,h2⟩,h3⟩,h4⟩:=hc;obtain⟨i,hi⟩:=x8.1 h3;refine agq h ho hfs hf h1 ⟨i,hi,λh0=>?_⟩ hd hn h4 hK;simp[kS,hi,h0] at h2
    ·cases hc
   ·cases hc
  ·cases hc
 ·simp only[aA] at hc;obtain⟨hd,hn⟩:=dK hc.1;have hc:=hc.2;split at hc
  ·rename_i ho;split at hc
   ·rename_i fs hfs;split at hc;·rename_i f hf;simp only[aA,bz] at hc;obtain⟨⟨⟨⟨h1,h2⟩,h3⟩,h4⟩,h5⟩:=hc;exact agr h ho hfs hf h1 (qY h2) (Ac h3) (FU h4) hd hn h5 hK
    ·cases hc
   ·cases hc
  ·cases hc
 ·simp only[aA] at hc;obtain⟨hd,hn⟩:=dK hc.1;have hc:=hc.2;split at hc
  ·rename_i ho;split at hc;·rename_i el hel;simp only[aA,bz] at hc;obtain⟨⟨⟨h1,h2⟩,h3⟩,h4⟩:=hc;exact ags h ho (nF hel) (qY h1) h2 hd hn h3 h4 hK
   ·cases hc
  ·cases hc
 ·simp only[aA] at hc;obtain⟨hd,hn⟩:=dK hc.1;have hc:=hc.2;split at hc;·rename_i ho;simp only[aA] at hc;exact agE h ho (Ae hc.1.1) hd hn hc.1.2 hc.2 hK
  ·cases hc
 ·simp only[aA] at hc;obtain⟨hd,hn⟩:=dK hc.1;have hc:=hc.2;split at hc
  ·rename_i ho;split at hc;·rename_i n' el hel;simp only[aA,bz] at hc;obtain⟨⟨⟨⟨⟨rfl,h2⟩,h3⟩,h4⟩,h5⟩,h6⟩:=hc;exact af9 h ho hel (qY h2) (Ac h3) (FU h4) hd hn h5 h6 hK
   ·cases hc
  ·cases hc
 ·simp only[aA] at hc;obtain⟨hd,hn⟩:=dK hc.1;have hc:=hc.2;split at hc;·rename_i ho;simp only[aA,ew] at hc;obtain⟨rfl,hx⟩:=hc;exact agp h ho hd hn hx hK
  ·cases hc
 ·simp only[aA] at hc;obtain⟨hd,hn⟩:=dK hc.1;have hc:=hc.2;split at hc;·rename_i ho;simp only[aA] at hc;obtain⟨⟨⟨h1,h2⟩,h3⟩,h4⟩:=hc;exact agG h ho (Ae h1) hd hn h2 h3 h4 hK
  ·cases hc
 ·simp only[aA] at hc;obtain⟨hd,hn⟩:=dK hc.1;have hc:=hc.2;split at hc
  ·rename_i ho;split at hc;·rename_i el hel;simp only[aA] at hc;obtain⟨⟨⟨h1,h2⟩,h3⟩,h4⟩:=hc;exact agD h ho (nF hel) (qY h1) hd hn h2 h3 h4 hK
   ·cases hc
  ·cases hc
 ·simp only[aA] at hc;obtain⟨hd,hn⟩:=dK hc.1;have hc:=hc.2;split at hc;·rename_i fs cs' ho;simp only[aA,ew] at hc;obtain⟨⟨rfl,h2⟩,h3⟩:=hc;have hfs:fs= #[]:=oG (List.isEmpty_iff.1 h2);subst hfs;exact agx h ho hd hn h3 hK
  ·cases hc
 ·simp only[aA] at hc;obtain⟨hd,hn⟩:=dK hc.1;have hc:=hc.2;split at hc
  ·rename_i as ts ho;split at hc;·rename_i x' ty has hts;simp only[aA] at hc;obtain⟨el,hel⟩:=x8.1 hc.1;rw[xO has,xO hts] at ho;exact agt h ho (nF hel) hd hn hc.2 hK
   ·cases hc
  ·cases hc
 ·simp only[aA] at hc;obtain⟨hd,hn⟩:=dK hc.1;have hc:=hc.2;split at hc
  ·rename_i as ts ho;split at hc;·rename_i x' ty has hts;simp only[aA] at hc;rw[xO has,xO hts] at ho;exact agF h ho (Ae hc.1) hd hn hc.2 hK
   ·cases hc
  ·cases hc
 ·simp only[aA] at hc;obtain⟨hd,hn⟩:=dK hc.1;have hc:=hc.2;split at hc
  ·rename_i as ts ho;split at hc;·rename_i x' y' has;simp only[aA] at hc;rw[GX has] at ho;exact agy h ho hd hn hc.1 hc.2 hK
   ·cases hc
  ·cases hc
 ·simp only[aA] at hc;obtain⟨hd,hn⟩:=dK hc.1;have hc:=hc.2;split at hc
  ·rename_i as ts ho;split at hc;·rename_i x' y' has;simp only[aA] at hc;rw[GX has] at ho;exact agz h ho hd hn hc.1 hc.2 hK
   ·cases hc
  ·cases hc
 ·cases hc
end
end M
namespace M
open Go Go.RowKit
variable [Bs]
def Step(P:Program)(c:Ctx)(o:Oper)(a:Act)(w:World)(K:ah->Prop)(q:Bool):Prop:=
 (∃v w',((execOp a.eval o).run P w=.ok (.value v) w'\/((execOp a.eval o).run P w=.ok .skip w'/\v=undef))/\Rel q w w'/\∃G' aH s',K s'/\St c G' aH s' (a.put o.dst v) w')\/qt P c o a w K q
section
variable {P:Program}{c:Ctx}{G:Nat->C}{zl:Nat->Nat->Prop}{s:ah}{a:Act}{w:World}{o:Oper}{K:ah->Prop}
def Good.step(h:Good P c o a w K):Step P c o a w K false:=by obtain⟨v,w',hr,h⟩:=h;exact .inl ⟨v,w',hr,λhq=>by (cases hq),h⟩
def jN.step(h:jN P c o a w K)(q:Bool):Step P c o a w K q:=by obtain⟨v,w',hr,hE,h⟩:=h;exact .inl ⟨v,w',.inl hr,λ_=>hE,h⟩
def Step.wp{q:Bool}(h:Step P c o a w K q)(Q:Exit->Act->World->Prop):o.wp P a w (λa' w'=>Rel q w w'/\∃G' aH s',K s'/\St c G' aH s' a' w') Q:=by
 unfold Oper.wp;rcases h with ⟨v,w',hr,hq,h⟩|⟨f,args,hr,hc⟩
 ·rcases hr with hr|⟨hr,rfl⟩;·rw[hr];exact⟨hq,h⟩
  ·rw[hr];exact⟨hq,h⟩
 ·rw[hr];refine Calls.mono hc λe w' he=>?_;obtain⟨v,rfl,hq,h⟩:=he;exact⟨hq,h⟩
def Nr(P:Program)(t:TypeId)(sz bytes:Nat)(z:List X):Bool:=match P.info? t with
 |some i=>decide (i.size=sz) && decide (i.bytes=bytes) && (match i.zero with|some v=>mL v.cells.toList z|none=>false)
 |none=>false
def alT{t:TypeId}{sz bytes:Nat}{z:List X}(h:Nr P t sz bytes z=true):∃i v,P.info? t=some i/\i.size=sz/\i.bytes=bytes/\i.zero=some v/\mL v.cells.toList z=true:=by
 unfold Nr at h;split at h
 ·rename_i i hi;simp only[aA,bz] at h;obtain⟨⟨h1,h2⟩,h3⟩:=h;split at h3;·rename_i v hv;exact⟨i,v,hi,h1,h2,hv,h3⟩
  ·cases h3
 ·cases h
def Nv(P:Program)(t:TypeId)(sz bytes:Nat):Bool:=match P.info? t with
 |some i=>decide (i.size=sz) && decide (i.bytes=bytes) && (match i.zero with|some v=>decide (v.cells.size=sz)|none=>false)
 |none=>false
def alW{t:TypeId}{sz bytes:Nat}(h:Nv P t sz bytes=true):∃i v,P.info? t=some i/\i.size=sz/\i.bytes=bytes/\i.zero=some v/\v.cells.size=sz:=by
 unfold Nv at h;split at h
 ·rename_i i hi;simp only[aA,bz] at h;obtain⟨⟨h1,h2⟩,h3⟩:=h;split at h3;·rename_i v hv;exact⟨i,v,hi,h1,h2,hv,ya h3⟩
  ·cases h3
 ·cases h
def Nt(P:Program)(t:TypeId)(sz:Nat):Bool:=match P.info? t with
 |some i=>decide (i.size=sz) && (match i.zero with|some v=>decide (v.cells.size=sz)|none=>false)
 |none=>false
def alV{t:TypeId}{sz:Nat}(h:Nt P t sz=true):∃i v,P.info? t=some i/\i.size=sz/\i.zero=some v/\v.cells.size=sz:=by
 unfold Nt at h;split at h
 ·rename_i i hi;simp only[aA,bz] at h;obtain⟨h1,h3⟩:=h;split at h3;·rename_i v hv;exact⟨i,v,hi,h1,hv,ya h3⟩
  ·cases h3
 ·cases h
def CN(P:Program)(t:TypeId)(z:List X):Bool:=match P.info? t with
 |some i=>(match i.zero with|some v=>mL v.cells.toList z|none=>false)
 |none=>false
def Nu{t:TypeId}{z:List X}(h:CN P t z=true):∃i v,P.info? t=some i/\i.zero=some v/\mL v.cells.toList z=true:=by
 unfold CN at h;split at h
 ·rename_i i hi;split at h;·rename_i v hv;exact⟨i,v,hi,hv,h⟩
  ·cases h
 ·cases h
def placesOf(P:Program)(t:TypeId):Option (List (Nat×Nat)):=match P.underlying t with
 |some (.struct fs)=>fs.toList.mapM λf=>(P.info? f.type).map λi=>(f.offset,i.size)
 |some (.array n e)=>(P.info? e).map λi=>(List.range n).map λk=>(k*i.size,i.size)
 |_=>none
def Pr{p q:Nat->Option (Nat×Nat)}(h:∀i r,p i=some r->q i=some r):∀(parts:List (Nat×Value)) (cells r:Array Value),Instr.fill p cells parts=some r->Instr.fill q cells parts=some r
 |[],cells,r,hf=>hf
 |(i,v)::rest,cells,r,hf=>by
  unfold Instr.fill at hf⊢;cases hp:p i with
  |none=>rw[hp] at hf;cases hf
  |some pr=>
   rw[hp] at hf;rw[h i pr hp];obtain⟨off,size⟩:=pr;simp only at hf⊢;split at hf;·cases hf
   ·rename_i hc;rw[aD hc];exact Pr h rest _ r hf
def agN{t:TypeId}{places:List (Nat×Nat)}(hp:placesOf P t=some places){i:TypeInfo}(hi:P.info? t=some i){v:Value}(hz:i.zero=some v):∀parts cells,Instr.fill (λi=>places[i]?) v.cells parts=some cells->P.built t parts=some cells:=by
 intro parts cells hf;unfold placesOf at hp;unfold Program.built;rw[hi];split at hp;·rename_i fs hfs;rw[hfs];simp only[hz,hp];simpa using hf
 ·rename_i n e he;rw[he];cases hie:P.info? e with
  |none=>rw[hie] at hp;cases hp
  |some ie=>
   rw[hie] at hp;simp only[cj,dO] at hp;simp only[hz,hie];refine Pr (λk r hk=>?_) _ _ _ hf;rw[<-hp,C.cV] at hk;split at hk;·exact hk
   ·cases hk
 ·cases hp
def yN(nt:Nat)(o:Oper)(d:Option Nat):Bool:=match o.dst,d with
 |some d',some d=>d'==d && decide (d<nt)
 |none,none=>true
 |_,_=>false
def I8{nt:Nat}{d:Option Nat}(h:yN nt o d=true):o.dst=d/\∀n,o.dst=some n->n<nt:=by
 unfold yN at h;split at h;·rename_i d' d hd;simp only[aA,ew,bz] at h;rw[hd,h.1];exact⟨rfl,λn hn=>by injection hn with hn;rw[<-hn];exact h.2⟩
 ·rename_i hd;rw[hd];exact⟨rfl,λn hn=>by cases hn⟩
 ·cases h
def IQ(P:Program)(nt:Nat)(o:Oper):cq->Bool
 |.aT d h x=>dy nt o d && (match o.op with|.assign x'=>aO x' x|_=>false)
 |.box d h x=>dy nt o d && (match o.op with|.box _ x'=>aO x' x|_=>false)
 |.new d z=>dy nt o d && (match o.op with|.alloc ty=>CN P ty z|_=>false)
 |.make d sz bytes z n=>dy nt o d && (match o.op with|.makeSlice ty n1 n2=>(match lB P ty with|some el=>Nr P el sz bytes z && decide (0<bytes) && decide (0<sz) && decide (z.length=sz) && aO n1 n && aO n2 n|none=>false)|_=>false)
 |.bytes d x=>dy nt o d && (match o.op with|.convert src dst x'=>(match lB P dst with|some el=>isInt P el .u8 && isStr P src && aO x' x|none=>false)|_=>false)
 |.lit d h sz ps=>dy nt o d && (match o.op with|.buildSlice ty n ps'=>(match lB P ty with|some el=>Nt P el sz && decide (0<sz) && decide (ps'.toList.length=n) && decide (n*sz<=16777216) && yI 0 ps'.toList ps|none=>false)|_=>false)
 |.build d h z ps=>dy nt o d && (match o.op with|.build ty ps'=>(match placesOf P ty with|some places=>CN P ty z && sU places z.length ps'.toList ps|none=>false)|_=>false)
 |.store sz h y x=>(match o.dst with|none=>true|some _=>false) && (match o.op with|.store ty y' x'=>kS P ty sz && decide (0<sz) && aO x' x && aO y' y|_=>false)
 |.app d h sz bytes x y=>dy nt o d && (match o.op with|.call ⟨.builtin .append,as,ts⟩=>(match as.toList,ts.toList with|[x',y'],[ty,ty']=>(match lB P ty,lB P ty' with|some el,some _=>Nv P el sz bytes && decide (0<bytes) && decide (0<sz) && aO x' x && aO y' y|_,_=>false)|_,_=>false)|_=>false)
 |.call d f as=>yN nt o d && (match o.op with|.call ⟨.value (.func f'),as',_⟩=>f'==f && ak P f && gJ as'.toList as|_=>false)
 |.kf d x as=>yN nt o d && (match o.op with|.call ⟨.value x',as',_⟩=>aO x' x && gJ as'.toList as|_=>false)
 |.vz sz z x=>(match o.dst with|none=>true|some _=>false) && (match o.op with|.call ⟨.builtin .clear,as,ts⟩=>(match as.toList,ts.toList with|[x'],[ty]=>(match lB P ty with|some el=>CN P el z && decide (z.length=sz) && decide (0<sz) && aO x' x|_=>false)|_,_=>false)|_=>false)
 |.qC d f x as=>yN nt o d && (match o.op with|.call ⟨.value (.func f'),as',_⟩=>f'==f && ak P f && (match as'.toList with|x'::l'=>aO x' x && gJ l' as && jm as|[]=>false)|_=>false)
 |_=>false
def YV(h:St c G zl s a w){x:cq}(hc:IQ P c.nt o x=true)(hK:aR P x s K):Step P c o a w K (rT x):=by
 unfold IQ at hc;split at hc
 ·simp only[aA] at hc;obtain⟨hd,hn⟩:=dK hc.1;have hc:=hc.2;split at hc;·rename_i ho;exact(agb h ho hd hn hc hK).step _
  ·cases hc
 ·simp only[aA] at hc;obtain⟨hd,hn⟩:=dK hc.1;have hc:=hc.2;split at hc;·rename_i ho;exact(agf h ho hd hn hc hK).step _
  ·cases hc
 ·simp only[aA] at hc;obtain⟨hd,hn⟩:=dK hc.1;have hc:=hc.2;split at hc;·rename_i ho;obtain⟨i,v,h1,h2,h3⟩:=Nu hc;exact(agA h ho h1 h2 h3 hd hn hK).step _
  ·cases hc
 ·simp only[aA] at hc;obtain⟨hd,hn⟩:=dK hc.1;have hc:=hc.2;split at hc
  ·rename_i ho;split at hc;·rename_i el hel;simp only[aA,bz] at hc;obtain⟨⟨⟨⟨⟨h1,h2⟩,h3⟩,h4⟩,h5⟩,h6⟩:=hc;obtain⟨i,v,i1,i2,i3,i4,i5⟩:=alT h1;exact(agw h ho (nF hel) i1 i4 i2 i3 h2 h3 h4 i5 hd hn h5 h6 hK).step _
   ·cases hc
  ·cases hc
 ·simp only[aA] at hc;obtain⟨hd,hn⟩:=dK hc.1;have hc:=hc.2;split at hc
  ·rename_i ho;split at hc;·rename_i el hel;simp only[aA] at hc;exact(agi h ho (Ae hc.1.2) (nF hel) (Kk hc.1.1) hd hn hc.2 hK).step _
   ·cases hc
  ·cases hc
 ·simp only[aA] at hc;obtain⟨hd,hn⟩:=dK hc.1;have hc:=hc.2;split at hc
  ·rename_i ho;split at hc;·rename_i el hel;simp only[aA,bz] at hc;obtain⟨⟨⟨⟨h1,h2⟩,h3⟩,h4⟩,h5⟩:=hc;obtain⟨i,v,i1,i2,i3,i4⟩:=alV h1;exact(agu h ho (nF hel) i1 i3 i2 h2 i4 h3 h4 hd hn h5 hK).step _
   ·cases hc
  ·cases hc
 ·simp only[aA] at hc;obtain⟨hd,hn⟩:=dK hc.1;have hc:=hc.2;split at hc
  ·rename_i ho;split at hc;·rename_i places hp;simp only[aA] at hc;obtain⟨i,v,i1,i2,i3⟩:=Nu hc.1;exact(agh (i:=i) h ho (agN hp i1 i2) i3 hd hn hc.2 hK).step _
   ·cases hc
  ·cases hc
 ·simp only[aA] at hc;obtain⟨hd,hc⟩:=hc
  have hd:o.dst=none:=by
   split at hd;·assumption
   ·cases hd
  split at hc;·rename_i ho;simp only[aA,bz] at hc;obtain⟨⟨⟨h1,h2⟩,h3⟩,h4⟩:=hc;exact(agH h ho (qY h1) h2 hd h3 h4 hK).step
  ·cases hc
 ·simp only[aA] at hc;obtain⟨hd,hn⟩:=dK hc.1;have hc:=hc.2;split at hc
  ·rename_i as ts ho;split at hc
   ·rename_i x' y' ty ty' has hts;split at hc;·rename_i el Dm hel adS;simp only[aA,bz] at hc;obtain⟨⟨⟨⟨h1,h2⟩,h3⟩,h4⟩,h5⟩:=hc;obtain⟨i,v,i1,i2,i3,i4,i5⟩:=alW h1;rw[GX has,GX hts] at ho;exact(aga h ho (nF hel) (nF adS) i1 i4 i2 i3 h2 h3 i5 hd hn h4 h5 hK).step
    ·cases hc
   ·cases hc
  ·cases hc
 ·simp only[aA] at hc;obtain⟨hd,hc⟩:=hc;obtain⟨hd,hn⟩:=I8 hd;subst hd;split at hc;·rename_i f' as' ts ho;simp only[aA,ew] at hc;obtain⟨⟨rfl,h2⟩,h3⟩:=hc;obtain⟨fn,f1,f2,f3⟩:=Jk h2;exact .inr (agj h ho f1 f2 f3 hn h3 hK)
  ·cases hc
 ·simp only[aA] at hc;obtain⟨hd,hc⟩:=hc;obtain⟨hd,hn⟩:=I8 hd;subst hd;split at hc;·rename_i x' as' ts ho;simp only[aA] at hc;exact .inr (agl h ho hc.1 hn hc.2 hK)
  ·cases hc
 ·simp only[aA] at hc;obtain⟨hd,hc⟩:=hc
  have hd:o.dst=none:=by
   split at hd;·assumption
   ·cases hd
  split at hc
  ·rename_i as ts ho;split at hc
   ·rename_i x' ty has hts;split at hc;·rename_i el hel;simp only[aA,bz] at hc;obtain⟨⟨⟨h1,h2⟩,h3⟩,h4⟩:=hc;obtain⟨i,v,i1,i2,i3⟩:=Nu h1;rw[xO has,xO hts] at ho;exact(agn h ho (nF hel) i1 i2 i3 h2 h3 hd h4 hK).step
    ·cases hc
   ·cases hc
  ·cases hc
 ·simp only[aA] at hc;obtain⟨hd,hc⟩:=hc;obtain⟨hd,hn⟩:=I8 hd;subst hd;split at hc
  ·rename_i f' as' ts ho;simp only[aA,ew] at hc;obtain⟨⟨rfl,h2⟩,h3⟩:=hc;obtain⟨fn,f1,f2,f3⟩:=Jk h2;split at h3;·rename_i x' l' hl;simp only[aA] at h3;exact .inr (agk h ho hl f1 f2 f3 hn h3.1.1 h3.1.2 h3.2 hK)
   ·cases h3
  ·cases hc
 ·cases hc
def yH(P:Program)(nt:Nat)(o:Oper)(x:cq):Bool:=bif xk x then Db P nt o x else IQ P nt o x
def OK(h:St c G zl s a w){x:cq}(hc:yH P c.nt o x=true)(hK:aR P x s K):Step P c o a w K (rT x):=by
 unfold yH at hc;cases hr:xk x with
 |true=>rw[hr] at hc;exact(IP h hc hK).quiet.step _
 |false=>rw[hr] at hc;exact YV h hc hK
end
end M
namespace M
open Go Go.RowKit
variable [Bs]
section
variable {P:Program}{c:Ctx}{G:Nat->C}{zl:Nat->Nat->Prop}{s s':ah}{a:Act}{w:World}{K:ah->Prop}{ops:Array Oper}
def St.congr(h:St c G zl s a w)(he:∀t,get s t=get s' t):St c G zl s' a w:=
 {h with inv:={h.inv with er:=λt=>(h.inv.er t).trans (he t)}}
def oS(P:Program)(nt:Nat)(ops:Array Oper)(i:Nat)(g:M.G):Bool:=match ops[i]? with
 |some o=>(match o.guard,g.g with
  |none,none=>true
  |some (j,b),some (t,b')=>b==b' && decide (t<base) && (match ops[j]? with|some oj=>decide (oj.dst=some t)|none=>false)
  |_,_=>false) && decide (o.dst=g.o.dst) && (match g.o.dst with|some d=>decide (d<nt)|none=>true) && yH P nt o g.o
 |none=>false
def uW(c:Ctx)(K:ah->Prop)(a:Act)(w:World):Prop:=∃G zl s,K s/\St c G zl s a w
def TQ(h:St c G zl s a w){t j:Nat}{v:Bool}(hv:get s t=.bool v)(ht:t<base){oj:Oper}(hj:ops[j]?=some oj)(hd:oj.dst=some t):yielded ops a.tmps j=some v:=by
 have hG:=h.inv.er t;rw[hv] at hG;have hc:=qP hG;have:=h.val t ht;rw[hc,C.val] at this;unfold yielded;simp only[hj,gj,hd];rw[uO] at this;cases ht:a.tmps[t]? with
 |none=>rw[ht] at this;simp[undef] at this
 |some u=>rw[ht] at this;simp only[uL] at this;rw[<-this]
def St.G5(h:St c G zl s a w)(d:Option Nat)(hn:∀n,d=some n->n<c.nt):∃G',St c G' zl (fO d (.au []) s) (a.put d undef) w:=by
 cases d with
 |none=>exact⟨G,h⟩
 |some n=>exact h.put (x:=.au 0 λ_=>.dead undef) (hn n rfl) ⟨λj hj=>(by omega),λj hj=>(by omega)⟩ (λ_ _ b k ⟨j,hj,_⟩=>(by omega)) (λb k ⟨j,hj,_⟩=>(by omega)) (λj hj=>(by omega)) (λb k ⟨j,hj,_⟩=>(by omega))
def DJ{t:Nat}{v:Bool}(hv:get s t=.bool v):∀u,get s u=get ((t,.bool v)::s) u:=λu=>by
 rw[vF];split;·rename_i e;subst e;exact hv
 ·rfl
def TR(h:St c G zl s a w){t j:Nat}(hv:get s t=.au [])(ht:t<base){oj:Oper}(hj:ops[j]?=some oj)(hd:oj.dst=some t):yielded ops a.tmps j=none:=by
 have hG:=h.inv.er t;rw[hv] at hG;have hval:=h.val t ht
 have:(G t).val=.tuple #[]:=by
  cases hc:G t with
  |au n f=>rw[hc] at hG;simp only[C.er,X.au.injEq,List.map_eq_nil_iff,List.range_eq_nil] at hG;subst hG;rfl
  |_=>rw[hc] at hG;simp[C.er] at hG
 rw[this] at hval;unfold yielded;simp only[hj,gj,hd];rw[uO] at hval;cases ht:a.tmps[t]? with
 |none=>rfl
 |some u=>rw[ht] at hval;simp only[uL] at hval;rw[<-hval]
def OI{i:Nat}{g:M.G}(h:St c G zl s a w)(hc:oS P c.nt ops i g=true)(hK:oP P g s K)(Q:Exit->Act->World->Prop):
  wpOp P ops Q i (λa' w'=>Rel (rT g.o) w w'/\uW c K a' w') a w:=by
 unfold oS at hc;split at hc
 ·rename_i o ho;simp only[aA,bz] at hc;obtain⟨⟨⟨hg,hd⟩,hn⟩,hop⟩:=hc;unfold wpOp;simp only[ho];obtain⟨gg,go⟩:=g;split at hg
  ·rename_i h1 h2;subst h2;have hw:Region.wanted o (yielded ops a.tmps)=true:=by simp[Region.wanted,h1]
   rw[ay hw];exact .inl ((OK h hop hK).wp Q)
  ·rename_i j b t b' h1 h2;subst h2;simp only[aA,ew,bz] at hg;obtain⟨⟨rfl,ht⟩,hj⟩:=hg;split at hj
   ·rename_i oj gx;have hj:=ya hj;simp only[oP] at hK;split at hK
    ·rename_i v hv;have hy:=TQ h hv ht gx hj;obtain⟨k1,k2⟩:=hK;have q9:Region.wanted o (yielded ops a.tmps)=(v==b):=by simp only[Region.wanted,h1,hy];cases v<;>cases b<;>rfl
     rw[q9];by_cases kX:v=b;·subst kX;rw[ay (by simp)];exact .inl ((OK (h.congr (DJ hv)) hop (k1 rfl)).wp Q)
     ·have hnb:v= !b:=by cases v<;>cases b<;>first|rfl|exact absurd rfl kX
      rw[aD (by simpa using kX)];subst hnb;obtain⟨G',h'⟩:=(h.congr (DJ hv)).G5 o.dst (λn jh=>by rw[hd] at jh;simp only[jh] at hn;simpa using hn)
      rw[hd] at h'⊢;exact⟨Rel.refl _ _,G',zl,_,k2 rfl,h'⟩
    ·rename_i hv;have hy:=TR h hv ht gx hj;have q9:Region.wanted o (yielded ops a.tmps)=false:=by simp only[Region.wanted,h1,hy];rfl
     rw[q9,aD (by simp)];obtain⟨G',h'⟩:=h.G5 o.dst (λn jh=>by rw[hd] at jh;simp only[jh] at hn;simpa using hn)
     rw[hd] at h'⊢;exact⟨Rel.refl _ _,G',zl,_,hK,h'⟩
    ·exact hK.elim
   ·cases hj
  ·cases hg
 ·cases hc
def YU{i:Nat}{g:M.G}(h:St c G zl s a w)(hc:oS P c.nt ops i g=true)(hr:xk g.o=true)(hK:oP P g s K):
  ∃o v,ops[i]?=some o/\nP P ops o v a w/\uW c K (a.put o.dst v) w:=by
 unfold oS at hc;split at hc
 ·rename_i o ho;simp only[aA,bz] at hc;obtain⟨⟨⟨hg,hd⟩,hn⟩,hop⟩:=hc;obtain⟨gg,go⟩:=g;unfold yH at hop;simp only at hr hop;rw[hr] at hop;simp only[lG] at hop;refine⟨o,?_⟩;split at hg
  ·rename_i h1 h2;subst h2;have hw:Region.wanted o (yielded ops a.tmps)=true:=by simp[Region.wanted,h1]
   obtain⟨v,hv,G',aH,s',k1,k2⟩:=IP h hop hK;exact⟨v,ho,.inl ⟨hw,hv⟩,G',aH,s',k1,k2⟩
  ·rename_i j b t b' h1 h2;subst h2;simp only[aA,ew,bz] at hg;obtain⟨⟨rfl,ht⟩,hj⟩:=hg;split at hj
   ·rename_i oj gx;have hj:=ya hj;simp only[oP] at hK;split at hK
    ·rename_i v hv;have hy:=TQ h hv ht gx hj;obtain⟨k1,k2⟩:=hK;have q9:Region.wanted o (yielded ops a.tmps)=(v==b):=by simp only[Region.wanted,h1,hy];cases v<;>cases b<;>rfl
     by_cases kX:v=b;·subst kX;obtain⟨u,hu,G',aH,s',k3,k4⟩:=IP (h.congr (DJ hv)) hop (k1 rfl);exact⟨u,ho,.inl ⟨by rw[q9];simp,hu⟩,G',aH,s',k3,k4⟩
     ·have hnb:v= !b:=by cases v<;>cases b<;>first|rfl|exact absurd rfl kX
      subst hnb;obtain⟨G',h'⟩:=(h.congr (DJ hv)).G5 o.dst (λn jh=>by rw[hd] at jh;simp only[jh] at hn;simpa using hn)
      refine⟨undef,ho,.inr ⟨by rw[q9];simp,rfl⟩,G',zl,_,k2 rfl,?_⟩;rw[hd] at h'⊢;exact h'
    ·rename_i hv;have hy:=TR h hv ht gx hj;have q9:Region.wanted o (yielded ops a.tmps)=false:=by simp only[Region.wanted,h1,hy];rfl
     obtain⟨G',h'⟩:=h.G5 o.dst (λn jh=>by rw[hd] at jh;simp only[jh] at hn;simpa using hn)
     refine⟨undef,ho,.inr ⟨q9,rfl⟩,G',zl,_,hK,?_⟩;rw[hd] at h'⊢;exact h'
    ·exact hK.elim
   ·cases hj
  ·cases hg
 ·cases hc
def jM(c:Ctx)(Q:Ex->ah->Prop):Exit->Act->World->Prop
 |.normal,a,w=>uW c (Q .normal) a w
 |.exit id,a,w=>uW c (Q (.exit id)) a w
 |.ret,a,w=>uW c (Q .ret) a w
 |_,_,_=>False
def qH(P:Program)(nt:Nat)(ops:Array Oper):Nat->List M.G->Bool
 |k,[]=>decide (k=ops.size)
 |k,g::l=>oS P nt ops k g && qH P nt ops (k+1) l
def RS{Q:Ex->ah->Prop}:∀(l:List M.G) (k:Nat) {G:Nat->C} {zl:Nat->Nat->Prop} {s:ah} {a:Act} {w:World},qH P c.nt ops k l=true->St c G zl s a w->j9 P l s Q->wpOps P ops (jM c Q) (List.range' k l.length) a w
 |[],k,G,zl,s,a,w,hc,h,hK=>⟨G,zl,s,hK,h⟩
 |g::l,k,G,zl,s,a,w,hc,h,hK=>by simp only[qH,aA] at hc;rw[cR,List.range'_succ,wpOps_cons];refine wpOp_mono (λa' w' ⟨_,G',aH,s',k1,k2⟩=>?_) (OI h hc.1 hK (jM c Q));exact RS l (k+1) hc.2 k2 k1
def OJ:∀(l:List M.G) (k:Nat),qH P c.nt ops k l=true->k+l.length=ops.size
 |[],k,h=>by simpa [qH] using h
 |g::l,k,h=>by simp only[qH,aA] at h;have:=OJ l (k+1) h.2;simp only[cR];omega
def ag0{Q:Ex->ah->Prop}{l:List M.G}{id:Nat}(hc:qH P c.nt ops 0 l=true)(h:St c G zl s a w)(hK:j9 P l s Q):(Code.region id ops false).wp P (jM c Q) a w:=by refine wp_region ?_;have hl:=OJ l 0 hc;rw[List.range_eq_range',<-hl,nM];exact RS l 0 hc h hK
def PV(Ku:List Nat)(s:ah)(t:Nat):∀ks:List Nat,get (ks.map λk=>(k,(get s k).only Ku)) t=if ks.contains t then (get s t).only Ku else .dead
 |[]=>rfl
 |k::ks=>by
  simp only[bD,get];by_cases h:k=t;·subst h;simp
  ·have h1:(k==t)=false:=by simpa using h
   have h2:(k::ks).contains t=ks.contains t:=by
    simp only[List.contains_cons];have:(t==k)=false:=by simpa using λe=>h e.symm
    rw[this,Bool.false_or]
   rw[h1,h2,qk];exact PV Ku s t ks
def St.keep(h:St c G zl s a w)(ks:List Nat):∃G',St c G' zl (M.keep ks s) a w:=by
 let G':Nat->C:=λt=>if ks.contains t then (G t).az (C.others ks) else .dead (G t).val
 have hin:∀t,ks.contains t=true->G' t=(G t).az (C.others ks):=λt ht=>ay ht;have hout:∀t,ks.contains t=false->G' t=.dead (G t).val:=λt ht=>aD (by rw[ht];simp)
 have hv:∀t,(G' t).val=(G t).val:=λt=>by
  cases ht:ks.contains t with
  |true=>rw[hin t ht,C.jk]
  |false=>rw[hout t ht];rfl
 have cr:∀t b k,(G' t).fp b k->(G t).fp b k:=λt b k hf=>by
  cases ht:ks.contains t with
  |true=>rw[hin t ht,C.cJ] at hf;exact hf
  |false=>rw[hout t ht] at hf;exact hf.elim
 refine⟨G',h.move ⟨λt=>?_,λt=>?_,λt u hne b k hf hf'=>h.inv.sep t u hne b k (cr t b k hf) (cr u b k hf'),λt b k hf=>h.inv.fz t b k (cr t b k hf),λt=>?_,h.inv.cE⟩ hv (Ext.refl (λ_ _=>False) w) (λ_ _ hs=>hs.elim) (λt b k hf=>.inl ⟨t,cr t b k hf⟩)⟩
 ·unfold M.keep;rw[PV];cases ht:ks.contains t with
  |true=>rw[hin t ht,C.Bf,h.inv.er];rfl
  |false=>rw[hout t ht];rfl
 ·cases ht:ks.contains t with
  |true=>rw[hin t ht];exact C.mg _ _ (h.inv.ok t)
  |false=>rw[hout t ht];trivial
 ·cases ht:ks.contains t with
  |true=>
   rw[hin t ht];refine C.lu (C.others ks) (λs' q y hk hs=>?_) _ (C.gA _ _) (C.ny _ _ (h.inv.rf t));have hs':ks.contains s'=true:=by simpa [C.others] using hk
   rw[hin s' hs'];rcases C.self y _ q hs with ⟨z,hz,hs2⟩|hno;·exact .inl ⟨_,hz.off _,C.jj _ q _ _ (h.inv.ok s') hs2⟩
   ·exact .inr hno
  |false=>rw[hout t ht];trivial
def Dr:cq->Bool
 |.oT _ _ _=>true
 |_=>false
def ZC{ev:Operand->Value}{o:Oper}{ty:TypeId}{fi:Nat}{x':Operand}{fs:Array Field}{f:Field}{i:TypeInfo}(ho:o.op=.fieldAddr ty x' fi)(hu:P.underlying ty=some (.struct fs))(hf:fs[fi]?=some f)(hi:P.info? f.type=some i)(hi0:i.size≠0){v:Value}{w:World}(h:(execOp ev o).run P w=.ok (.value v) w)(w':World):(execOp ev o).run P w'=.ok (.value v) w':=by
 cases hv:ev x' with
 |pointer p=>
  cases p with
  |none=>simp[execOp,ho,hv,Instr.fieldAt,Instr.sureAddr,run_underlying hu,hf] at h
  |some a=>simp[execOp,ho,hv,Instr.fieldAt,Instr.sureAddr,run_underlying hu,hf,fieldPlace,Go.sizeOf,typeInfo,hi,hi0] at h⊢;exact h
 |_=>simp[execOp,ho,hv,Instr.fieldAt,Instr.sureAddr,run_underlying hu,hf] at h
def YT{i:Nat}{g:M.G}(hc:oS P c.nt ops i g=true)(he:Dr g.o=true){o:Oper}{v:Value}(ho:ops[i]?=some o)(hl:nP P ops o v a w):qp P ops o v a:=by
 rcases hl with ⟨h1,h2⟩|h
 ·refine .inl ⟨h1,?_⟩;have h3:=h2 w (Ext.refl _ _);unfold oS at hc;rw[ho] at hc;simp only[aA] at hc;obtain⟨_,hop⟩:=hc;obtain⟨gg,go⟩:=g;cases go<;>simp only[Dr] at he<;>try (cases he)
  unfold yH at hop;simp only[xk,lG] at hop;unfold Db at hop;simp only[aA] at hop;have hc:=hop.2;split at hc
  ·rename_i hfo;split at hc
   ·rename_i fs hfs;split at hc;·rename_i f hf;simp only[aA,bz,yb] at hc;obtain⟨⟨⟨h5,h6⟩,h7⟩,h8⟩:=hc;obtain⟨i,hi⟩:=x8.1 h7;exact λw'=>ZC hfo hfs hf hi (λh0=>by simp[kS,hi,h0] at h6) h3 w'
    ·cases hc
   ·cases hc
  ·cases hc
 ·exact .inr h
def DT.kn:DT->List Nat
 |.nil _=>[]
 |.step i _ _=>[i]
 |.alt a b=>a.kn++b.kn
 |.kp _ t=>t.kn
def DT.quiet:DT->Nat->Bool
 |.nil _,_=>true
 |.step i g t,j=>(if i=j then rT g.o else true) && t.quiet j
 |.alt a b,j=>a.quiet j && b.quiet j
 |.kp _ t,j=>t.quiet j
def Jo(ops:Array Oper)(q:Nat->Bool)(t:Nat->Nat->Bool)(listed:Array Bool)(e:Bool)(i:Nat):Bool:=match ops[i]? with
 | some oi => (List.range ops.size).all λj => j == i || listed.getD j true || t j i || ((e || q j) && (match ops[j]? with
  |some oj=>oi.apart ops oj
  |none=>true))
 |none=>false
def gw(P:Program)(nt:Nat)(ops:Array Oper)(q:Nat->Bool)(bf:Nat->Nat->Bool):DT->Nat->Array Bool->Bool->Bool
 |.nil _,_,listed,alt=> !alt && decide (Region.ready .any ops listed=[])
 |.step i g t,fuel,listed,alt=>(match fuel with
  |0=>false
  |fuel+1=>oS P nt ops i g && (!q i||rT g.o) && (alt||decide (Region.ready .any ops listed=[i])||(xk g.o && (Region.ready .any ops listed).contains i && Jo ops q bf listed (Dr g.o) i)) && gw P nt ops q bf t fuel (listed.setIfInBounds i true) false)
 |.alt a b,fuel,listed,alt=>(alt||decide (Region.ready .any ops listed=a.kn++b.kn)) && gw P nt ops q bf a fuel listed true && gw P nt ops q bf b fuel listed true
 |.kp _ t,fuel,listed,alt=>gw P nt ops q bf t fuel listed alt
def PO{q:Nat->Bool}{t:Nat->Nat->Bool}{listed:Array Bool}{i:Nat}{oi:Oper}{e:Bool}(hi:ops[i]?=some oi)(h:Jo ops q t listed e i=true)(j:Nat)(oj:Oper)(hj:ops[j]?=some oj)(hne:j≠i)(hun:listed.getD j true=false)(hno:t j i=false):oi.apart ops oj=true/\(e=true\/q j=true):=by simp only[Jo,hi,oK,sw] at h;have h1:=h j (j7.1 hj).1;simp only[hj,uN,ew,hne,false_or,hun,fL,hno,aA] at h1;exact⟨h1.2,h1.1⟩
def uB{q:Nat->Bool}{bf:Nat->Nat->Bool}(kA:vw ops bf=true)(hns:Region.noSelect ops=true){Q:Ex->ah->Prop}:∀(t:DT) (fuel:Nat) (listed:Array Bool) {G:Nat->C} {zl:Nat->Nat->Prop} {s:ah} {a:Act} {w:World},Down ops listed->St c G zl s a w->ia P t s Q->
  (gw P c.nt ops q bf t fuel listed false=true->wpAnyQ P ops q (jM c Q) fuel listed a w)/\
  ((∀i∈t.kn,i∈Region.ready .any ops listed)->gw P c.nt ops q bf t fuel listed true=true->∃f,fuel=f+1/\∀i∈t.kn,wpOp P ops (jM c Q) i (λa' w'=>Rel (q i) w w'/\wpAnyQ P ops q (jM c Q) f (listed.setIfInBounds i true) a' w') a w)
 |.nil ks,fuel,listed,G,zl,s,a,w,hdn,h,hK=>by
  obtain⟨G',h'⟩:=h.keep ks;constructor
  ·intro hc;simp only[gw,M6,M7,bz] at hc;cases fuel with
   |zero=>exact⟨hc,G',zl,_,hK,h'⟩
   |succ f=>exact⟨λ_=>⟨G',zl,_,hK,h'⟩,by rw[hc];intro i hi;cases hi⟩
  ·intro _ hc;simp[gw] at hc
 |.step i g t,fuel,listed,G,zl,s,a,w,hdn,h,hK=>by
  cases fuel with
  |zero=>exact⟨λhc=>by simp[gw] at hc,λ_ hc=>by simp[gw] at hc⟩
  |succ f=>
   have zq:i∈Region.ready .any ops listed->Down ops (listed.setIfInBounds i true):=λhr=>by obtain⟨_,o,ho,hall⟩:=mem_ready.1 hr;exact hdn.set ho hall
   have one:i∈Region.ready .any ops listed->gw P c.nt ops q bf t f (listed.setIfInBounds i true) false=true->oS P c.nt ops i g=true->(q i=true->rT g.o=true)->
     wpOp P ops (jM c Q) i (λa' w'=>Rel (q i) w w'/\wpAnyQ P ops q (jM c Q) f (listed.setIfInBounds i true) a' w') a w:=λvN ht hg hq=>
    wpOp_mono (λa' w' ⟨hr,G',aH,s',k1,k2⟩=>⟨λhqi=>hr (hq hqi),(uB kA hns t f _ (zq vN) k2 k1).1 ht⟩) (OI h hg hK (jM c Q))
   constructor
   ·intro hc;have hc0:=hc;simp only[gw,aA,uN,bz,fL,false_or] at hc;obtain⟨⟨⟨hg,hq⟩,hr⟩,ht⟩:=hc;have nZ:q i=true->rT g.o=true:=λhqi=>by rw[hqi] at hq;simpa using hq
    rcases hr with hr|⟨⟨hr,hrd⟩,JI⟩;·refine⟨λh0=>(by rw[hr] at h0;cases h0),λj hj=>?_⟩;rw[hr,fy] at hj;subst hj;exact one (by rw[hr];exact fy.2 rfl) ht hg nZ
    ·obtain⟨o,v,ho,hl,G',aH,s',k1,k2⟩:=YU h hg hr hK;have vN:i∈Region.ready .any ops listed:=by simpa using hrd
     cases he:Dr g.o with
     |true=>exact alx ho (Region.noSelect_spec hns) (λ_ _ _ hh=>hh.elim) kA f listed a w hdn (λj oj hj hne hun hno=>(PO ho JI j oj hj hne hun hno).1) vN (YT hg he ho hl) ((uB kA hns t f _ (zq vN) k2 k1).1 ht)
     |false=>rw[he] at JI;exact wpAnyQ_first ho (Region.noSelect_spec hns) (λ_ _ _ hh=>hh.elim) kA f listed a w hdn (λj oj hj hne hun hno=>(PO ho JI j oj hj hne hun hno).imp id λh=>h.resolve_left (by simp)) vN hl ((uB kA hns t f _ (zq vN) k2 k1).1 ht)
   ·intro JM hc;have hc0:=hc;simp only[gw,aA,uN,bz,true_or] at hc;obtain⟨⟨⟨hg,hq⟩,_⟩,ht⟩:=hc;have nZ:q i=true->rT g.o=true:=λhqi=>by rw[hqi] at hq;simpa using hq
    refine⟨f,rfl,λj hj=>?_⟩;rw[DT.kn,fy] at hj;subst hj;exact one (JM j (fy.2 rfl)) ht hg nZ
 |.alt t1 t2,fuel,listed,G,zl,s,a,w,hdn,h,hK=>by
  have both:(∀i∈t1.kn++t2.kn,i∈Region.ready .any ops listed)->gw P c.nt ops q bf t1 fuel listed true=true->gw P c.nt ops q bf t2 fuel listed true=true->∃f,fuel=f+1/\∀i∈t1.kn++t2.kn,wpOp P ops (jM c Q) i (λa' w'=>Rel (q i) w w'/\wpAnyQ P ops q (jM c Q) f (listed.setIfInBounds i true) a' w') a w:=λhh h1 h2=>by
   obtain⟨f,hf,i1⟩:=(uB kA hns t1 fuel listed hdn h hK.1).2 (λi hi=>hh i (MO _ hi)) h1;obtain⟨f',hf',i2⟩:=(uB kA hns t2 fuel listed hdn h hK.2).2 (λi hi=>hh i (MP _ hi)) h2;have:f'=f:=by omega
   subst this;exact⟨f',hf,λi hi=>(gG.1 hi).elim (i1 i) (i2 i)⟩
  constructor
  ·intro hc;simp only[gw,aA,uN,bz,fL,false_or] at hc;obtain⟨⟨hr,h1⟩,h2⟩:=hc;obtain⟨f,rfl,hi⟩:=both (λi hi=>by rw[hr];exact hi) h1 h2;refine⟨λh0=>?_,λi hi'=>hi i (by rw[<-hr];exact hi')⟩;exfalso;rw[h0] at hr
   have ne:∀{t:DT},gw P c.nt ops q bf t (f+1) listed true=true->t.kn≠[]:=by
    intro t;induction t with
    |nil=>intro hh;simp[gw] at hh
    |step i g t _=>intro _ hh;cases hh
    |alt a b iL _=>intro hh he;simp only[gw,aA] at hh;rw[DT.kn,T9] at he;exact iL hh.1.2 he.1
    |kp ks t ih=>exact ih
   have:=(T9.1 hr.symm).1;exact ne h1 this
  ·intro JM hc;simp only[gw,aA,uN,bz,true_or,true_and] at hc;exact both JM hc.1 hc.2
 |.kp ks t,fuel,listed,G,zl,s,a,w,hdn,h,hK=>by obtain⟨G',h'⟩:=h.keep ks;exact uB kA hns t fuel listed hdn h' hK
def waits(ops:Array Oper)(j i:Nat):Bool:=((Region.before ops).getD j 0).testBit i
def IM(P:Program)(nt:Nat)(ops:Array Oper)(t:DT):Bool:=P.follows .mixedOrders && Region.noSelect ops && vw ops (waits ops) && gw P nt ops t.quiet (waits ops) t ops.size (Array.replicate ops.size false) false
def Zr{Q:Ex->ah->Prop}{t:DT}{id:Nat}(hc:IM P c.nt ops t=true)(h:St c G zl s a w)(hK:ia P t s Q):(Code.region id ops true).wp P (jM c Q) a w:=by
 simp only[IM,aA] at hc;obtain⟨⟨⟨hm,hns⟩,kA⟩,hc⟩:=hc;refine wp_region_any hm ?_;have hE:Ext (λ_ _=>False) w w.drew:=Ext.drew w _;have h':St c G zl s a w.drew:=h.move (h.inv.world hE λ_ _ hs=>hs.elim) (λ_=>rfl) hE (λ_ _ hs=>hs.elim) (λt b k hf=>.inl ⟨t,hf⟩);have hdn:Down ops (Array.replicate ops.size false):=λk ok _ hl=>by exfalso;simp only[uO,Uf] at hl;split at hl<;>simp at hl
 exact((uB kA hns t ops.size _ hdn h' hK).1 hc).any
end
end M
namespace M
open Go Go.RowKit
variable [Bs]
section
variable {P:Program}{c:Ctx}{G:Nat->C}{zl:Nat->Nat->Prop}{s s':ah}{a:Act}{w:World}
def gK(P:Program)(nt:Nat):A->Code->Bool
 |.skip,.skip=>true
 |.ret,.ret=>true
 |.exit id,.exit id'=>decide (id=id')
 |.ops l,.region _ ops false=>qH P nt ops 0 l
 |.draw t,.region _ ops true=>IM P nt ops t
 |.seq a b,.seq x y=>gK P nt a x && gK P nt b y
 |.cond c a b,.cond c' x y=>aO c' c && gK P nt a x && gK P nt b y
 |.block id b,.block id' x=>decide (id=id') && gK P nt b x
 |.loop b,.loop x=>gK P nt b x
 |.pk _ b,x=>gK P nt b x
 |_,_=>false
def least(p:Nat->Prop):(∃n,p n)->∃m,p m/\∀k,p k->m<=k:=by
 rintro ⟨n,hn⟩;induction n using Nat.strongRecOn with
 |_ n ih=>
  by_cases h:∃k,k<n/\p k;·obtain⟨k,hk,hp⟩:=h;exact ih k hk hp
  ·exact⟨n,hn,λk hk=>by
    rcases iB k n with hlt|hge;·exact(h ⟨k,hlt,hk⟩).elim
    ·exact hge⟩
def YY:∀(t:A) (code:Code) {Q:Ex->ah->Prop} {G:Nat->C} {zl:Nat->Nat->Prop} {s:ah} {a:Act} {w:World},gK P c.nt t code=true->St c G zl s a w->eP P t s Q->code.wp P (jM c Q) a w:=by
 intro t;induction t with
 |skip=>intro code Q G zl s a w hc h hK;unfold gK at hc;cases code<;>simp at hc;exact wp_skip ⟨G,zl,s,hK,h⟩
 |ret=>intro code Q G zl s a w hc h hK;unfold gK at hc;cases code<;>simp at hc;exact wp_ret ⟨G,zl,s,hK,h⟩
 |exit id=>intro code Q G zl s a w hc h hK;unfold gK at hc;cases code<;>simp at hc;subst hc;exact wp_exit ⟨G,zl,s,hK,h⟩
 |ops l=>
  intro code Q G zl s a w hc h hK;unfold gK at hc;cases code with
  |region id os d=>
   cases d with
   |false=>exact ag0 hc h hK
   |true=>simp at hc
  |_=>simp at hc
 |draw t=>
  intro code Q G zl s a w hc h hK;unfold gK at hc;cases code with
  |region id os d=>
   cases d with
   |true=>exact Zr hc h hK
   |false=>simp at hc
  |_=>simp at hc
 |seq x y Kh Ki=>
  intro code Q G zl s a w hc h hK;unfold gK at hc;cases code with
  |seq x' y'=>
   simp only[aA] at hc;refine wp_seq (wp_mono (Kh x' hc.1 h hK) λe a w he=>?_);cases e with
   |normal=>obtain⟨G,zl,s,k,h⟩:=he;exact Ki y' hc.2 h k
   |exit id=>exact he
   |ret=>exact he
   |goto l=>exact he.elim
   |panic ch=>exact he.elim
   |outgrown=>exact he.elim
  |_=>simp at hc
 |cond cc x y Kh Ki=>
  intro code Q G zl s a w hc h hK;unfold gK at hc;cases code with
  |cond c' x' y'=>
   simp only[aA] at hc;obtain⟨⟨h1,h2⟩,h3⟩:=hc;obtain⟨d,e1,e2,e3⟩:=ck h h1;simp only[eP] at hK;split at hK;·rename_i b hb;rw[<-e1] at hb;have:=qP hb;subst this;exact wp_cond_split (by rw[<-e2];rfl) (λht=>Kh x' h2 h (hK.1 ht)) (λhf=>Ki y' h3 h (hK.2 hf))
   ·exact hK.elim
  |_=>simp at hc
 |block id b ih=>
  intro code Q G zl s a w hc h hK;unfold gK at hc;cases code with
  |block id' x=>
   simp only[aA,bz] at hc;obtain⟨rfl,hc⟩:=hc;refine wp_block (wp_mono (ih x hc h hK) λe a w he=>?_);cases e with
   |normal=>exact he
   |exit i=>
    obtain⟨G,zl,s,k,h⟩:=he;simp only at k;show if i=id then jM c Q .normal a w else jM c Q (.exit i) a w
    by_cases hi:i=id;·subst hi;rw[ay rfl];simp only[beq_self_eq_true,lG] at k;exact⟨G,zl,s,k,h⟩
    ·rw[aD hi];have:(i==id)=false:=by simpa using hi
     rw[this] at k;exact⟨G,zl,s,k,h⟩
   |ret=>exact he
   |goto l=>exact he.elim
   |panic ch=>exact he.elim
   |outgrown=>exact he.elim
  |_=>simp at hc
 |loop b ih=>
  intro code Q G zl s a w hc h hK;unfold gK at hc;cases code with
  |loop x=>
   obtain⟨I,⟨n,hn⟩,aei⟩:=hK;let J:Nat->Act->World->Prop:=λn a w=>uW c (I n) a w;have JN:=λa w=>least (λn=>J n a w);let μ:Act->World->Nat:=λa w=>by classical exact if hh:∃n,J n a w then Classical.choose (JN a w hh) else 0
   have hμ:∀a w,(∃n,J n a w)->J (μ a w) a w/\∀k,J k a w->μ a w<=k:=λa w hh=>by have hspec:=CI (JN a w hh);have:μ a w=Classical.choose (JN a w hh):=nN hh;rw[this];exact hspec
   refine wp_loop (λa w=>∃n,J n a w) μ ?_ λa w hI=>?_;·exact⟨n,G,zl,s,hn,h⟩
   ·obtain⟨⟨G1,sE,s1,k1,h1⟩,_⟩:=hμ a w hI;refine wp_mono (ih x hc h1 (aei _ s1 k1)) λe a' w' he=>?_;cases e with
    |normal=>obtain⟨G2,sF,s2,⟨m,hm,hI2⟩,h2⟩:=he;have hJ:J m a' w':=⟨G2,sF,s2,hI2,h2⟩;exact⟨⟨m,hJ⟩,Nat.lt_of_le_of_lt ((hμ a' w' ⟨m,hJ⟩).2 m hJ) hm⟩
    |exit id=>exact he
    |ret=>exact he
    |goto l=>exact he.elim
    |panic ch=>exact he.elim
    |outgrown=>exact he.elim
  |_=>simp at hc
 |pk ks b ih=>
  intro code Q G zl s a w hc h hK;have hc:gK P c.nt b code=true:=by cases b<;>cases code<;>first|exact hc|(rename_i d;cases d<;>exact hc)
  refine wp_mono (ih code hc h hK) λe a w he=>?_;cases e with
  |normal=>obtain⟨G,zl,s,k,h⟩:=he;obtain⟨G',h'⟩:=h.keep ks;exact⟨G',zl,_,k,h'⟩
  |exit id=>exact he
  |ret=>exact he
  |goto l=>exact he.elim
  |panic ch=>exact he.elim
  |outgrown=>exact he.elim
end
end M
namespace M
open Go Go.RowKit
variable [Bs]
def Cb:Nat->List X->ah
 |_,[]=>[]
 |i,x::l=>(i,alias (base+i) [] x)::Cb (i+1) l
def Cd:Nat->List X->ah
 |_,[]=>[]
 |i,x::l=>(base+i,x)::Cd (i+1) l
def mI(xs:List X):ah:=Cb 0 xs++Cd 0 xs
def X.l9:X->Bool
 |.au _=>true
 |_=>false
def post(x:X):X:=bif x.clean then x else .dead
inductive RV where
 |t (n:Nat)
 |c (n sz:Nat) (agg:Bool) (ty:TypeId)
def dS:List RV->ah->List X×ah
 |[],s=>([],s)
 |.t n::l,s=>((take .mv (ax s (.t n)) s).1::(dS l (take .mv (ax s (.t n)) s).2).1,(dS l (take .mv (ax s (.t n)) s).2).2)
 |.c n sz agg _::l,s=>((match get s n with
  |.ptr .own cs=>if cs.length=sz then (bif agg then .agg (X.gQ n [] cs) else (X.gQ n [] cs).headD (.au [])) else .au []
  |_=>.au [])::(dS l (iO n [] .dead s)).1,(dS l (iO n [] .dead s)).2)
def uc:List X->X
 |[x]=>x
 |l=>.au l
def pV:Nat->Nat->ah->List X
 |_,0,_=>[]
 |i,n+1,s=>post (get s (base+i))::pV (i+1) n s
def Ends(rs:List RV)(n:Nat)(Q:X->List X->Prop):Ex->ah->Prop
 |.exit _,_=>False
 |_,s=>X.clean.cC (dS rs s).1=true/\(∀x∈(dS rs s).1,x.l9=false)/\Q (uc (dS rs s).1) (pV 0 n (dS rs s).2)
namespace C
def sW:∀c:C,c.er.clean=true->c.bare
 |.ref _ _ _,h=>by simp[er,X.clean] at h
 |.aC _ _ _ _ _,h=>by simp[er,X.clean] at h
 |.cut _ _ _ _ _,h=>by simp[er,X.clean] at h
 |.ptr m g o n c,h=>λj hj=>sW (c j) (by simp only[er,X.clean,aA] at h;exact jP.1 h.2 _ (bp.2 ⟨j,by simpa using hj,rfl⟩))
 |.agg n c,h=>λj hj=>sW (c j) (by simp only[er,X.clean] at h;exact jP.1 h _ (bp.2 ⟨j,by simpa using hj,rfl⟩))
 |.au n c,h=>λj hj=>sW (c j) (by simp only[er,X.clean] at h;exact jP.1 h _ (bp.2 ⟨j,by simpa using hj,rfl⟩))
 |.fn f n c,h=>λj hj=>sW (c j) (by simp only[er,X.clean] at h;exact jP.1 h _ (bp.2 ⟨j,by simpa using hj,rfl⟩))
 |.dead _,_=>trivial
 |.int _ _,_=>trivial
 |.bool _,_=>trivial
 |.str _,_=>trivial
 |.row _ _ _ _ _ _,_=>trivial
variable {w:World}{zl zb:Nat->Nat->Prop}
def qI:∀c:C,c.er.clean=true->c.ok w (Zf zl zb)->c.ok w (Zf zl λ_ _=>False)
 |.ref _ _ _,h,_=>by simp[er,X.clean] at h
 |.aC _ _ _ _ _,h,_=>by simp[er,X.clean] at h
 |.cut _ _ _ _ _,h,_=>by simp[er,X.clean] at h
 |.row m sz A len cap e,h,ho=>by
  simp only[er,X.clean,aA] at h;obtain⟨h1,h2,h3,h4,h5⟩:=ho;refine⟨h1,λi j hi hj=>?_,λi j hi hj=>?_,h4,h5⟩
  ·obtain⟨g,o,q1,q2,q3⟩:=h2 i j hi hj;refine⟨g,o,q1,q2,λhm=>?_⟩;cases m with
   |own=>exact(hm rfl).elim
   |sl=>exact q3 hm
   |af=>simp at h
  ·obtain⟨a1,a2,a3,a4⟩:=h3 i j hi hj;exact⟨a1,a2,a3,qI (e i j) (OM.1 h.2 _ (bp.2 ⟨i,by simpa using hi,rfl⟩) _ (bp.2 ⟨j,by simpa using hj,rfl⟩)) a4⟩
 |.ptr m g o n c,h,ho=>by
  simp only[er,X.clean,aA] at h;obtain⟨h1,h2,h3,h4⟩:=ho;refine⟨λj hj=>?_,h2,λj hj=>?_,h4⟩
  ·obtain⟨a1,a2,a3⟩:=h1 j hj;refine⟨a1,λhm=>?_,a3⟩;cases m with
   |own=>exact(hm rfl).elim
   |sl=>exact a2 hm
   |af=>simp at h
  ·obtain⟨a1,a2,a3⟩:=h3 j hj;exact⟨a1,a2,qI (c j) (jP.1 h.2 _ (bp.2 ⟨j,by simpa using hj,rfl⟩)) a3⟩
 |.agg n c,h,ho=>by simp only[er,X.clean] at h;exact⟨λj hj=>⟨(ho.1 j hj).1,qI (c j) (jP.1 h _ (bp.2 ⟨j,by simpa using hj,rfl⟩)) (ho.1 j hj).2⟩,ho.2⟩
 |.au n c,h,ho=>by simp only[er,X.clean] at h;exact⟨λj hj=>⟨(ho.1 j hj).1,qI (c j) (jP.1 h _ (bp.2 ⟨j,by simpa using hj,rfl⟩)) (ho.1 j hj).2⟩,ho.2⟩
 |.fn f n c,h,ho=>λj hj=>⟨qI (c j) (by simp only[er,X.clean] at h;exact jP.1 h _ (bp.2 ⟨j,by simpa using hj,rfl⟩)) (ho j hj).1,(ho j hj).2⟩
 |.dead _,_,_=>trivial
 |.int _ _,_,_=>trivial
 |.bool _,_,_=>trivial
 |.str _,_,h=>h
end C
def PY(i:Nat):∀(xs:List X) (r:ah) (t:Nat),get (Cb i xs++r) t=if i<=t/\t<i+xs.length then alias (base+t) [] (xs.getD (t - i) .dead) else get r t
 |[],r,t=>by rw[aD (by simp only[kM];omega)];rfl
 |x::xs,r,t=>by
  simp only[Cb,dw];rw[vF,PY (i+1) xs];by_cases h:t=i;·subst h;rw[ay rfl,ay ⟨e7 _,by simp only[cR];omega⟩,x7];rfl
  ·rw[aD h];by_cases h2:i+1<=t/\t<i+1+xs.length;·rw[ay h2,ay ⟨by omega,by simp only[cR];omega⟩,show t - i=(t - (i+1))+1 by omega];rfl
   ·rw[aD h2,aD (by simp only[cR];omega)]
def PZ(i:Nat):∀(xs:List X) (t:Nat),get (Cd i xs) t=if base+i<=t/\t<base+i+xs.length then xs.getD (t - (base+i)) .dead else .dead
 |[],t=>by rw[aD (by simp only[kM];omega)];rfl
 |x::xs,t=>by
  simp only[Cd];rw[vF,PZ (i+1) xs];by_cases h:t=base+i;·subst h;rw[ay rfl,ay ⟨e7 _,by simp only[cR];omega⟩,x7];rfl
  ·rw[aD h];by_cases h2:base+(i+1)<=t/\t<base+(i+1)+xs.length;·rw[ay h2,ay ⟨by omega,by simp only[cR];omega⟩,show t - (base+i)=(t - (base+(i+1)))+1 by omega];rfl
   ·rw[aD h2,aD (by simp only[cR];omega)]
def ahF{w:World}{zl zb:Nat->Nat->Prop}{cs:List C}(h:qn w zl zb cs)(lX:CQ w zl zb){nt:Nat}(hn:cs.length<=nt)(hnt:nt<=base):
  ∃G,St ⟨w,λb k=>∃x∈cs,x.fp b k,zl,zb,nt,cs.map C.val⟩ G zl (mI (cs.map C.er)) ⟨(cs.map C.val).toArray++Array.replicate (nt - (cs.map C.val).toArray.size) undef,[]⟩ w:=by
 let G:Nat->C:=λt=>if t<cs.length then (cs.getD t (.dead undef)).alias (base+t) [] else if base<=t/\t<base+cs.length then cs.getD (t - base) (.dead undef) else .dead undef
 have g1:∀t,t<cs.length->G t=(cs.getD t (.dead undef)).alias (base+t) []:=λt ht=>ay ht;have g2:∀t,t<cs.length->G (base+t)=cs.getD t (.dead undef):=λt ht=>by show (if _ then _ else _:C)=_;rw[aD (by omega),ay (by omega),Nat.add_sub_cancel_left]
 have g3:∀t,¬t<cs.length->¬(base<=t/\t<base+cs.length)->G t=.dead undef:=λt h1 h2=>by show (if _ then _ else _:C)=_;rw[aD h1,aD h2]
 have hm:∀t,t<cs.length->cs.getD t (.dead undef)∈cs:=λt ht=>cL ht _
 have C8:∀t,(t<cs.length/\t<base)\/(∃u,u<cs.length/\t=base+u)\/(G t=.dead undef/\¬t<cs.length/\¬(base<=t/\t<base+cs.length)):=λt=>by
  by_cases h1:t<cs.length;·exact .inl ⟨h1,by omega⟩
  ·by_cases h2:base<=t/\t<base+cs.length;·exact .inr (.inl ⟨t - base,by omega,by omega⟩)
   ·exact .inr (.inr ⟨g3 t h1 h2,h1,h2⟩)
 have hal:∀t,t<cs.length->(G t).ok w (Zf zl zb)/\(G t).rf G/\∀b k,¬(G t).fp b k:=λt ht=>by rw[g1 t ht];have hx:=hm t ht;exact C.NH (base+t) _ (g2 t ht) (h.ok _ hx) (C.qB G _ (h.bare _ hx))
 have cr:∀t b k,(G t).fp b k->∃u,u<cs.length/\t=base+u/\(cs.getD u (.dead undef)).fp b k:=λt b k hf=>by
  rcases C8 t with ⟨h1,_⟩|⟨u,hu,rfl⟩|⟨h1,_⟩;·exact((hal t h1).2.2 b k hf).elim
  ·rw[g2 u hu] at hf;exact⟨u,hu,rfl,hf⟩
  ·rw[h1] at hf;exact hf.elim
 refine⟨G,⟨⟨λt=>?_,λt=>?_,λt u hne b k hf hf'=>?_,λt b k hf=>?_,λt=>?_,h.cE⟩,λt ht=>?_,?_,hnt,rfl,⟨Ext.refl _ _,λt b k hf=>?_,λ_ _ hz=>hz,λ_ _ hz=>.inl hz,lX,λb k hb ⟨x,hx,hf⟩=>((lX b hb).2 k).elim (h.fz x hx b k hf).1 (h.fz x hx b k hf).2⟩,λi v hi=>?_⟩⟩
 ·have hgd:∀u,(cs.map C.er).getD u .dead=(cs.getD u (.dead undef)).er:=λu=>by rw[kK,kK,cY];cases cs[u]?<;>rfl
  unfold mI;rw[PY,PZ,dx,hgd,hgd];rcases C8 t with ⟨h1,h2⟩|⟨u,hu,rfl⟩|⟨h1,h2,h3⟩;·rw[ay ⟨by omega,by omega⟩,g1 t h1,C.NI,Nat.sub_zero]
  ·rw[aD (by omega),ay ⟨by omega,by omega⟩,g2 u hu,show base+u - (base+0)=u by omega]
  ·rw[aD (by omega),aD (by omega),h1];rfl
 ·rcases C8 t with ⟨h1,_⟩|⟨u,hu,rfl⟩|⟨h1,_⟩;·exact(hal t h1).1
  ·rw[g2 u hu];exact h.ok _ (hm u hu)
  ·rw[h1];trivial
 ·obtain⟨x,hx,e1,h1⟩:=cr t b k hf;obtain⟨y,hy,e2,h2⟩:=cr u b k hf';exact xj h.apart _ hx hy (λe=>hne (by rw[e1,e2,e])) h1 h2
 ·obtain⟨x,hx,e1,h1⟩:=cr t b k hf;exact h.fz _ (hm x hx) b k h1
 ·rcases C8 t with ⟨h1,_⟩|⟨u,hu,rfl⟩|⟨h1,_⟩;·exact(hal t h1).2.1
  ·rw[g2 u hu];exact C.qB G _ (h.bare _ (hm u hu))
  ·rw[h1];trivial
 ·rw[uO,Array.getElem?_append];simp only[qh,dx];by_cases h1:t<cs.length;·rw[ay h1,g1 t h1,C.NJ,yj,cY,cw h1,oV (cw h1)];rfl
  ·rw[aD h1,g3 t h1 (by omega),Uf];split<;>rfl
 ·simp only[MW,qh,dx,Array.size_replicate];omega
 ·obtain⟨x,hx,e1,h1⟩:=cr t b k hf;exact .inl ⟨_,hm x hx,h1⟩
 ·simp only[cY] at hi;cases hc:cs[i]? with
  |none=>rw[hc] at hi;cases hi
  |some x=>
   rw[hc] at hi;injection hi with hi
   have hlt:=(aF.1 hc).1;rw[g2 i hlt,oV hc,hi]
end M
namespace M
open Go Go.RowKit
variable [Bs]
def sV(P:Program):List ResultVar->List RV->Bool
 |[],[]=>true
 |.tmp t::l,.t t'::l'=>t==t' && decide (t<base) && sV P l l'
 |.cell a ty::l,.c n sz agg ty'::l'=>a==n && decide (n<base) && ty==ty' && kS P ty sz && tL P ty agg && (agg||decide (sz=1)) && sV P l l'
 |_,_=>false
section
variable {P:Program}{w:World}
def afE(x:C)(h:x.er.l9=false):x.fY:=by cases x<;>first|trivial|(simp[C.er,X.l9] at h)
def K8:List Value->Value
 |[v]=>v
 |l=>.tuple l.toArray
def Bm(tmps:Array Value):ResultVar->Sem Value
 |.tmp t=>pure (tmps.getD t undef)
 |.cell a t=>do loadVar t (<-asAddr (tmps.getD a undef))
def ahj{fn:Func}{vs:List Value}(tmps:Array Value)(h:(fn.results.toList.mapM (Bm tmps)).run P w=.ok vs w):(results fn tmps).run P w=.ok (K8 vs) w:=by
 unfold results;rw[Array.mapM_eq_mapM_toList];rw[Sem.run_bind,Sem.run_map];erw [h];simp only[Result.andThen_ok,Sem.run_pure];match vs with
 |[]=>rfl
 |[v]=>rfl
 |u::v::l=>simp[K8]
def Mg{c:Ctx}{zl:Nat->Nat->Prop}{a:Act}:∀{l':List ResultVar} {l:List RV},sV P l' l=true->∀{G:Nat->C} {s:ah},St c G zl s a w->(∀x∈(dS l s).1,x.l9=false)->
  ∃cs G',cs.map C.er=(dS l s).1/\(l'.mapM (Bm a.tmps)).run P w=.ok (cs.map C.val) w/\bJ w zl c.zb G cs G' (dS l s).2
 |[],[],_,G,s,h,_=>⟨[],G,rfl,by simp,bJ.nil h.inv⟩
 |.tmp t::l',.t t'::l,hc,G,s,h,hk=>by
  simp only[sV,aA,ew,bz] at hc;obtain⟨⟨rfl,ht⟩,hc⟩:=hc;obtain⟨p,p1,p2,p3⟩:=ck h (o:=.tmp t) (x:=.t t) (by simp[aO,ht]);obtain⟨y,G1,f1,f2,f3,f4⟩:=qd .mv h.inv p3;rw[p1] at f1 f4;obtain⟨cs,G',g1,g2,g3⟩:=Mg hc (h.xP f4) λx hx=>hk x (b8 _ hx);refine⟨y::cs,G',by simp[dS,f1,g1],?_,bJ.cons f4 g3⟩;have hv:a.tmps.getD t undef=y.val:=by rw[f2,p2];rfl
  simp only[List.mapM_cons,Bm,Sem.run_bind,Sem.run_pure,Result.andThen_ok,g2,hv,bD]
 |.cell ad ty::l',.c n sz agg ty'::l,hc,G,s,h,hk=>by
  simp only[sV,aA,ew,bz] at hc;obtain⟨⟨⟨⟨⟨⟨rfl,ht⟩,rfl⟩,hsz⟩,mQ⟩,h1⟩,hc⟩:=hc
  have hk0:(match get s ad with
   |.ptr .own cs=>if cs.length=sz then (bif agg then .agg (X.gQ ad [] cs) else (X.gQ ad [] cs).headD (.au [])) else .au []
   |_=>.au []:X).l9=false:=hk _ (bF ..)
  split at hk0
  ·rename_i cs0 hg;split at hk0
   ·rename_i hlen;obtain⟨D,G1,t1,t2,t3,t4,t5,t6,t7,t8,t9,t10,t11,t12⟩:=h.inv.uA ad [] (G ad) rfl;rw[h.inv.er,hg] at t1;simp only[X.kill] at t1;obtain⟨g,o,m,f,rfl,hcs⟩:=Ja t1;have hm:m=sz:=by have:=dr List.length hcs;rw[X.Kt] at this;simpa [hlen] using this.symm
    subst hm;obtain⟨q1,q2,q3,q4⟩:=t4;have hin:∀j,j<m->∀b k,(f j).fp b k->(C.ptr .own g o m f).fp b k:=λj hj b k hf=>C.kB (q3 j hj).1 (q3 j hj).2.1 hj hf;have Jy:a.tmps.getD ad undef=.pointer (some ⟨g,o,none⟩):=by rw[<-h.val ad ht,<-t2];rfl
    obtain⟨ii,hi,kq⟩:=qY hsz;obtain⟨dd,zc,hda⟩:=Ac mQ;have tq:(isAgg ty).run P w=.ok agg w:=by subst hda;simp only[isAgg,Sem.run_bind,run_underlying zc,Result.andThen_ok];cases dd<;>rfl
    have hsize:(Go.sizeOf ty).run P w=.ok m w:=by simp[Go.sizeOf,typeInfo,hi,kq]
    have hl:(loadCells ⟨g,o,none⟩ m).run P w=.ok ((List.range m).map λj=>(f j).val).toArray w:=run_loadCells w _ m _ (λj hj=>by rw[qu];exact(q1 j hj).1)
    have fin:∀y:C,(∀b k,y.fp b k->(C.ptr .own g o m f).fp b k)->y.ok w (Zf zl c.zb)->y.rf G1->y.er=(if cs0.length=m then (bif agg then .agg (X.gQ ad [] cs0) else (X.gQ ad [] cs0).headD (.au [])) else .au [])->(loadVar ty ⟨g,o,none⟩).run P w=.ok y.val w->
      ∃cs G',cs.map C.er=(dS (.c ad m agg ty::l) s).1/\((ResultVar.cell ad ty::l').mapM (Bm a.tmps)).run P w=.ok (cs.map C.val) w/\bJ w zl c.zb G cs G' (dS (.c ad m agg ty::l) s).2:=λy MN yok yrf yer alR=>by
     have jx:fC w zl c.zb G y G1 (iO ad [] .dead s):=⟨t3,yok,yrf,λt b k hf=>t8 t b k (MN b k hf),λb k hf=>h.inv.fz ad b k (t9 b k (MN b k hf)),t10,λb k hf=>⟨ad,t9 b k (MN b k hf)⟩,t11⟩;obtain⟨cs,G',g1,g2,g3⟩:=Mg hc (h.xP jx) λx hx=>hk x (b8 _ hx);refine⟨y::cs,G',?_,?_,bJ.cons jx g3⟩;·simp only[bD,dS,hg,yer,g1]
     ·simp only[List.mapM_cons,Bm,Jy,asAddr,Sem.run_bind,Sem.run_pure,Result.andThen_ok,alR,g2,bD]
    cases agg with
    |true=>
     refine fin (.agg m f) (λb k ⟨j,hj,hf⟩=>hin j hj b k hf) ⟨λj hj=>⟨(q3 j hj).1,(q3 j hj).2.2⟩,λj hj b k hf=>(q4 j hj b k hf).2⟩ t5 ?_ ?_;·rw[ay hlen,lG,hcs];rfl
     ·simp only[loadVar,Sem.run_bind,tq,Result.andThen_ok,cG,hsize,hl,Sem.run_pure];rfl
    |false=>
     have hs1:m=1:=by simpa using h1
     subst hs1;refine fin (f 0) (λb k hf=>hin 0 (by omega) b k hf) (q3 0 (by omega)).2.2 (t5 0 (by omega)) ?_ ?_;·rw[ay hlen,qk,hcs];rfl
     ·have:=(q1 0 (by omega)).1;simp only[loadVar,Sem.run_bind,tq,Result.andThen_ok,fL,cT,run_load];simp only[nK] at this;rw[this]
   ·simp[X.l9] at hk0
  ·simp[X.l9] at hk0
 |[],_::_,hc,_,_,_,_=>by cases hc
 |.tmp _::_,[],hc,_,_,_,_=>by cases hc
 |.cell _ _::_,[],hc,_,_,_,_=>by cases hc
 |.tmp _::_,.c _ _ _ _::_,hc,_,_,_,_=>by cases hc
 |.cell _ _::_,.t _::_,hc,_,_,_,_=>by cases hc
def agQ{c:Ctx}{G:Nat->C}{zl:Nat->Nat->Prop}{s:ah}(h:Inv w zl c.zb G s)(t:Nat):∃p:C,p.er=post (get s t)/\p.val=(G t).val/\p.ok w (Zf zl λ_ _=>False)/\p.bare/\∀b k,p.fp b k->(G t).fp b k:=by
 unfold post;cases hc:(get s t).clean with
 |true=>rw[<-h.er] at hc;exact⟨G t,h.er t,rfl,C.qI _ hc (h.ok t),C.sW _ hc,λ_ _ hf=>hf⟩
 |false=>exact⟨.dead (G t).val,rfl,rfl,trivial,trivial,λ_ _ hf=>hf.elim⟩
def R5{c:Ctx}{G:Nat->C}{zl:Nat->Nat->Prop}{s:ah}(h:Inv w zl c.zb G s):∀(n i:Nat),∃ps:List C,ps.map C.er=pV i n s/\ps.map C.val=(List.range' i n).map (λj=>(G (base+j)).val)/\(∀p∈ps,p.ok w (Zf zl λ_ _=>False)/\p.bare/\∃t,i<=t/\∀b k,p.fp b k->(G (base+t)).fp b k)/\ps.Pairwise λa b=>∀x k,a.fp x k->¬b.fp x k
 |0,i=>⟨[],rfl,rfl,λ_ hx=>(by cases hx),List.Pairwise.nil⟩
 |n+1,i=>by
  obtain⟨p,p1,p2,p3,p4,p5⟩:=agQ h (base+i);obtain⟨ps,q1,q2,q3,q4⟩:=R5 h n (i+1);refine⟨p::ps,by simp[pV,p1,q1],by simp[List.range'_succ,p2,q2],λx hx=>?_,fA.2 ⟨λx hx b k hf hf'=>?_,q4⟩⟩
  ·rcases bZ.1 hx with rfl|hx;·exact⟨p3,p4,i,e7 _,p5⟩
   ·obtain⟨a1,a2,t,ht,a3⟩:=q3 x hx;exact⟨a1,a2,t,by omega,a3⟩
  ·obtain⟨_,_,t,ht,a3⟩:=q3 x hx;exact h.sep (base+i) (base+t) (by omega) b k (p5 b k hf) (a3 b k hf')
structure Told (P:Program) (f:FuncId) (t:A) (rs:List RV) (n:Nat):Prop where
 told:∃fn code,P.funcs[f]?=some fn/\fn.body=some code/\gK P fn.ntmps t code=true/\sV P fn.results.toList rs=true/\fn.ntmps<=base/\n<=fn.ntmps
def Told.ac{f:FuncId}{t:A}{rs:List RV}{n:Nat}(hT:Told P f t rs n){xs:List X}(hn:xs.length=n){Q:X->List X->Prop}(h:eP P t (mI xs) (Ends rs n Q)):AC P f xs Q:=by
 intro w zl zb cs hxs hA lX;obtain⟨fn,code,hf,hb,hc,hr,hnt,jh⟩:=hT.told;have hcl:cs.length=n:=by rw[<-hn,<-hxs];simp
 obtain⟨G,hst⟩:=ahF hA lX (nt:=fn.ntmps) (by omega) hnt;rw[hxs] at hst;refine calls_of_wp hf hb (wp_mono (YY t code hc hst h) λe a w' he=>?_)
 have fin:∀{G:Nat->C} {aH:Nat->Nat->Prop} {s:ah},St ⟨w,λb k=>∃x∈cs,x.fp b k,zl,zb,fn.ntmps,cs.map C.val⟩ G aH s a w'->(X.clean.cC (dS rs s).1=true/\(∀x∈(dS rs s).1,x.l9=false)/\Q (uc (dS rs s).1) (pV 0 n (dS rs s).2))->
   a.defers=[]/\∃v,(results fn a.tmps).run P w'=.ok v w'/\∃r ps aH,Nx w zl cs (.returned v) w' r ps aH/\Q r.er (ps.map C.er):=by
  intro G aH s h ⟨k1,k2,k3⟩;obtain⟨nC,G1,g1,g2,jx⟩:=Mg hr h k2;refine⟨h.defers,_,ahj a.tmps g2,?_⟩;rw[<-g1] at k1 k2 k3;obtain⟨ps,p1,p2,p3,p4⟩:=R5 (c:=⟨w,λb k=>∃x∈cs,x.fp b k,zl,zb,fn.ntmps,cs.map C.val⟩) jx.inv n 0;have hrc:∀x∈nC,x.er.clean=true:=λx hx=>jP.1 k1 _ (fK hx)
  obtain⟨r,r1,r2,r3,r4,r5⟩:∃r:C,r.er=uc (nC.map C.er)/\r.val=K8 (nC.map C.val)/\r.ok w' (Zf aH λ_ _=>False)/\r.bare/\∀b k,r.fp b k->∃x∈nC,x.fp b k:=by
   by_cases h1:nC.length=1;·obtain⟨x,rfl⟩:=List.length_eq_one_iff.1 h1;refine⟨x,rfl,rfl,C.qI x (hrc x (fy.2 rfl)) (jx.all x (fy.2 rfl)).1,C.sW x (hrc x (fy.2 rfl)),λb k hf=>⟨x,fy.2 rfl,hf⟩⟩
   ·refine⟨.au nC.length λj=>nC.getD j (.dead undef),?_,?_,⟨λj hj=>⟨?_,C.qI _ (hrc _ (cL hj _)) (jx.all _ (cL hj _)).1⟩,λj hj b k hf j' hj' hne=>xj jx.apart _ hj hj' hne hf⟩,λj hj=>C.sW _ (hrc _ (cL hj _)),λb k ⟨j,hj,hf⟩=>⟨_,cL hj _,hf⟩⟩
    ·show X.au _=_;rw[mh nC _ C.er];cases nC with
     |nil=>rfl
     |cons x l=>cases l with
      |nil=>simp at h1
      |cons y l=>rfl
    ·show Value.tuple _=_;rw[mh nC _ C.val];cases nC with
     |nil=>rfl
     |cons x l=>cases l with
      |nil=>simp at h1
      |cons y l=>rfl
    ·have:=k2 _ (fK (cL hj (.dead undef)));exact afE _ this
  refine⟨r,ps,aH,?_,by rw[r1,p1];exact k3⟩;have adO:∀t b k,(G1 t).fp b k->(∃y∈cs,y.fp b k)\/w.heap.size<=b:=λt b k hf=>h.tr.dom t b k (jx.mono t b k hf);have hrd:∀b k,r.fp b k->(∃y∈cs,y.fp b k)\/w.heap.size<=b:=λb k hf=>by obtain⟨x,hx,hf⟩:=r5 b k hf;obtain⟨t,ht⟩:=(jx.all x hx).2.2.2 b k hf;exact h.tr.dom t b k ht
  refine⟨by rw[r2],?_,h.tr.ext,⟨λx hx=>?_,λx hx=>?_,λx hx b k hf=>?_,λb k hz=>jx.inv.cE b k (hz.imp id λh=>h.elim),fA.2 ⟨λx hx b k hf hf'=>?_,p4⟩⟩,λx hx b k hf=>?_,h.tr.oM,h.tr.zl⟩
  ·rw[p2,List.range_eq_range'.symm];apply hO;intro i;rw[cY,cY];by_cases hi:i<n;·rw[sD hi,cw (by omega)];simp only[cj,dO];rw[jx.val];exact h.args i _ (by rw[cY,cw (by omega)];rfl)
   ·rw[kL (by simp;omega),kL (by omega)];rfl
  ·rcases bZ.1 hx with rfl|hx;·exact r3
   ·exact(p3 x hx).1
  ·rcases bZ.1 hx with rfl|hx;·exact r4
   ·exact(p3 x hx).2.1
  ·refine⟨?_,λh=>h⟩;rcases bZ.1 hx with rfl|hx;·obtain⟨y,hy,hf⟩:=r5 b k hf;exact((jx.all y hy).2.2.1 b k hf).1
   ·obtain⟨_,_,t,_,a3⟩:=p3 x hx;exact(jx.inv.fz _ b k (a3 b k hf)).1
  ·obtain⟨y,hy,hf⟩:=r5 b k hf;obtain⟨_,_,t,_,a3⟩:=p3 x hx;exact(jx.all y hy).2.1 _ b k hf (a3 b k hf')
  ·rcases bZ.1 hx with rfl|hx;·exact hrd b k hf
   ·obtain⟨_,_,t,_,a3⟩:=p3 x hx;exact adO _ b k (a3 b k hf)
 cases e with
 |normal=>obtain⟨G,aH,s,k,h⟩:=he;exact fin h k
 |ret=>obtain⟨G,aH,s,k,h⟩:=he;exact fin h k
 |exit id=>obtain⟨G,aH,s,k,h⟩:=he;exact k.elim
 |goto l=>exact he.elim
 |panic ch=>exact he.elim
 |outgrown=>exact he.elim
def Ta(P:Program)(fn:Func)(t:A)(rs:List RV)(n:Nat):Bool:=match fn.body with
 |some code=>gK P fn.ntmps t code && sV P fn.results.toList rs && decide (fn.ntmps<=base) && decide (n<=fn.ntmps)
 |none=>false
def Told.of{f:FuncId}{fn:Func}{t:A}{rs:List RV}{n:Nat}(hf:P.funcs[f]?=some fn)(h:Ta P fn t rs n=true):Told P f t rs n:=by
 unfold Ta at h;split at h;·rename_i code hc;simp only[aA,bz] at h;exact⟨fn,code,hf,hc,h.1.1.1,h.1.1.2,h.1.2,h.2⟩
 ·cases h
end
end M
namespace M
open Go
def AC.mono[Bs]{P:Program}{f:FuncId}{xs:List X}{Q Q':X->List X->Prop}(h:AC P f xs Q)(hq:∀r ps,Q r ps->Q' r ps):AC P f xs Q':=
 λw zl zb cs e a g=>(h w zl zb cs e a g).mono λ_ _ ⟨r,ps,aH,d,q⟩=>⟨r,ps,aH,d,hq _ _ q⟩
abbrev Out:=X×List X
abbrev cx:=FuncId->List X->Option Out
def wj(f:FuncId):X->Bool
 |.fn g _=>g==f
 |_=>false
def vq(s1:ah)(fv:Option AV)(f:FuncId):Bool:=match fv with
 |none=>true
 |some x=>wj f (ax s1 x)
abbrev yp:=X->Option ah
def FM(r:Nat)(p:Path)(s:ah)(n:Nat)(x:X):Option (X×yp):=
 match x with
 |.ref _ _=>(match look s r p with
  |some (.row .own z xs)=>some (.row .own z xs,λy=>match y with
   |.row .own z' ys=>if z'=z then some (iz r p (.row .own z ys) s) else none
   |_=>none)
  |_=>none)
 |.aC _ _ i c=>(match look s r p with
  |some (.ptr .own cs)=>if c+n<=cs.length then some (.ptr .own ((cs.drop c).take n),λy=>match y with
   |.ptr .own ys=>if ys.length=n then some (iz r p (.ptr .own (cs.take c++ys++cs.drop (c+n))) s) else none
   |_=>none) else none
  |some (.row .own z xs)=>(match xs[i]? with
   |some e=>if c+n<=e.length then some (.ptr .own ((e.drop c).take n),λy=>match y with
    |.ptr .own ys=>if ys.length=n then (if gW ys=true then some (iz r p (.row .own z (xs.set i (e.take c++ys++e.drop (c+n)))) s) else none) else none
    |_=>none) else none
   |none=>none)
  |_=>none)
 |_=>none
def pW(d:Option Nat)(s:ah):Option Out->Option ah
 |some o=>some (fO d o.1 s)
 |none=>none
def Bl(d:Option Nat)(as:List (AV×PM))(back:yp):Option Out->Option ah
 |some o=>(match back (kD as o.2) with
  |some s'=>some (fO d o.1 s')
  |none=>none)
 |none=>none
def C7(C:cx)(f:FuncId)(d:Option Nat)(as:List (AV×PM))(fv:Option AV)(ms:List X)(s0:ah):Option (X×yp)->Option ah
 |some (y,back)=>if X.bare y=true/\vq s0 fv f=true then Bl d as back (C f (gp s0 y as ms++nR s0 fv)) else none
 |none=>none
def qE(C:cx)(f:FuncId)(d:Option Nat)(as:List (AV×PM))(fv:Option AV)(s:ah):Option ah:=
 if X.bare.js (bU as s).1=true then
 match dR as with
 |none=>if vq (bU as s).2 fv f=true then pW d (bU as s).2 (C f (gp (bU as s).2 .dead as (bU as s).1++nR (bU as s).2 fv)) else none
 |some (x,n)=>C7 C f d as fv (bU as s).1 (iO (placeOf (ax (bU as s).2 x)).1 (placeOf (ax (bU as s).2 x)).2 .dead (bU as s).2) (FM (placeOf (ax (bU as s).2 x)).1 (placeOf (ax (bU as s).2 x)).2 (bU as s).2 n (ax (bU as s).2 x))
 else none
def C0(op:BinOp):X->X->Bool
 |.int k a,.int k' b=>match op with
  |.shl=>decide (0<=b)
  |.shr=>decide (0<=b)
  |.quo=>decide (k=k') && !decide (b=0)
  |.rem=>decide (k=k') && !decide (b=0)
  |.andNot=>false
  |_=>decide (k=k')
 |.str a,.str b=>match op with
  |.add=>decide (a.size+b.size<=9223372036854775807)
  |.eql=>true
  |.neq=>true
  |_=>false
 |_,_=>false
def Ww{op:BinOp}{x y:X}(h:C0 op x y=true):vj op x y:=by cases x<;>cases y<;>cases op<;>simp_all[C0,vj]
def G4(op:UnOp):X->Bool
 |.int _ _=>match op with
  |.neg=>true
  |_=>false
 |.bool _=>match op with
  |.not=>true
  |_=>false
 |_=>false
def alr{op:UnOp}{x:X}(h:G4 op x=true):xS op x:=by cases x<;>cases op<;>simp_all[G4,xS]
def EU:List X->Option UInt8
 |[.int .u8 n]=>if 0<=n/\n<256 then some (UInt8.ofNat n.toNat) else none
 |_=>none
def aeA{e:List X}{b:UInt8}(h:EU e=some b):e=[.int .u8 b.toNat]:=by
 unfold EU at h;split at h
 ·split at h
  ·rename_i n hn;obtain rfl:=gZ h;have:(UInt8.ofNat n.toNat).toNat=n.toNat:=by rw[M1];exact Nat.mod_eq_of_lt (by omega)
   rw[this];congr 2;omega
  ·cases h
 ·cases h
def sn:List (List X)->Option (List UInt8)
 |[]=>some []
 |e::l=>match EU e,sn l with
  |some b,some r=>some (b::r)
  |_,_=>none
def Te:∀{xs:List (List X)} {l:List UInt8},sn xs=some l->xs=l.map λb=>[.int .u8 b.toNat]
 |[],l,h=>by cases h;rfl
 |e::r,l,h=>by
  unfold sn at h;split at h;·rename_i b r' h1 h2;obtain rfl:=gZ h;rw[aeA h1,Te h2];rfl
  ·cases h
def Tf(l:List UInt8):sn (l.map λb=>[.int .u8 (b.toNat:Int)])=some l:=by
 induction l with
 |nil=>rfl
 |cons b l ih=>
  simp only[bD,sn,ih];have:EU [.int .u8 (b.toNat:Int)]=some b:=by have h:=b.toNat_lt;show (if 0<=(b.toNat:Int)/\(b.toNat:Int)<256 then some (UInt8.ofNat (b.toNat:Int).toNat) else none)=some b;rw[ay ⟨by omega,by omega⟩];simp
  rw[this]
def iy:List (List X)->Bool
 |[]=>true
 |e::l=>e.all scalar && iy l
def L5{xs:List (List X)}(h:iy xs=true):scalars xs:=by
 induction xs with
 |nil=>intro e he;cases he
 |cons a l ih=>
  simp only[iy,aA,oK] at h;intro e he c hc;rcases bZ.1 he with rfl|he;·exact h.1 c hc
  ·exact ih h.2 e he c hc
def B6(h:Tk)(l:List X):Bool:=match h with
 |.al=>true
 |_=>l.all λx=>gW (cellsOf x)
def ahu{h:Tk}{l:List X}(e:B6 h l=true):GM h l:=by
 cases h;·intro x hx;exact(oK.1 e) x hx
 ·trivial
 ·intro x hx;exact(oK.1 e) x hx
def uy:List Nat->List X->Bool
 |[],[]=>true
 |n::ns,y::ys=>((cellsOf y).length==n) && uy ns ys
 |_,_=>false
def SM:∀{ns:List Nat} {ys:List X},uy ns ys=true->xK ns ys
 |[],[],_=>trivial
 |[],_::_,h=>by cases h
 |_::_,[],h=>by cases h
 |n::ns,y::ys,h=>by simp only[uy,aA,ew] at h;exact⟨h.1,SM h.2⟩
def wU(sz:Nat)(l:List X):Bool:=l.all λx=>((cellsOf x).length==sz) && gW (cellsOf x)
def GN(s:ah)(r:Nat)(p:Path)(i c:Nat)(l:List X):Bool:=match look s r p with
 |some (.row .own _ xs)=>(match xs[i]? with
  |some e=>decide (c+l.length<=e.length) && gW l
  |none=>false)
 |some (.ptr .own cs)=>decide (c+l.length<=cs.length)
 |_=>false
def ahI{s:ah}{r:Nat}{p:Path}{i c:Nat}{l:List X}(h:GN s r p i c l=true):storable s r p i c l:=by
 unfold GN at h;unfold storable;split at h
 ·split at h;·rename_i h1 _ _ h2;rw[h1];simp only[h2];simpa using h
  ·cases h
 ·rename_i h1;rw[h1];simpa using h
 ·cases h
def R8(d:Option Nat)(cs:List X)(s1:ah):Option Out->Option ah
 |some (r,.agg ys::_)=>if gW ys=true then (match mH cs ys s1 with
  |some s'=>some (fO d r s')
  |none=>none) else none
 |_=>none
def cI(C:cx)(ok:FuncId->Bool)(o:cq)(s:ah):Option ah:=
 match o with
 |.mv d x=>some (put d (ax s x) s)
 |.aT d h x=>some (put d (take h (ax s x) s).1 (take h (ax s x) s).2)
 |.pick d c a b=>match ax s c with
  |.bool t=>some (put d (Bh t (ax s a) (ax s b)) s)
  |_=>none
 |.un d op x=>if G4 op (ax s x)=true then some (put d (Ms op (ax s x)) s) else none
 |.bin d op x y=>if C0 op (ax s x) (ax s y)=true then some (put d (HY op (ax s x) (ax s y)) s) else none
 |.beq d neg x y=>match ax s x,ax s y with
  |.bool p,.bool q=>some (put d (.bool (xor neg (p==q))) s)
  |_,_=>none
 |.rP d neg x=>match ax s x with
  |.row _ _ xs=>if mo xs=true then some (put d (.bool neg) s) else none
  |_=>none
 |.mG d neg ks x y=>match ax s x,ax s y with
  |.agg p,.agg q=>match jS ks p q with
   |some t=>some (put d (.bool (xor neg t)) s)
   |none=>none
  |_,_=>none
 |.conv d k x=>match ax s x with
  |.int _ n=>some (put d (.int k (k.wrap n)) s)
  |_=>none
 |.bytes d x=>match ax s x with
  |.str t=>some (put d (.row .own 1 (t.data.toList.map λb=>[.int .u8 b.toNat])) s)
  |_=>none
 |.text d x=>match rowAt s (ax s x) with
  |some (1,xs)=>if xs.length<=9223372036854775807 then (match sn xs with
   |some l=>some (put d (.str ⟨l.toArray⟩) s)
   |none=>none) else none
  |_=>none
 |.box d h x=>if 0<(cellsOf (take h (ax s x) s).1).length then some (put d (.ptr .own (cellsOf (take h (ax s x) s).1)) (take h (ax s x) s).2) else none
 |.new d z=>some (put d (.ptr .own z) s)
 |.build d h z ps=>if B6 h (takes h (ps.map (·.2)) s).1=true/\uy (ps.map (·.1.2)) (takes h (ps.map (·.2)) s).1=true then some (put d (.agg (vE z (ps.map (·.1.1)) (takes h (ps.map (·.2)) s).1)) (takes h (ps.map (·.2)) s).2) else none
 |.lit d h sz ps=>if wU sz (takes h ps s).1=true then some (put d (.row .own sz ((takes h ps s).1.map cellsOf)) (takes h ps s).2) else none
 |.make d sz bytes z n=>match ax s n with
  |.int _ i=>if 0<=i/\i*bytes<=140737488355328 then some (put d (.row .own sz (List.replicate i.toNat z)) s) else none
  |_=>none
 |.load d sz agg a=>match gv s (ax s a) with
  |some cs=>if sz<=cs.length then some (put d (bif agg then .agg (cs.take sz) else cs.headD .dead) s) else none
  |none=>none
 |.store sz h a x=>if (cellsOf (take h (ax s x) s).1).length=sz then (match ax (take h (ax s x) s).2 a with
  |.aC r p i c=>if GN (take h (ax s x) s).2 r p i c (cellsOf (take h (ax s x) s).1)=true then some (setCells r p i c (cellsOf (take h (ax s x) s).1) (take h (ax s x) s).2) else none
  |_=>none) else none
 |.dF d x=>match ax s x with
  |.aC r p i c=>some (put d (.aC r p i c) s)
  |.ptr m cs=>some (put d (.ptr m cs) s)
  |.fn f cs=>some (put d (.fn f cs) s)
  |_=>none
 |.oT d x off=>match ax s x with
  |.aC r p i c=>some (put d (.aC r p i (c+off)) s)
  |.ptr m cs=>some (put d (.ptr m (cs.drop off)) s)
  |_=>none
 |.nU d x off sz agg=>match ax s x with
  |.agg cs=>if off+sz<=cs.length then some (put d (bif agg then .agg ((cs.drop off).take sz) else (cs.drop off).headD .dead) s) else none
  |_=>none
 |.fe d sz x i=>match ax s i with
  |.int _ n=>if 0<=n then (match ax s x with
   |.row m z xs=>if z=sz then (match xs[n.toNat]? with
    |some e=>some (put d (.ptr m e) s)
    |none=>none) else none
   |.ref r p=>(match look s r p with
    |some (.row _ z xs)=>if z=sz/\n.toNat<xs.length then some (put d (.aC r p n.toNat 0) s) else none
    |_=>none)
   |.cut r p lo hi=>(match look s r p with
    |some (.row _ z _)=>if z=sz/\lo+n.toNat<hi then some (put d (.aC r p (lo+n.toNat) 0) s) else none
    |_=>none)
   |_=>none) else none
  |_=>none
 |.dn d x i=>match ax s x,ax s i with
  |.str t,.int _ n=>if 0<=n then (match t.data[n.toNat]? with
   |some b=>some (put d (.int .u8 b.toNat) s)
   |none=>none) else none
  |_,_=>none
 |.qw d n sz agg x i=>match ax s x,ax s i with
  |.agg cs,.int _ j=>if 0<=j/\j<n/\cs.length=n*sz then some (put d (bif agg then .agg ((cs.drop (j.toNat*sz)).take sz) else (cs.drop (j.toNat*sz)).headD .dead) s) else none
  |_,_=>none
 |.ext d x i=>match ax s x with
  |.au cs=>if i<cs.length then some (put d (cs.getD i .dead) s) else none
  |_=>none
 |.gd d x lo hi=>match ax s x with
  |.str t=>if 0<=asNat s lo 0/\asNat s lo 0<=asNat s hi t.size/\asNat s hi t.size<=t.size then some (put d (.str (t.extract (asNat s lo 0).toNat (asNat s hi t.size).toNat)) s) else none
  |_=>none
 |.mq d sz x lo hi=>match rowAt s (ax s x) with
  |some (z0,xs)=>if z0=sz/\0<=asNat s lo 0/\asNat s lo 0<=asNat s hi xs.length/\asNat s hi xs.length<=xs.length then (match ax s x with
   |.row m z _=>some (put d (.row m z ((xs.take (asNat s hi xs.length).toNat).drop (asNat s lo 0).toNat)) s)
   |.ref r p=>some (put d (.cut r p (asNat s lo 0).toNat (asNat s hi xs.length).toNat) s)
   |_=>none) else none
  |none=>none
 |.vz sz z x=>match ax s x with
  |.cut r p lo hi=>(match look s r p with
   |some (.row .own z' xs)=>if z'=sz then some (iz r p (.row .own z' (Dv lo hi z xs)) s) else none
   |_=>none)
  |_=>none
 |.qC d f x as=>match ax s x with
  |.agg cs=>if X.bare.js (bV cs s).1=true then R8 d cs (bV cs s).2 (C f (.agg (bV cs s).1::gp (bV cs s).2 .dead as (as.map λ_=>.dead))) else none
  |_=>none
 |.ni d fz sz agg a=>match gv s (ax s a) with
  |some cs=>if sz<=cs.length then ghost fz d (put d (bif agg then .agg (cs.take sz) else cs.headD .dead) s) else none
  |none=>none
 |.nu d f cs=>some (put d (.fn f (cs.map (ax s))) s)
 |.len d x=>match rowAt s (ax s x) with
  |some (z,xs)=>some (put d (.int .i64 xs.length) s)
  |none=>none
 |.r9 d x=>match ax s x with
  |.str t=>some (put d (.int .i64 t.size) s)
  |_=>none
 |.app d h sz bytes x y=>match (take .mv (ax s x) s).1 with
  |.row .own z xs=>if z=sz then (match h with
   |.mv=>(match (dB (ax (take .mv (ax s x) s).2 y) (take .mv (ax s x) s).2).1 with
    |.row .own z' ys=>if z'=sz/\(xs.length+ys.length)*bytes<=140737488355328 then some (put d (.row .own z (xs++ys)) (dB (ax (take .mv (ax s x) s).2 y) (take .mv (ax s x) s).2).2) else none
    |_=>none)
   |_=>(match rowAt (take .mv (ax s x) s).2 (ax (take .mv (ax s x) s).2 y) with
    |some (z',ys)=>if z'=sz/\(xs.length+ys.length)*bytes<=140737488355328/\iy ys=true then some (put d (.row .own z (xs++ys)) (take .mv (ax s x) s).2) else none
    |none=>none)) else none
  |_=>none
 |.mn d xs=>match xs.map (ax s) with
  |[.int k a,.int k' b]=>if k=k' then some (put d (.int k (if b<a then b else a)) s) else none
  |_=>none
 |.mx d xs=>match xs.map (ax s) with
  |[.int k a,.int k' b]=>if k=k' then some (put d (.int k (if b>a then b else a)) s) else none
  |_=>none
 |.call d f as=>qE C f d as none s
 |.kf d x as=>match ax s x with
  |.fn f _=>if ok f=true then qE C f d as (some x) s else none
  |_=>none
end M
namespace M
open Go
def cx.Sound[Bs](P:Program)(C:cx):Prop:=∀f xs o,C f xs=some o->AC P f xs λr ps=>r=o.1/\ps=o.2
section
variable [Bs]{P:Program}{C:cx}{ok:FuncId->Bool}
def OE{s1:ah}{fv:Option AV}{f:FuncId}(h:vq s1 fv f=true):qF s1 fv f:=by
 unfold vq at h;unfold qF;cases fv with
 |none=>trivial
 |some x=>
  simp only at h⊢;unfold wj at h;split at h;·rename_i h1;rw[h1];simpa using h
  ·cases h
def afD{r:Nat}{p:Path}{s:ah}{n:Nat}{x y:X}{back:yp}(h:FM r p s n x=some (y,back)){go:X->(X->(ah->Prop)->Prop)->Prop}
  (hg:∀b':X->(ah->Prop)->Prop,(∀q K s',back q=some s'->K s'->b' q K)->go y b'):w4 r p s n x go:=by
 unfold FM at h;unfold w4;split at h
 ·split at h
  ·rename_i z xs hl;obtain⟨rfl,rfl⟩:=CF (gZ h);simp only[hl];refine hg _ λq K s' hb hK=>?_;simp only at hb;split at hb
   ·split at hb;·rename_i hz;obtain rfl:=gZ hb;exact⟨hz,hK⟩
    ·cases hb
   ·cases hb
  ·cases h
 ·split at h
  ·rename_i cs hl;split at h
   ·rename_i hc;obtain⟨rfl,rfl⟩:=CF (gZ h);simp only[hl];refine⟨hc,hg _ λq K s' hb hK=>?_⟩;simp only at hb;split at hb
    ·split at hb;·rename_i hz;obtain rfl:=gZ hb;exact⟨hz,hK⟩
     ·cases hb
    ·cases hb
   ·cases h
  ·rename_i z xs hl;split at h
   ·rename_i e he;split at h
    ·rename_i hc;obtain⟨rfl,rfl⟩:=CF (gZ h);simp only[hl,he];refine⟨hc,hg _ λq K s' hb hK=>?_⟩;simp only at hb;split at hb
     ·split at hb
      ·split at hb;·rename_i hz hso;obtain rfl:=gZ hb;exact⟨hz,hso,hK⟩
       ·cases hb
      ·cases hb
     ·cases hb
    ·cases h
   ·cases h
  ·cases h
 ·cases h
def OB(hC:C.Sound P){f:FuncId}{d:Option Nat}{as:List (AV×PM)}{fv:Option AV}{s s':ah}(h:qE C f d as fv s=some s'){K:ah->Prop}(hK:K s'):sQ P f d as fv s K:=by
 unfold qE at h;unfold sQ;split at h
 ·rename_i hb;refine⟨hb,?_⟩;split at h
  ·rename_i hm;split at h
   ·rename_i hc;simp only[hm];refine⟨OE hc,?_⟩;unfold pW at h;split at h;·rename_i o ho;obtain rfl:=gZ h;exact(hC _ _ _ ho).mono λr ps ⟨h1,_⟩=>by rw[h1];exact hK
    ·cases h
   ·cases h
  ·rename_i x n hm;simp only[hm];unfold C7 at h;split at h
   ·rename_i y back hmu;split at h
    ·rename_i hc;refine afD hmu λb' hb'=>⟨hc.1,OE hc.2,?_⟩;unfold Bl at h;split at h
     ·rename_i o ho;split at h;·rename_i s2 hs2;obtain rfl:=gZ h;refine(hC _ _ _ ho).mono λr ps ⟨h1,h2⟩=>?_;rw[h1,h2];exact hb' _ _ _ hs2 hK
      ·cases h
     ·cases h
    ·cases h
   ·cases h
 ·cases h
def Pb(hC:C.Sound P)(hok:∀f,ok f=true->ak P f=true){o:cq}{s s':ah}(h:cI C ok o s=some s'){K:ah->Prop}(hK:K s'):aR P o s K:=by
 cases o with
 |mv d x=>cases h;exact hK
 |aT d h1 x=>cases h;exact hK
 |pick d c a b=>simp only[cI] at h;simp only[aR];split at h<;>first|(rename_i h1;rw[h1];cases h;exact hK)|cases h
 |un d op x=>
  simp only[cI] at h;split at h;·rename_i h1;cases h;exact⟨alr h1,hK⟩
  ·cases h
 |bin d op x y=>
  simp only[cI] at h;split at h;·rename_i h1;cases h;exact⟨Ww h1,hK⟩
  ·cases h
 |beq d neg x y=>
  simp only[cI] at h;simp only[aR];split at h;·rename_i h1 h2;rw[h1,h2];cases h;exact hK
  ·cases h
 |rP d neg x=>
  simp only[cI] at h;simp only[aR];split at h
  ·rename_i h1;rw[h1];split at h;·rename_i hc;cases h;intro b hb;rw[hb hc];cases neg<;>exact hK
   ·cases h
  ·cases h
 |mG d neg ks x y=>
  simp only[cI] at h;simp only[aR];split at h
  ·rename_i h1 h2;rw[h1,h2];split at h;·rename_i t ht;cases h;exact⟨t,ht,hK⟩
   ·cases h
  ·cases h
 |conv d k x=>
  simp only[cI] at h;simp only[aR];split at h;·rename_i h1;rw[h1];cases h;exact hK
  ·cases h
 |bytes d x=>
  simp only[cI] at h;simp only[aR];split at h;·rename_i h1;rw[h1];cases h;exact hK
  ·cases h
 |text d x=>
  simp only[cI] at h;simp only[aR];split at h
  ·rename_i xs h1;split at h
   ·rename_i h2;split at h;·rename_i l h3;cases h;exact⟨xs,h1,h2,l,Te h3,hK⟩
    ·cases h
   ·cases h
  ·cases h
 |box d h1 x=>
  simp only[cI] at h;split at h;·rename_i h2;cases h;exact⟨h2,hK⟩
  ·cases h
 |new d z=>cases h;exact hK
 |build d h1 z ps=>
  simp only[cI] at h;split at h;·rename_i h2;cases h;exact⟨ahu h2.1,SM h2.2,hK⟩
  ·cases h
 |lit d h1 sz ps=>
  simp only[cI] at h;split at h;·rename_i h2;cases h;refine⟨λx hx=>?_,hK⟩;have:=(oK.1 h2) x hx;simpa using this
  ·cases h
 |make d sz bytes z n=>
  simp only[cI] at h;simp only[aR];split at h
  ·rename_i h1;rw[h1];split at h;·rename_i h2;cases h;exact⟨h2.1,h2.2,hK⟩
   ·cases h
  ·cases h
 |load d sz agg a=>
  simp only[cI] at h;simp only[aR];split at h
  ·rename_i cs h1;split at h;·rename_i h2;cases h;exact⟨cs,h1,h2,hK⟩
   ·cases h
  ·cases h
 |store sz h1 a x=>
  simp only[cI] at h;simp only[aR];split at h
  ·rename_i h2;refine⟨h2,?_⟩;split at h
   ·rename_i h3;rw[h3];split at h;·rename_i h4;cases h;exact⟨ahI h4,hK⟩
    ·cases h
   ·cases h
  ·cases h
 |dF d x=>simp only[cI] at h;simp only[aR];split at h<;>first|(rename_i h1;rw[h1];cases h;exact hK)|cases h
 |oT d x off=>simp only[cI] at h;simp only[aR];split at h<;>first|(rename_i h1;rw[h1];cases h;exact hK)|cases h
 |nU d x off sz agg=>
  simp only[cI] at h;simp only[aR];split at h
  ·rename_i h1;rw[h1];split at h;·rename_i h2;cases h;exact⟨h2,hK⟩
   ·cases h
  ·cases h
 |fe d sz x i=>
  simp only[cI] at h;simp only[aR];split at h
  ·rename_i h1;rw[h1];split at h
   ·rename_i h2;refine⟨h2,?_⟩;split at h
    ·rename_i h3;rw[h3];split at h
     ·rename_i h4;refine⟨h4,?_⟩;split at h;·rename_i e h5;cases h;exact⟨e,h5,hK⟩
      ·cases h
     ·cases h
    ·rename_i h3;rw[h3];simp only;split at h
     ·rename_i h4;rw[h4];split at h;·rename_i h5;cases h;exact⟨h5.1,h5.2,hK⟩
      ·cases h
     ·cases h
    ·rename_i h3;rw[h3];simp only;split at h
     ·rename_i h4;rw[h4];split at h;·rename_i h5;cases h;exact⟨h5.1,h5.2,hK⟩
      ·cases h
     ·cases h
    ·cases h
   ·cases h
  ·cases h
 |dn d x i=>
  simp only[cI] at h;simp only[aR];split at h
  ·rename_i h1 h2;rw[h1,h2];split at h
   ·rename_i h3;refine⟨h3,?_⟩;split at h;·rename_i b h4;cases h;exact⟨b,h4,hK⟩
    ·cases h
   ·cases h
  ·cases h
 |qw d n sz agg x i=>
  simp only[cI] at h;simp only[aR];split at h
  ·rename_i h1 h2;rw[h1,h2];split at h;·rename_i h3;cases h;exact⟨h3.1,h3.2.1,h3.2.2,hK⟩
   ·cases h
  ·cases h
 |ext d x i=>
  simp only[cI] at h;simp only[aR];split at h
  ·rename_i h1;rw[h1];split at h;·rename_i h3;cases h;exact⟨h3,hK⟩
   ·cases h
  ·cases h
 |gd d x lo hi=>
  simp only[cI] at h;simp only[aR];split at h
  ·rename_i h1;rw[h1];split at h;·rename_i h3;cases h;exact⟨h3.1,h3.2.1,h3.2.2,hK⟩
   ·cases h
  ·cases h
 |mq d sz x lo hi=>
  simp only[cI] at h;simp only[aR];split at h
  ·rename_i z0 xs h1;split at h;·rename_i h2;obtain⟨rfl,h2,h3,h4⟩:=h2;refine⟨xs,h1,h2,h3,h4,?_⟩;split at h<;>first|(rename_i h5;rw[h5];cases h;exact hK)|cases h
   ·cases h
  ·cases h
 |vz sz z x=>
  simp only[cI] at h;simp only[aR];split at h
  ·rename_i h1;rw[h1];simp only;split at h
   ·rename_i h2;rw[h2];split at h;·rename_i h3;cases h;exact⟨h3,hK⟩
    ·cases h
   ·cases h
  ·cases h
 |qC d f x as=>
  simp only[cI] at h;simp only[aR];split at h
  ·rename_i cs h1;rw[h1];split at h
   ·rename_i h2;refine⟨h2,?_⟩;unfold R8 at h;split at h
    ·rename_i r ys ps ho;split at h
     ·rename_i h3;split at h;·rename_i s2 h4;cases h;exact(hC _ _ _ ho).mono λr' ps' ⟨e1,e2⟩=>by rw[e1,e2];exact⟨h3,_,h4,hK⟩
      ·cases h
     ·cases h
    ·cases h
   ·cases h
  ·cases h
 |ni d fz sz agg a=>
  simp only[cI] at h;simp only[aR];split at h
  ·rename_i cs h1;split at h;·rename_i h2;exact⟨cs,h1,h2,s',h,hK⟩
   ·cases h
  ·cases h
 |nu d f cs=>cases h;exact hK
 |len d x=>
  simp only[cI] at h;simp only[aR];split at h;·rename_i z xs h1;cases h;exact⟨z,xs,h1,hK⟩
  ·cases h
 |r9 d x=>
  simp only[cI] at h;simp only[aR];split at h;·rename_i h1;rw[h1];cases h;exact hK
  ·cases h
 |app d h1 sz bytes x y=>
  simp only[cI] at h;simp only[aR];split at h
  ·rename_i z xs h2;rw[h2];split at h
   ·rename_i h3;refine⟨h3,?_⟩;cases h1 with
    |mv=>
     simp only at h⊢;split at h
     ·rename_i h4;simp only[h4];split at h;·rename_i h5;cases h;exact⟨h5.1,h5.2,hK⟩
      ·cases h
     ·cases h
    |al=>
     simp only at h⊢;split at h
     ·rename_i z' ys h4;split at h;·rename_i h5;obtain⟨rfl,h5,h6⟩:=h5;cases h;exact⟨ys,h4,h5,L5 h6,hK⟩
      ·cases h
     ·cases h
    |aS=>
     simp only at h⊢;split at h
     ·rename_i z' ys h4;split at h;·rename_i h5;obtain⟨rfl,h5,h6⟩:=h5;cases h;exact⟨ys,h4,h5,L5 h6,hK⟩
      ·cases h
     ·cases h
   ·cases h
  ·cases h
 |mn d xs=>
  simp only[cI] at h;simp only[aR];split at h
  ·rename_i h1;rw[h1];split at h;·rename_i h2;cases h;exact⟨h2,hK⟩
   ·cases h
  ·cases h
 |mx d xs=>
  simp only[cI] at h;simp only[aR];split at h
  ·rename_i h1;rw[h1];split at h;·rename_i h2;cases h;exact⟨h2,hK⟩
   ·cases h
  ·cases h
 |call d f as=>exact OB hC h hK
 |kf d x as=>
  simp only[cI] at h;simp only[aR];split at h
  ·rename_i h1;rw[h1];split at h;·rename_i h2;exact⟨hok _ h2,OB hC h hK⟩
   ·cases h
  ·cases h
end
end M
namespace M
open Go
mutual
def X.eR:X->X->Bool
 |.dead,.dead=>true
 |.int k n,.int k' n'=>decide (k=k') && decide (n=n')
 |.bool a,.bool b=>a==b
 |.str s,.str t=>decide (s=t)
 |.row m z xs,.row m' z' ys=>decide (m=m') && z==z' && X.qO xs ys
 |.ptr m xs,.ptr m' ys=>decide (m=m') && X.lR xs ys
 |.agg xs,.agg ys=>X.lR xs ys
 |.au xs,.au ys=>X.lR xs ys
 |.fn f xs,.fn g ys=>f==g && X.lR xs ys
 |.ref s p,.ref t q=>s==t && p==q
 |.aC s p i c,.aC t q j d=>s==t && p==q && i==j && c==d
 |.cut s p i c,.cut t q j d=>s==t && p==q && i==j && c==d
 |_,_=>false
def X.lR:List X->List X->Bool
 |[],[]=>true
 |x::l,y::r=>X.eR x y && X.lR l r
 |_,_=>false
def X.qO:List (List X)->List (List X)->Bool
 |[],[]=>true
 |x::l,y::r=>X.lR x y && X.qO l r
 |_,_=>false
end
mutual
def X.Ph:∀{x y:X},X.eR x y=true->x=y
 |.dead,y,h=>by cases y<;>simp_all[X.eR]
 |.int k n,y,h=>by cases y<;>simp_all[X.eR]
 |.bool a,y,h=>by cases y<;>simp_all[X.eR]
 |.str s,y,h=>by cases y<;>simp_all[X.eR]
 |.row m z xs,y,h=>by cases y<;>simp only[X.eR,aA,bz,ew,fL] at h;rw[h.1.1,h.1.2,X.Pf h.2]
 |.ptr m xs,y,h=>by cases y<;>simp only[X.eR,aA,bz,ew,fL] at h;rw[h.1,X.vC h.2]
 |.agg xs,y,h=>by cases y<;>simp only[X.eR,fL] at h;rw[X.vC h]
 |.au xs,y,h=>by cases y<;>simp only[X.eR,fL] at h;rw[X.vC h]
 |.fn f xs,y,h=>by cases y<;>simp only[X.eR,aA,ew,fL] at h;rw[h.1,X.vC h.2]
 |.ref s p,y,h=>by cases y<;>simp_all[X.eR]
 |.aC s p i c,y,h=>by cases y<;>simp_all[X.eR]
 |.cut s p i c,y,h=>by cases y<;>simp_all[X.eR]
def X.vC:∀{x y:List X},X.lR x y=true->x=y
 |[],[],_=>rfl
 |[],_::_,h=>by simp[X.lR] at h
 |_::_,[],h=>by simp[X.lR] at h
 |x::l,y::r,h=>by simp only[X.lR,aA] at h;rw[X.Ph h.1,X.vC h.2]
def X.Pf:∀{x y:List (List X)},X.qO x y=true->x=y
 |[],[],_=>rfl
 |[],_::_,h=>by simp[X.qO] at h
 |_::_,[],h=>by simp[X.qO] at h
 |x::l,y::r,h=>by simp only[X.qO,aA] at h;rw[X.vC h.1,X.Pf h.2]
end
mutual
def X.Pj:∀x:X,X.eR x x=true
 |.dead=>rfl
 |.int k n=>by simp[X.eR]
 |.bool a=>by simp[X.eR]
 |.str s=>by simp[X.eR]
 |.row m z xs=>by simp[X.eR,X.Pg xs]
 |.ptr m xs=>by simp[X.eR,X.vD xs]
 |.agg xs=>by simp[X.eR,X.vD xs]
 |.au xs=>by simp[X.eR,X.vD xs]
 |.fn f xs=>by simp[X.eR,X.vD xs]
 |.ref s p=>by simp[X.eR]
 |.aC s p i c=>by simp[X.eR]
 |.cut s p i c=>by simp[X.eR]
def X.vD:∀x:List X,X.lR x x=true
 |[]=>rfl
 |x::l=>by simp[X.lR,X.Pj x,X.vD l]
def X.Pg:∀x:List (List X),X.qO x x=true
 |[]=>rfl
 |x::l=>by simp[X.qO,X.vD x,X.Pg l]
end
def qN:ah->ah->Bool
 |[],[]=>true
 |(k,x)::l,(k',y)::r=>k==k' && X.eR x y && qN l r
 |_,_=>false
def Pe:∀{x y:ah},qN x y=true->x=y
 |[],[],_=>rfl
 |[],_::_,h=>by simp[qN] at h
 |_::_,[],h=>by simp[qN] at h
 |(k,x)::l,(k',y)::r,h=>by simp only[qN,aA,ew] at h;rw[h.1.1,X.Ph h.1.2,Pe h.2]
def same:Option ah->Option ah->Option ah
 |some a,some b=>if qN a b=true then some a else none
 |_,_=>none
def eG(C:cx)(ok:FuncId->Bool)(g:G)(s:ah):Option ah:=match g with
 |⟨none,o⟩=>cI C ok o s
 |⟨some (t,b),o⟩=>match get s t with
  |.bool v=>if v=b then cI C ok o ((t,.bool b)::s) else some (fO o.dst (.au []) ((t,.bool (!b))::s))
  |.au []=>some (fO o.dst (.au []) s)
  |_=>none
def jR(C:cx)(ok:FuncId->Bool):List G->ah->Option ah
 |[],s=>some s
 |g::l,s=>(eG C ok g s).bind (jR C ok l)
def eD(C:cx)(ok:FuncId->Bool):DT->ah->Option ah
 |.nil ks,s=>some (keep ks s)
 |.step _ g t,s=>(eG C ok g s).bind (eD C ok t)
 |.alt a b,s=>same (eD C ok a s) (eD C ok b s)
 |.kp ks t,s=>eD C ok t (keep ks s)
abbrev cB:=Option (Ex×ah)
def fq(k:ah->cB):cB->cB
 |some (.normal,s)=>k s
 |some (.exit i,s)=>some (.exit i,s)
 |some (.ret,s)=>some (.ret,s)
 |none=>none
def kP(id:Nat):cB->cB
 |some (.exit i,s)=>if i=id then some (.normal,s) else some (.exit i,s)
 |some (.normal,s)=>some (.normal,s)
 |some (.ret,s)=>some (.ret,s)
 |none=>none
def lg(ks:List Nat):cB->cB
 |some (.normal,s)=>some (.normal,keep ks s)
 |some (.exit i,s)=>some (.exit i,s)
 |some (.ret,s)=>some (.ret,s)
 |none=>none
def iM:Option ah->cB
 |some s=>some (.normal,s)
 |none=>none
def iter(f:ah->cB):Nat->ah->cB
 |0,_=>none
 |n+1,s=>fq (iter f n) (f s)
def eA(C:cx)(ok:FuncId->Bool)(N:Nat):A->ah->cB
 |.skip,s=>some (.normal,s)
 |.ret,s=>some (.ret,s)
 |.exit id,s=>some (.exit id,s)
 |.ops l,s=>iM (jR C ok l s)
 |.draw t,s=>iM (eD C ok t s)
 |.seq a b,s=>fq (eA C ok N b) (eA C ok N a s)
 |.cond c a b,s=>match ax s c with
  |.bool t=>if t=true then eA C ok N a s else eA C ok N b s
  |_=>none
 |.block id b,s=>kP id (eA C ok N b s)
 |.loop b,s=>iter (eA C ok N b) N s
 |.pk ks b,s=>lg ks (eA C ok N b s)
structure Fn where
 body:A
 rs:List RV
 n:Nat
abbrev iE:=FuncId->Option Fn
def fin(F:Fn):cB->Option Out
 |some (.exit _,_)=>none
 |some (_,s)=>if X.clean.cC (dS F.rs s).1=true/\(dS F.rs s).1.any X.l9=false then some (uc (dS F.rs s).1,pV 0 F.n (dS F.rs s).2) else none
 |none=>none
def eF(C:cx)(ok:FuncId->Bool)(N:Nat)(F:Fn)(xs:List X):Option Out:=
 if xs.length=F.n then fin F (eA C ok N F.body (mI xs)) else none
def aj(T:iE)(f:FuncId):Bool:=(T f).isSome
def exec(L:cx)(T:iE):Nat->cx
 |0,_,_=>none
 |n+1,f,xs=>match T f with
  |some F=>eF (exec L T n) (aj T) n F xs
  |none=>L f xs
section
variable [Bs]{P:Program}{C:cx}{ok:FuncId->Bool}
def O9(hC:C.Sound P)(hok:∀f,ok f=true->ak P f=true){g:G}{s s':ah}(h:eG C ok g s=some s'){K:ah->Prop}(hK:K s'):oP P g s K:=by
 obtain⟨gg,o⟩:=g;cases gg with
 |none=>exact Pb hC hok h hK
 |some tb=>
  obtain⟨t,b⟩:=tb;simp only[eG] at h;simp only[oP];split at h
  ·rename_i v hv;rw[hv];split at h;·rename_i kX;exact⟨λ_=>Pb hC hok h hK,λhn=>by subst kX;cases v<;>simp at hn⟩
   ·rename_i kX;exact⟨λhh=>(kX hh).elim,λ_=>by cases h;exact hK⟩
  ·rename_i hv;rw[hv];cases h;exact hK
  ·cases h
def Pd(hC:C.Sound P)(hok:∀f,ok f=true->ak P f=true):∀{l:List G} {s s':ah},jR C ok l s=some s'->∀{Q:Ex->ah->Prop},Q .normal s'->j9 P l s Q
 |[],s,s',h,Q,hQ=>by cases h;exact hQ
 |g::l,s,s',h,Q,hQ=>by
  simp only[jR] at h;cases h1:eG C ok g s with
  |none=>rw[h1] at h;cases h
  |some s1=>rw[h1] at h;exact O9 hC hok h1 (Pd hC hok h hQ)
def yP(hC:C.Sound P)(hok:∀f,ok f=true->ak P f=true):∀{t:DT} {s s':ah},eD C ok t s=some s'->∀{Q:Ex->ah->Prop},Q .normal s'->ia P t s Q
 |.nil ks,s,s',h,Q,hQ=>by cases h;exact hQ
 |.step i g t,s,s',h,Q,hQ=>by
  simp only[eD] at h;cases h1:eG C ok g s with
  |none=>rw[h1] at h;cases h
  |some s1=>rw[h1] at h;exact O9 hC hok h1 (yP hC hok h hQ)
 |.alt a b,s,s',h,Q,hQ=>by
  simp only[eD] at h;unfold same at h;split at h
  ·rename_i x y hx hy;split at h;·rename_i he;obtain rfl:=Pe he;cases h;exact⟨yP hC hok hx hQ,yP hC hok hy hQ⟩
   ·cases h
  ·cases h
 |.kp ks t,s,s',h,Q,hQ=>yP (t:=t) hC hok h hQ
def S7{k:ah->cB}{r:cB}{e:Ex}{s:ah}(h:fq k r=some (e,s)):(∃s',r=some (.normal,s')/\k s'=some (e,s))\/(e≠.normal/\r=some (e,s)):=by
 unfold fq at h;split at h;·exact .inl ⟨_,rfl,h⟩
 ·cases h;exact .inr ⟨by simp,rfl⟩
 ·cases h;exact .inr ⟨by simp,rfl⟩
 ·cases h
def Zu(hC:C.Sound P)(hok:∀f,ok f=true->ak P f=true){N:Nat}:∀{t:A} {s s':ah} {e:Ex},eA C ok N t s=some (e,s')->∀{Q:Ex->ah->Prop},Q e s'->eP P t s Q:=by
 intro t;induction t with
 |skip=>intro s s' e h Q hQ;cases h;exact hQ
 |ret=>intro s s' e h Q hQ;cases h;exact hQ
 |exit id=>intro s s' e h Q hQ;cases h;exact hQ
 |ops l=>
  intro s s' e h Q hQ;simp only[eA] at h;unfold iM at h;split at h;·rename_i s1 h1;cases h;exact Pd hC hok h1 hQ
  ·cases h
 |draw l=>
  intro s s' e h Q hQ;simp only[eA] at h;unfold iM at h;split at h;·rename_i s1 h1;cases h;exact yP hC hok h1 hQ
  ·cases h
 |seq a b iL jV=>
  intro s s' e h Q hQ;simp only[eA] at h;rcases S7 h with ⟨s1,h1,h2⟩|⟨hne,h1⟩;·exact iL h1 (jV h2 hQ)
  ·refine iL h1 ?_;cases e with
   |normal=>exact(hne rfl).elim
   |exit i=>exact hQ
   |ret=>exact hQ
 |cond c a b iL jV=>
  intro s s' e h Q hQ;simp only[eA] at h;simp only[eP];split at h
  ·rename_i t ht;rw[ht];split at h;·rename_i h1;exact⟨λ_=>iL h hQ,λh2=>by rw[h1] at h2;cases h2⟩
   ·rename_i h1;exact⟨λh2=>(h1 h2).elim,λ_=>jV h hQ⟩
  ·cases h
 |block id b ih=>
  intro s s' e h Q hQ;simp only[eA] at h;unfold kP at h;split at h
  ·rename_i i s1 h1;split at h;·rename_i hi;cases h;refine ih h1 ?_;subst hi;simpa using hQ
   ·rename_i hi;cases h;refine ih h1 ?_;have:(i==id)=false:=by simpa using hi
    simpa [this] using hQ
  ·rename_i s1 h1;cases h;exact ih h1 hQ
  ·rename_i s1 h1;cases h;exact ih h1 hQ
  ·cases h
 |loop b ih=>
  intro s s' e h Q hQ;simp only[eA] at h;refine⟨λn s1=>iter (eA C ok N b) n s1=some (e,s'),⟨N,h⟩,λn s1 h1=>?_⟩;cases n with
  |zero=>cases h1
  |succ n=>
   simp only[iter] at h1;rcases S7 h1 with ⟨s2,h2,h3⟩|⟨hne,h2⟩;·exact ih h2 ⟨n,Nat.lt_succ_self n,h3⟩
   ·refine ih h2 ?_;cases e with
    |normal=>exact(hne rfl).elim
    |exit i=>exact hQ
    |ret=>exact hQ
 |pk ks b ih=>
  intro s s' e h Q hQ;simp only[eA] at h;unfold lg at h;split at h;·rename_i s1 h1;cases h;exact ih h1 hQ
  ·rename_i s1 h1;cases h;exact ih h1 hQ
  ·rename_i s1 h1;cases h;exact ih h1 hQ
  ·cases h
structure iE.Ok (P:Program) (T:iE):Prop where
 told:∀f F,T f=some F->Told P f F.body F.rs F.n
 ok:∀f F,T f=some F->ak P f=true
def Pk{L:cx}{T:iE}(hL:L.Sound P)(hT:T.Ok P):∀n,(exec L T n).Sound P
 |0=>λf xs o h=>by cases h
 |n+1=>λf xs o h=>by
  simp only[exec] at h;split at h
  ·rename_i F hF;unfold eF at h;split at h
   ·rename_i hn;refine(hT.told f F hF).ac hn ?_;unfold fin at h;split at h;·cases h
    ·rename_i e s' h1 h2;split at h
     ·rename_i hc;have h2:eA (exec L T n) (aj T) n F.body (mI xs)=some (e,s'):=h2;cases h;refine Zu (Pk hL hT n) (λf hf=>?_) h2 ?_;·unfold aj at hf;obtain⟨F',hF'⟩:=x8.1 hf;exact hT.ok f F' hF'
      ·cases e with
       |exit i=>exact(h1 i rfl).elim
       |normal=>exact⟨hc.1,λx hx=>by have:=List.any_eq_false.1 hc.2 x hx;simpa using this,rfl,rfl⟩
       |ret=>exact⟨hc.1,λx hx=>by have:=List.any_eq_false.1 hc.2 x hx;simpa using this,rfl,rfl⟩
     ·cases h
    ·cases h
   ·cases h
  ·exact hL f xs o h
end
end M
