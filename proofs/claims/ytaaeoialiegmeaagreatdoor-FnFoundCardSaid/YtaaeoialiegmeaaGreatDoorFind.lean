/- The library with find, by a walk of find, is sound; no conditions. -/
import Derived.Test.YtaaeoialiegmeaaGreatDoorMc
import Derived.Test.YtaaeoialiegmeaaGreatDoorTold
import Derived.Test.YtaaeoialiegmeaaGreatDoorCona
import Derived.RangeFuncNested
import Derived.RangeFuncBound
import Derived.RangeFuncCalls
import Derived.RangeFuncLeaves
import Derived.Shelf.Abstract
import Derived.Shelf.RegionOpen
import Derived.WalkKit
import Derived.OwnWalkIn
import Derived.TacticsInMore
import Derived.LoopNIn
import Derived.LoopIn
import Derived.Deep.RegionHeld
import Derived.Test.YtaaeoialiegmeaaGreatDoorProg
set_option linter.defProp false
set_option linter.unusedSectionVars false
set_option linter.unusedVariables false
set_option linter.unusedSimpArgs false
set_option linter.unusedVariables false
set_option linter.unusedSimpArgs false
set_option linter.unusedSectionVars false
namespace Go.Proofs
open Go.RowKit Go.Shelf
attribute [local go_sem] Oper.semAt_some
def kY(len k:Nat):List Nat:=(List.range k).map λj=>len - 1 - j
def IQ(len k:Nat):kY len (k+1)=kY len k++[len - 1 - k]:=by simp[kY,mH]
def XE(len k:Nat):(kY len k).length=k:=by simp[kY]
def DI(ev:Nat->Nat->Value)(i:Nat):Value:=.agg #[ev i 0,ev i 1,ev i 2,ev i 3,ev i 4,ev i 5,ev i 6,ev i 7,ev i 8]
set_option maxRecDepth 100000 in
set_option maxHeartbeats 4000000 in
def XF(F:Fence)(n:Nat)(h7:F.fn 235)(hro:F.round=none)(hn:1<=n)(l Bs n₀ len cap:Nat)(A:Option Addr)(ev:Nat->Nat->Value)(iq:len<=1073741824)(hb:Bs<n₀)(J Jx:List (Fin len)->World->Prop)
    (hY:∀pre x W,J pre W->pre.length<len->YieldAt F (n - 1) Tryz.prog l #[.int .i64 ((x:Fin len).1:Int),DI ev x.1] W λe W'=>
      (e=.returned (.bool true)/\J (pre++[x]) W'/\Below n₀ W W')\/(e=.returned (.bool false)/\Jx (pre++[x]) W'))
    (W:World)(Jd:W.cell? ⟨Bs,0,none⟩=some (.slice A len cap))(hc:∀i j,i<len->j<9->∃g o,A=some ⟨g,o,none⟩/\g<n₀/\W.cell? ⟨g,o+i*9+j,none⟩=some (ev i j))(h0:J [] W):
    CallsIn F n Tryz.prog 235 #[.func (.yield l) #[] #[],.pointer (some ⟨Bs,0,none⟩)] W λe W'=>(∃v,e=.returned v)/\
      ((∃ys:List (Fin len),ys.map Fin.val=kY len len/\J ys W')\/(∃pre:List (Fin len),(∃k,k<=len/\pre.map Fin.val=kY len k)/\Jx pre W')):=by
  refine callsIn_of_wp Tryz.func235 rfl h7 ?_ hro;simp only[Tryz.ntmps235,qG,cG,gH,Nat.reduceAdd,Nat.reduceSub,Array.replicate_succ,Array.replicate_zero,List.push_toArray,List.append_toArray,kn,fD];gi_wp2
  gi_loopw [3] (λi wr=>∃(k:Nat) (ys:List (Fin len)),k<=len/\i=.int .i64 ((len:Int) - 1 - k)/\ys.map Fin.val=kY len k/\J ys wr/\Below n₀ W wr)
    (λi _=>(intOf i+1).toNat)
  case atStart=>exact⟨0,[],oT _,by simp,rfl,h0,Below.refl _ _⟩
  case round=>
    obtain⟨k,ys,hk,rfl,hys,P3,JE⟩:=hrel;have hbx:wr.cell? ⟨Bs,0,none⟩=some (.slice A len cap):=(JE.cell (p:=⟨Bs,0,none⟩) hb).trans Jd;by_cases hlt:k<len
    · have hi:len - 1 - k<len:=by omega
      have oo:ys.length=k:=by have:=dm List.length hys;rwa [dO,XE] at this
      obtain⟨fn,tmps,assign,body,hy,hR⟩:=hY ys ⟨len - 1 - k,hi⟩ wr P3 (by omega)
      have ec:((len:Int) - 1 - k)=((len - 1 - k:Nat):Int):=by omega
      obtain⟨g,o,hA,hg,c0⟩:=hc (len - 1 - k) 0 hi (by omega)
      have cc:∀j,j<9->wr.cell? ⟨g,o+(len - 1 - k)*9+j,none⟩=some (ev (len - 1 - k) j):=by intro j hj;obtain⟨g',o',jb,hg',c⟩:=hc (len - 1 - k) j hi hj;rw[hA] at jb;cases jb;exact(JE.cell (p:=⟨g,o+(len - 1 - k)*9+j,none⟩) hg').trans c
      subst hA
      dsimp only[DI] at hy
      rw[ec]
      generalize hq:len - 1 - k=q at*
      have d0:wr.cell? ⟨g,o+q*9,none⟩=some (ev q 0):=cc 0 (by omega)
      have d1:=cc 1 (by omega)
      have d2:=cc 2 (by omega)
      have d3:=cc 3 (by omega)
      have d4:=cc 4 (by omega)
      have d5:=cc 5 (by omega)
      have d6:=cc 6 (by omega)
      have d7:=cc 7 (by omega)
      have d8:=cc 8 (by omega)
      gi_wp2
      refine hR.mono ?_
      rintro e W3 (⟨rfl,hJ3,hk3⟩|⟨rfl,aaC⟩)
      · gi_wp2
        go_roundw
        case rel=>exact⟨k+1,ys++[⟨q,hi⟩],by omega,by go_num,by rw[iA,hys,IQ,hq];rfl,hJ3,JE.trans hk3⟩
        case measure=>simp[intOf]
      · gi_wp2
        refine bodyPost_ret (results_none rfl _ _ _) rfl ?_
        exact⟨⟨_,rfl⟩,.inr ⟨_,⟨k+1,by omega,by rw[iA,hys,IQ,hq];rfl⟩,aaC⟩⟩
    · obtain rfl:k=len:=by omega
      gi_wp2
      go_end0
      exact⟨⟨_,rfl⟩,.inl ⟨_,hys,P3⟩⟩
def XH(F:Fence)(n:Nat)(h7:F.fn 235)(hro:F.round=none)(hn:1<=n)(Bs n₀ len cap:Nat)(A:Option Addr)(ev:Nat->Nat->Value)(iq:len<=1073741824)(hb:Bs<n₀)(w:World)(hn₀:n₀<=w.heap.size)
    (Jd:w.cell? ⟨Bs,0,none⟩=some (.slice A len cap))(hc:∀i j,i<len->j<9->∃g o,A=some ⟨g,o,none⟩/\g<n₀/\w.cell? ⟨g,o+i*9+j,none⟩=some (ev i j)):
    SeqStopsK F n Tryz.prog 235 #[.pointer (some ⟨Bs,0,none⟩)] (λx:Fin len=> #[Value.int .i64 (x.1:Int),DI ev x.1]) (Below n₀) (λys=>ys.map Fin.val=kY len len)
      (λpre=>∃k,k<=len/\pre.map Fin.val=kY len k) len w:=λl J Jx W hW _ _ hY h0=>by have gv:Below n₀ w W:=hW.mono hn₀;exact XF F n h7 hro hn l Bs n₀ len cap A ev iq hb J Jx hY W ((gv.cell (p:=⟨Bs,0,none⟩) hb).trans Jd) (λi j hi hj=>by obtain⟨g,o,h1,h2,h3⟩:=hc i j hi hj;exact⟨g,o,h1,h2,(gv.cell (p:=⟨g,o+i*9+j,none⟩) h2).trans h3⟩) h0
set_option maxHeartbeats 1000000 in
def XG(F:Fence)(n:Nat)(h5:F.fn 177)(hro:F.round=none)(a:Option Addr)(len cap:Nat)(w:World):
    CallsIn F n Tryz.prog 177 #[.slice a len cap] w λe w'=>e=.returned (.func (.func 235) #[] #[.pointer (some ⟨w.heap.size,0,none⟩)])/\w'=w.alloc (.cells #[.slice a len cap] 51):=by refine callsIn_of_wp Tryz.func177 rfl h5 ?_ hro;simp only[Tryz.ntmps177,qG,cG,gH,Nat.reduceAdd,Nat.reduceSub,Array.replicate_succ,Array.replicate_zero,List.push_toArray,List.append_toArray,kn,fD];gi_wp2;go_ret;exact⟨rfl,rfl⟩
def VR(w:World):Below w.heap.size w w.drew:=(Below.refl _ _).drew
def XI{a b:ByteArray}(h:a.toList=b.toList):a=b:=by rw[ByteArray.toList_eq,ByteArray.toList_eq] at h;cases a;cases b;simp at h;rw[h]
def zo{V U U':World}(h:Below V.heap.size V U/\KeepsOthers V U)(hb:Below U.heap.size U U'):Below V.heap.size V U'/\KeepsOthers V U':=
  ⟨h.1.trans (hb.mono h.1.size),h.2.trans ⟨hb.size,λk o hk _=>(hb.block k (gG.1 hk).1).trans hk⟩⟩
def jw{U:World}{b j:Nat}{arr:Array Value}{t:TypeId}{fz:Nat×Nat}(v:Value)(h:U.heap[b]?=some (.cells arr t fz)):(U.setCell ⟨b,j,none⟩ v).heap[b]?=some (.cells (arr.setIfInBounds j v) t fz):=by obtain⟨hlt,he⟩:=gG.1 h;show (U.heap.modify b _)[b]?=_;simp[M3,h]
def jx(U:World)(a:Addr)(v:Value):(U.setCell a v).heap.size=U.heap.size:=by show (U.heap.modify a.block _).size=_;simp
def O5(U:World)(a:Addr)(v:Value):(U.setCell a v).os=U.os:=rfl
def O7(U:World)(a:Addr)(v:Value):(U.setCell a v).tape=U.tape:=rfl
def O6(U:World)(a:Addr)(v:Value):(U.setCell a v).output=U.output:=rfl
def nZ{w:World}{k:Nat}{x:Obj}(h:w.heap[k]?=some x)(o:Obj):(w.alloc o).heap[k]?=some x:=(Below.heap_alloc w o k (gG.1 h).1).trans h
def vK(w:World)(o:Obj){k:Nat}(h:k=w.heap.size):(w.alloc o).heap[k]?=some o:=by subst h;exact World.alloc_heap_new w o
set_option maxRecDepth 100000 in
set_option maxHeartbeats 1000000 in
def O4{W:World}{B4 B5:Nat}{e:cR}{v:Bool}{tm:Array Value}(t4:tm[4]?=some (.pointer (some ⟨B4,0,none⟩)))(t5:tm[5]?=some (.pointer (some ⟨B5,0,none⟩)))(h4:W.heap[B4]?=some (.cells e.ob 31))(h5:W.heap[B5]?=some (.cells #[.bool v] 4)):
    (results Tryz.f96 tm).run Tryz.prog W=.ok (.tuple #[.agg e.ob,.bool v]) W:=by
  have c0:W.cell? ⟨B4,0,none⟩=some (.string e.p):=by simp[World.cell?,h4,cR.ob]
  have c1:W.cell? ⟨B4,1,none⟩=some (.slice e.a1 e.l1 e.c1):=by simp[World.cell?,h4,cR.ob]
  have c2:W.cell? ⟨B4,2,none⟩=some (.slice e.a2 e.l2 e.c2):=by simp[World.cell?,h4,cR.ob]
  have c3:W.cell? ⟨B4,3,none⟩=some (.int .i64 e.s):=by simp[World.cell?,h4,cR.ob]
  have c4:W.cell? ⟨B4,4,none⟩=some (.slice e.a3 e.l3 e.c3):=by simp[World.cell?,h4,cR.ob]
  have c5:W.cell? ⟨B4,5,none⟩=some (.string e.b):=by simp[World.cell?,h4,cR.ob]
  have c6:W.cell? ⟨B4,6,none⟩=some (.int .i64 e.t):=by simp[World.cell?,h4,cR.ob]
  have d0:W.cell? ⟨B5,0,none⟩=some (.bool v):=by simp[World.cell?,h5]
  simp[results,Tryz.f96,go_sem,t4,t5,c0,c1,c2,c3,c4,c5,c6,d0,cR.ob]
set_option maxRecDepth 100000 in
set_option maxHeartbeats 4000000 in
def XJ(g o:Nat)(A Ab Aq:Option Addr)(len cap lb cb lq cq:Nat)(qm:Int)(qs qb:ByteArray)(E:Nat->cR)(pS pH:Nat->Bool)(R:Nat->cR->World->World->Prop)(w:World)
    (iq:len<=1073741824)(hg:g<w.heap.size)(Eo:w.cell? ⟨g,o+2,none⟩=some (.slice A len cap))(Jl:w.cell? ⟨g,o+3,none⟩=some (.slice Ab lb cb))
    (hc:∀i j,i<len->j<9->∃g o,A=some ⟨g,o,none⟩/\g<w.heap.size/\w.cell? ⟨g,o+i*9+j,none⟩=some ((E i).v j))
    (hS:∀i,i<len->∀W,Below w.heap.size w W->Calls Tryz.prog 29 #[.slice (E i).a1 (E i).l1 (E i).c1,.slice (E i).a2 (E i).l2 (E i).c2,.slice Aq lq cq] W λe W'=>e=.returned (.bool (pS i))/\Below W.heap.size W W')
    (hH:∀i,i<len->∀W,Below w.heap.size w W->Calls Tryz.prog 30 #[.slice Ab lb cb,.agg (E i).ob] W λe W'=>e=.returned (.bool (pH i))/\Below W.heap.size W W')
    (hC:∀i,i<len->∀W,Below w.heap.size w W->Calls Tryz.prog 178 #[.agg (E i).ob] W λe W'=>∃O:cR,e=.returned (.agg O.ob)/\Below W.heap.size W W'/\R i O W W'):
    Calls Tryz.prog 96 #[.pointer (some ⟨g,o,none⟩),.agg #[.int .i64 qm,.string qs,.slice Aq lq cq,.string qb]] w λe W'=>Below w.heap.size w W'/\
      ((e=.returned (.tuple #[.agg vJ,.bool false])/\∀i,i<len->¬((E i).p=qs/\pS i=true/\pH i=false))\/
       (∃i O W1 W2,i<len/\e=.returned (.tuple #[.agg (cR.ob O),.bool true])/\((E i).p=qs/\pS i=true/\pH i=false)/\(∀i',i<i'->i'<len->¬((E i').p=qs/\pS i'=true/\pH i'=false))/\
          Below w.heap.size w W1/\R i O W1 W2/\∀b arr t fz,W1.heap.size<=b->W2.heap[b]?=some (.cells arr t fz)->W'.heap[b]?=some (.cells arr t fz))):=by
  refine(callsIn_wide (n:=3)).1 ?_;refine callsIn_of_wp_marks Tryz.func96 rfl trivial ?_ rfl;simp only[Tryz.ntmps96,qG,cG,gH,Nat.reduceAdd,Nat.reduceSub,Array.replicate_succ,Array.replicate_zero,List.push_toArray,List.append_toArray,kn,fD]
  have Jc:Below w.heap.size w ((((w.alloc (.cells #[.pointer (some ⟨g,o,none⟩)] 174)).alloc (.cells #[.int .i64 qm,.string qs,.slice Aq lq cq,.string qb] 26)).alloc (.cells #[.string ⟨#[]⟩,.slice none 0 0,.slice none 0 0,.int .i64 0,.slice none 0 0,.string ⟨#[]⟩,.int .i64 0] 31)).alloc (.cells #[.bool false] 4)):=
    ((((Below.refl _ w).alloc (dz _) _).alloc (by simp) _).alloc (by simp;omega) _).alloc (by simp;omega) _
  have hs4:=(Jc.cell (p:=⟨g,o+2,none⟩) hg).trans Eo;gi_wp2_with (refine⟨trivial,?_⟩;gi_at_call 177;refine(XG Fence.wide (3 - 1) trivial rfl _ _ _ _).mono ?_;rintro e w' ⟨rfl,rfl⟩);obtain⟨W0,pN⟩:∃W0,(((((w.alloc (.cells #[.pointer (some ⟨g,o,none⟩)] 174)).alloc (.cells #[.int .i64 qm,.string qs,.slice Aq lq cq,.string qb] 26)).alloc (.cells #[.string ⟨#[]⟩,.slice none 0 0,.slice none 0 0,.int .i64 0,.slice none 0 0,.string ⟨#[]⟩,.int .i64 0] 31)).alloc (.cells #[.bool false] 4)).alloc (.cells #[.slice A len cap] 51))=W0:=⟨_,rfl⟩;rw[pN];have hsz:W0.heap.size=w.heap.size+5:=by rw[<-pN];simp
  have Jb:Below w.heap.size w W0:=by rw[<-pN];exact Jc.alloc (by simp;omega) _
  have b2:W0.heap[w.heap.size]?=some (.cells #[.pointer (some ⟨g,o,none⟩)] 174):=by rw[<-pN];exact nZ (nZ (nZ (nZ (vK _ _ rfl) _) _) _) _
  have b3:W0.heap[w.heap.size+1]?=some (.cells #[.int .i64 qm,.string qs,.slice Aq lq cq,.string qb] 26):=by rw[<-pN];exact nZ (nZ (nZ (vK _ _ (by simp)) _) _) _
  have b4:W0.heap[w.heap.size+1+1]?=some (.cells #[.string ⟨#[]⟩,.slice none 0 0,.slice none 0 0,.int .i64 0,.slice none 0 0,.string ⟨#[]⟩,.int .i64 0] 31):=by rw[<-pN];exact nZ (nZ (vK _ _ (by simp)) _) _
  have b5:W0.heap[w.heap.size+1+1+1]?=some (.cells #[.bool false] 4):=by rw[<-pN];exact nZ (vK _ _ (by simp)) _
  have b6:W0.heap[w.heap.size+1+1+1+1]?=some (.cells #[.slice A len cap] 51):=by rw[<-pN];exact vK _ _ (by simp)
  clear pN hs4 Jc
  refine wpIn_rangeFunc_ownH rfl (by omega) (gf:=235) (lb:= #[.pointer (some ⟨w.heap.size+1+1+1+1,0,none⟩)]) rfl trivial (enters_of Tryz.func235 (by kernel_rfl) rfl)
    (XH Fence.wide (3 - 1) trivial rfl (by omega) (w.heap.size+1+1+1+1) W0.heap.size len cap A (λi=>(E i).v) iq (by omega) W0 (dz _) (by simp[World.cell?,b6])
      (λi j hi hj=>by obtain⟨g,o,h1,h2,h3⟩:=hc i j hi hj;exact⟨g,o,h1,by omega,(Jb.cell (p:=⟨g,o+i*9+j,none⟩) h2).trans h3⟩))
    belowK_t (belowK_b (dz _)) (Below.refl _ _) (λ_=>rfl)
    (λpre W=>(∀y∈pre,¬((E y.1).p=qs/\pS y.1=true/\pH y.1=false))/\Below W0.heap.size W0 W)
    (λc pre W => Below w.heap.size w W /\ (c=.ret/\∃pY x O W1 W2,pre=pY++[x]/\(∀y∈pY,¬((E y.1).p=qs/\pS y.1=true/\pH y.1=false))/\((E x.1).p=qs/\pS x.1=true/\pH x.1=false)/\Below w.heap.size w W1/\R x.1 O W1 W2/\
      (∀b arr t fz,W1.heap.size<=b->W2.heap[b]?=some (.cells arr t fz)->W.heap[b]?=some (.cells arr t fz))/\
      W.heap[w.heap.size+1+1]?=some (.cells (cR.ob O) 31)/\W.heap[w.heap.size+1+1+1]?=some (.cells #[.bool true] 4)))
    (OwnFrom.and (ownFrom_pure _ _) (ownFrom_below (dz _) (dz _)))
    (λc => OwnFrom.and (ownFrom_below (dz _) (by omega)) (λs W W' row hs hg hr=>by
      obtain⟨hc,pY,x,O,W1,W2,e1,e2,e3,e4,e5,e6,e7,e8⟩:=hs;have kp:∀(b:Nat) arr t fz,W.heap[b]?=some (Obj.cells arr t fz)->W'.heap[b]?=some (Obj.cells arr t fz):=λb arr t fz h=>by refine(hg.block b (gG.1 h).1 λe=>?_).trans h;obtain⟨_,o',ho,hn⟩:=hr b e.symm;rw[h] at ho;cases ho;cases hn
      exact⟨hc,pY,x,O,W1,W2,e1,e2,e3,e4,e5,λb arr t fz hb h=>kp _ _ _ _ (e6 b arr t fz hb h),kp _ _ _ _ e7,kp _ _ _ _ e8⟩))
    ⟨λy hy=>(by cases hy),Below.refl _ _⟩
    (λx a' W=>∃Bx,W0.heap.size<=Bx/\W.heap[Bx]?=some (.cells (E x.1).kp 62)/\
      a'={tmps:= #[.pointer (some ⟨g,o,none⟩),.agg #[.int .i64 qm,.string qs,.slice Aq lq cq,.string qb],.pointer (some ⟨w.heap.size,0,none⟩),.pointer (some ⟨w.heap.size+1,0,none⟩),.pointer (some ⟨w.heap.size+1+1,0,none⟩),.pointer (some ⟨w.heap.size+1+1+1,0,none⟩),undef,.pointer (some ⟨Bx,0,none⟩),undef,.pointer (some ⟨g,o,none⟩),.pointer (some ⟨g,o,none⟩),.pointer (some ⟨g,o+2,none⟩),.slice A len cap,.func (.func 235) #[] #[.pointer (some ⟨w.heap.size+1+1+1+1,0,none⟩)],.int .i64 (x.1:Int),.agg (E x.1).kp,undef,undef,undef,undef,undef,undef,undef,undef,undef,undef,undef,undef,undef,undef,undef,undef,undef,undef,undef,undef,undef,undef,undef,undef,undef,undef,undef,undef],defers:=[]})
    (λx a' s W W' row hs hg hr=>by obtain⟨Bx,h1,h2,h3⟩:=hs;refine⟨Bx,h1,(hg.block Bx (gG.1 h2).1 λe=>?_).trans h2,h3⟩;obtain⟨_,o',ho,hn⟩:=hr Bx e.symm;rw[h2] at ho;cases ho;cases hn)
    ?assign ?body ?done ?stop
  case assign=>rintro l pre x W K hi hK;dsimp only[DI,cR.v,cR.kp] at hK⊢;gi_wp2;exact hK _ _ ((KeepsOthers.alloc _ _).from _) ((Below.refl _ W).alloc hi.2.size _) ⟨hi.1,hi.2.alloc hi.2.size _⟩ ⟨W.heap.size,hi.2.size,World.alloc_heap_new W _,rfl⟩
  case body=>
    rintro l pre x a' W hl ⟨r,hr⟩ ⟨hi1,hi2⟩ ⟨Bx,hBx,bX,rfl⟩ hlt;have hx:=x.2;have Qu:=hi2.size;have JL:Below w.heap.size w W:=Jb.trans (hi2.mono (by omega));have k2:W.heap[w.heap.size]?=some (.cells #[.pointer (some ⟨g,o,none⟩)] 174):=(hi2.block _ (by omega)).trans b2;have k3:W.heap[w.heap.size+1]?=some (.cells #[.int .i64 qm,.string qs,.slice Aq lq cq,.string qb] 26):=(hi2.block _ (by omega)).trans b3;have hbW:W.cell? ⟨g,o+3,none⟩=some (.slice Ab lb cb):=(JL.cell (p:=⟨g,o+3,none⟩) hg).trans Jl;have e2:W.cell? ⟨w.heap.size,0,none⟩=some (.pointer (some ⟨g,o,none⟩)):=by simp[World.cell?,k2]
    have e3:W.cell? ⟨w.heap.size+1,1,none⟩=some (.string qs):=by simp[World.cell?,k3]
    have ON:W.cell? ⟨w.heap.size+1,2,none⟩=some (.slice Aq lq cq):=by simp[World.cell?,k3]
    dsimp only[cR.kp] at bX⊢;have x0:W.cell? ⟨Bx,0,none⟩=some (.string (E x.1).p):=by simp[World.cell?,bX]
    have x1:W.cell? ⟨Bx,1,none⟩=some (.slice (E x.1).a1 (E x.1).l1 (E x.1).c1):=by simp[World.cell?,bX]
    have x2:W.cell? ⟨Bx,2,none⟩=some (.slice (E x.1).a2 (E x.1).l2 (E x.1).c2):=by simp[World.cell?,bX]
    have x3:W.cell? ⟨Bx,3,none⟩=some (.int .i64 (E x.1).s):=by simp[World.cell?,bX]
    have x4:W.cell? ⟨Bx,4,none⟩=some (.slice (E x.1).a3 (E x.1).l3 (E x.1).c3):=by simp[World.cell?,bX]
    have x5:W.cell? ⟨Bx,5,none⟩=some (.string (E x.1).b):=by simp[World.cell?,bX]
    have x6:W.cell? ⟨Bx,6,none⟩=some (.int .i64 (E x.1).t):=by simp[World.cell?,bX]
    gi_wp2;have tL:Tryz.prog.follows .mixedOrders=true:=by kernel_rfl
    obtain⟨V,hV⟩:∃V,W.alloc (.cells #[.string (E x.1).p,.slice (E x.1).a1 (E x.1).l1 (E x.1).c1,.slice (E x.1).a2 (E x.1).l2 (E x.1).c2,.int .i64 (E x.1).s,.slice (E x.1).a3 (E x.1).l3 (E x.1).c3,.string (E x.1).b,.int .i64 (E x.1).t] 31)=V:=⟨_,rfl⟩;rw[hV];have bV:Below W.heap.size W V:=by rw[<-hV];exact(Below.refl _ W).alloc (dz _) _
    have hVn:V.heap[W.heap.size]?=some (.cells (E x.1).ob 31):=by rw[<-hV];exact vK _ _ rfl
    have P9:KeepsOthers W V:=by rw[<-hV];exact KeepsOthers.alloc _ _
    have hVz:V.heap.size=W.heap.size+1:=by rw[<-hV];simp
    clear hV
    have hl:∀(U:World),Below V.heap.size V U->U.cell? ⟨w.heap.size,0,none⟩=some (.pointer (some ⟨g,o,none⟩))/\U.cell? ⟨g,o+3,none⟩=some (.slice Ab lb cb)/\U.cell? ⟨w.heap.size+1,1,none⟩=some (.string qs)/\U.cell? ⟨w.heap.size+1,2,none⟩=some (.slice Aq lq cq)/\
        U.cell? ⟨W.heap.size,0,none⟩=some (.string (E x.1).p)/\U.cell? ⟨W.heap.size,1,none⟩=some (.slice (E x.1).a1 (E x.1).l1 (E x.1).c1)/\U.cell? ⟨W.heap.size,2,none⟩=some (.slice (E x.1).a2 (E x.1).l2 (E x.1).c2)/\U.cell? ⟨W.heap.size,3,none⟩=some (.int .i64 (E x.1).s)/\U.cell? ⟨W.heap.size,4,none⟩=some (.slice (E x.1).a3 (E x.1).l3 (E x.1).c3)/\U.cell? ⟨W.heap.size,5,none⟩=some (.string (E x.1).b)/\U.cell? ⟨W.heap.size,6,none⟩=some (.int .i64 (E x.1).t):=by intro U hU;have o1:∀a v,a.block<W.heap.size->W.cell? a=some v->U.cell? a=some v:=λa v ha h=>(hU.cell (p:=a) (by omega)).trans ((bV.cell (p:=a) ha).trans h);have o2:U.heap[W.heap.size]?=some (.cells (E x.1).ob 31):=(hU.block _ (by omega)).trans hVn;refine⟨o1 ⟨w.heap.size,0,none⟩ _ (by show w.heap.size<W.heap.size;omega) e2,o1 ⟨g,o+3,none⟩ _ (by show g<W.heap.size;omega) hbW,o1 ⟨w.heap.size+1,1,none⟩ _ (by show w.heap.size+1<W.heap.size;omega) e3,o1 ⟨w.heap.size+1,2,none⟩ _ (by show w.heap.size+1<W.heap.size;omega) ON,?_,?_,?_,?_,?_,?_,?_⟩<;>simp[World.cell?,o2,cR.ob]
    obtain⟨v1,v2,v3,v4,v5,v6,v7,v8,v9,v10,v11⟩:=hl V (Below.refl _ _);have wg:Below w.heap.size w V:=JL.trans (bV.mono JL.size);have bJ:Below V.heap.size V V.drew/\KeepsOthers V V.drew:=⟨VR V,⟨dz _,λk o hk _=>hk⟩⟩;clear v1 v2 v3 v4 v5 v6 v7 v8 v9 v10 v11 e2 e3 ON x0 x1 x2 x3 x4 x5 x6 hbW k2 k3 Eo Jl hc;refine M.aep (S:=λU=>Below V.heap.size V U/\KeepsOthers V U) tL (by kernel_rfl) (N:=23) rfl ?_;change wpAnyH _ _ _ _ _ 23 #[false,false,false,false,false,false,false,false,false,false,false,false,false,false,false,false,false,false,false,false,false,false,false] _ _
    have DM:∀U,(Below V.heap.size V U/\KeepsOthers V U)->¬((E x.1).p=qs/\pS x.1=true/\pH x.1=false)->
        KeepsFrom W0.heap.size W U/\Below W0.heap.size W U/\((∀y∈pre++[x],¬((E y.1).p=qs/\pS y.1=true/\pH y.1=false))/\Below W0.heap.size W0 U):=by intro U hU hn;have h1:Below W0.heap.size W U:=(bV.mono Qu).trans (hU.1.mono (by omega));exact⟨(P9.trans hU.2).from _,h1,λy hy=>(dX.1 hy).elim (hi1 y) (λe=>by simp at e;subst e;exact hn),hi2.trans h1⟩
    by_cases hp:(E x.1).p=qs
    · have hd0:(E x.1).p.toList=qs.toList:=by rw[hp]
      have hd1:((E x.1).p.toList==qs.toList)=true:=by simpa using hd0
      have hd2:decide ((E x.1).p.toList=qs.toList)=true:=by simpa using hd0
      cases hs:pS x.1 with
      |false=>
        refine M.aV (i:=0) (v:=.pointer (some ⟨W.heap.size,0,none⟩)) (aT:= #[true,false,false,false,false,false,false,false,false,false,false,false,false,false,false,false,false,false,false,false,false,false,false]) rfl (by kernel_rfl) (by kernel_rfl) (by kernel_rfl) (λ_ _ _ h=>h) rfl rfl bJ (Or.inl ⟨by rfl,?_⟩) ?_
        · intro U hU;obtain⟨u1,u2,u3,u4,u5,u6,u7,u8,u9,bM,bN⟩:=hl U hU.1;clear hl hS hH hC;go_simp
        simp only[List.setIfInBounds_toArray,aP,aQ]
        refine M.aV (i:=1) (v:=.string (E x.1).p) (aT:= #[true,true,false,false,false,false,false,false,false,false,false,false,false,false,false,false,false,false,false,false,false,false,false]) rfl (by kernel_rfl) (by kernel_rfl) (by kernel_rfl) (λ_ _ _ h=>h) rfl rfl bJ (Or.inl ⟨by rfl,?_⟩) ?_
        · intro U hU;obtain⟨u1,u2,u3,u4,u5,u6,u7,u8,u9,bM,bN⟩:=hl U hU.1;clear hl hS hH hC;go_simp
        simp only[List.setIfInBounds_toArray,aP,aQ]
        refine M.aV (i:=2) (v:=.pointer (some ⟨w.heap.size+1,1,none⟩)) (aT:= #[true,true,true,false,false,false,false,false,false,false,false,false,false,false,false,false,false,false,false,false,false,false,false]) rfl (by kernel_rfl) (by kernel_rfl) (by kernel_rfl) (λ_ _ _ h=>h) rfl rfl bJ (Or.inl ⟨by rfl,?_⟩) ?_
        · intro U hU;obtain⟨u1,u2,u3,u4,u5,u6,u7,u8,u9,bM,bN⟩:=hl U hU.1;clear hl hS hH hC;go_simp
        simp only[List.setIfInBounds_toArray,aP,aQ]
        refine M.aV (i:=3) (v:=.string qs) (aT:= #[true,true,true,true,false,false,false,false,false,false,false,false,false,false,false,false,false,false,false,false,false,false,false]) rfl (by kernel_rfl) (by kernel_rfl) (by kernel_rfl) (λ_ _ _ h=>h) rfl rfl bJ (Or.inl ⟨by rfl,?_⟩) ?_
        · intro U hU;obtain⟨u1,u2,u3,u4,u5,u6,u7,u8,u9,bM,bN⟩:=hl U hU.1;clear hl hS hH hC;go_simp
        simp only[List.setIfInBounds_toArray,aP,aQ]
        refine M.aV (i:=4) (v:=.bool true) (aT:= #[true,true,true,true,true,false,false,false,false,false,false,false,false,false,false,false,false,false,false,false,false,false,false]) rfl (by kernel_rfl) (by kernel_rfl) (by kernel_rfl) (λ_ _ _ h=>h) rfl rfl bJ (Or.inl ⟨by rfl,?_⟩) ?_
        · intro U hU;obtain⟨u1,u2,u3,u4,u5,u6,u7,u8,u9,bM,bN⟩:=hl U hU.1;clear hl hS hH hC;go_simp
        simp only[List.setIfInBounds_toArray,aP,aQ]
        refine M.aV (i:=5) (v:=.bool true) (aT:= #[true,true,true,true,true,true,false,false,false,false,false,false,false,false,false,false,false,false,false,false,false,false,false]) rfl (by kernel_rfl) (by kernel_rfl) (by kernel_rfl) (λ_ _ _ h=>h) rfl rfl bJ (Or.inl ⟨by rfl,?_⟩) ?_
        · intro U hU;obtain⟨u1,u2,u3,u4,u5,u6,u7,u8,u9,bM,bN⟩:=hl U hU.1;clear hl hS hH hC;go_simp
        simp only[List.setIfInBounds_toArray,aP,aQ]
        refine M.aV (i:=6) (v:=.pointer (some ⟨W.heap.size,1,none⟩)) (aT:= #[true,true,true,true,true,true,true,false,false,false,false,false,false,false,false,false,false,false,false,false,false,false,false]) rfl (by kernel_rfl) (by kernel_rfl) (by kernel_rfl) (λ_ _ _ h=>h) rfl rfl bJ (Or.inl ⟨by rfl,?_⟩) ?_
        · intro U hU;obtain⟨u1,u2,u3,u4,u5,u6,u7,u8,u9,bM,bN⟩:=hl U hU.1;clear hl hS hH hC;go_simp
        simp only[List.setIfInBounds_toArray,aP,aQ]
        refine M.aV (i:=7) (v:=.slice (E x.1).a1 (E x.1).l1 (E x.1).c1) (aT:= #[true,true,true,true,true,true,true,true,false,false,false,false,false,false,false,false,false,false,false,false,false,false,false]) rfl (by kernel_rfl) (by kernel_rfl) (by kernel_rfl) (λ_ _ _ h=>h) rfl rfl bJ (Or.inl ⟨by rfl,?_⟩) ?_
        · intro U hU;obtain⟨u1,u2,u3,u4,u5,u6,u7,u8,u9,bM,bN⟩:=hl U hU.1;clear hl hS hH hC;go_simp
        simp only[List.setIfInBounds_toArray,aP,aQ]
        refine M.aV (i:=8) (v:=.pointer (some ⟨W.heap.size,2,none⟩)) (aT:= #[true,true,true,true,true,true,true,true,true,false,false,false,false,false,false,false,false,false,false,false,false,false,false]) rfl (by kernel_rfl) (by kernel_rfl) (by kernel_rfl) (λ_ _ _ h=>h) rfl rfl bJ (Or.inl ⟨by rfl,?_⟩) ?_
        · intro U hU;obtain⟨u1,u2,u3,u4,u5,u6,u7,u8,u9,bM,bN⟩:=hl U hU.1;clear hl hS hH hC;go_simp
        simp only[List.setIfInBounds_toArray,aP,aQ]
        refine M.aV (i:=9) (v:=.slice (E x.1).a2 (E x.1).l2 (E x.1).c2) (aT:= #[true,true,true,true,true,true,true,true,true,true,false,false,false,false,false,false,false,false,false,false,false,false,false]) rfl (by kernel_rfl) (by kernel_rfl) (by kernel_rfl) (λ_ _ _ h=>h) rfl rfl bJ (Or.inl ⟨by rfl,?_⟩) ?_
        · intro U hU;obtain⟨u1,u2,u3,u4,u5,u6,u7,u8,u9,bM,bN⟩:=hl U hU.1;clear hl hS hH hC;go_simp
        simp only[List.setIfInBounds_toArray,aP,aQ]
        refine M.aV (i:=10) (v:=.pointer (some ⟨w.heap.size+1,2,none⟩)) (aT:= #[true,true,true,true,true,true,true,true,true,true,true,false,false,false,false,false,false,false,false,false,false,false,false]) rfl (by kernel_rfl) (by kernel_rfl) (by kernel_rfl) (λ_ _ _ h=>h) rfl rfl bJ (Or.inl ⟨by rfl,?_⟩) ?_
        · intro U hU;obtain⟨u1,u2,u3,u4,u5,u6,u7,u8,u9,bM,bN⟩:=hl U hU.1;clear hl hS hH hC;go_simp
        simp only[List.setIfInBounds_toArray,aP,aQ]
        refine M.aV (i:=11) (v:=.slice Aq lq cq) (aT:= #[true,true,true,true,true,true,true,true,true,true,true,true,false,false,false,false,false,false,false,false,false,false,false]) rfl (by kernel_rfl) (by kernel_rfl) (by kernel_rfl) (λ_ _ _ h=>h) rfl rfl bJ (Or.inl ⟨by rfl,?_⟩) ?_
        · intro U hU;obtain⟨u1,u2,u3,u4,u5,u6,u7,u8,u9,bM,bN⟩:=hl U hU.1;clear hl hS hH hC;go_simp
        simp only[List.setIfInBounds_toArray,aP,aQ]
        refine wpAnyH_ready (rs:=[12]) (by kernel_rfl) (by simp) ?_
        refine AllReadyH.cons rfl (λK' gQ=>?_) AllReadyH.nil
        go_simp
        go_at_call 29
        refine(hS x.1 hx _ (wg.trans (bJ.1.mono (by omega)))).mono ?_
        rintro e U1 ⟨rfl,iG⟩
        have dG:=zo bJ iG
        rw[hs]
        refine gQ.out _ _ dG (λ_=>?_)
        clear gQ
        change wpAnyH _ _ _ _ _ 10 #[true,true,true,true,true,true,true,true,true,true,true,true,true,false,false,false,false,false,false,false,false,false,false] _ _
        try simp only[Act.put,List.setIfInBounds_toArray,aP,aQ]
        refine M.aV (i:=13) (v:=.bool false) (aT:= #[true,true,true,true,true,true,true,true,true,true,true,true,true,true,false,false,false,false,false,false,false,false,false]) rfl (by kernel_rfl) (by kernel_rfl) (by kernel_rfl) (λ_ _ _ h=>h) rfl rfl dG (Or.inl ⟨by rfl,?_⟩) ?_
        · intro U hU;obtain⟨u1,u2,u3,u4,u5,u6,u7,u8,u9,bM,bN⟩:=hl U hU.1;clear hl hS hH hC;go_simp
        simp only[List.setIfInBounds_toArray,aP,aQ]
        refine M.aV (i:=14) (v:=.bool false) (aT:= #[true,true,true,true,true,true,true,true,true,true,true,true,true,true,true,false,false,false,false,false,false,false,false]) rfl (by kernel_rfl) (by kernel_rfl) (by kernel_rfl) (λ_ _ _ h=>h) rfl rfl dG (Or.inl ⟨by rfl,?_⟩) ?_
        · intro U hU;obtain⟨u1,u2,u3,u4,u5,u6,u7,u8,u9,bM,bN⟩:=hl U hU.1;clear hl hS hH hC;go_simp
        simp only[List.setIfInBounds_toArray,aP,aQ]
        refine M.aV (i:=15) (v:=undef) (aT:= #[true,true,true,true,true,true,true,true,true,true,true,true,true,true,true,true,false,false,false,false,false,false,false]) rfl (by kernel_rfl) (by kernel_rfl) (by kernel_rfl) (λ_ _ _ h=>h) rfl rfl dG (Or.inr ⟨by rfl,rfl⟩) ?_
        simp only[List.setIfInBounds_toArray,aP,aQ]
        refine M.aV (i:=16) (v:=undef) (aT:= #[true,true,true,true,true,true,true,true,true,true,true,true,true,true,true,true,true,false,false,false,false,false,false]) rfl (by kernel_rfl) (by kernel_rfl) (by kernel_rfl) (λ_ _ _ h=>h) rfl rfl dG (Or.inr ⟨by rfl,rfl⟩) ?_
        simp only[List.setIfInBounds_toArray,aP,aQ]
        refine M.aV (i:=17) (v:=undef) (aT:= #[true,true,true,true,true,true,true,true,true,true,true,true,true,true,true,true,true,true,false,false,false,false,false]) rfl (by kernel_rfl) (by kernel_rfl) (by kernel_rfl) (λ_ _ _ h=>h) rfl rfl dG (Or.inr ⟨by rfl,rfl⟩) ?_
        simp only[List.setIfInBounds_toArray,aP,aQ]
        refine M.aV (i:=18) (v:=undef) (aT:= #[true,true,true,true,true,true,true,true,true,true,true,true,true,true,true,true,true,true,true,false,false,false,false]) rfl (by kernel_rfl) (by kernel_rfl) (by kernel_rfl) (λ_ _ _ h=>h) rfl rfl dG (Or.inr ⟨by rfl,rfl⟩) ?_
        simp only[List.setIfInBounds_toArray,aP,aQ]
        refine M.aV (i:=19) (v:=undef) (aT:= #[true,true,true,true,true,true,true,true,true,true,true,true,true,true,true,true,true,true,true,true,false,false,false]) rfl (by kernel_rfl) (by kernel_rfl) (by kernel_rfl) (λ_ _ _ h=>h) rfl rfl dG (Or.inr ⟨by rfl,rfl⟩) ?_
        simp only[List.setIfInBounds_toArray,aP,aQ]
        refine M.aV (i:=20) (v:=undef) (aT:= #[true,true,true,true,true,true,true,true,true,true,true,true,true,true,true,true,true,true,true,true,true,false,false]) rfl (by kernel_rfl) (by kernel_rfl) (by kernel_rfl) (λ_ _ _ h=>h) rfl rfl dG (Or.inr ⟨by rfl,rfl⟩) ?_
        simp only[List.setIfInBounds_toArray,aP,aQ]
        refine M.aV (i:=21) (v:=undef) (aT:= #[true,true,true,true,true,true,true,true,true,true,true,true,true,true,true,true,true,true,true,true,true,true,false]) rfl (by kernel_rfl) (by kernel_rfl) (by kernel_rfl) (λ_ _ _ h=>h) rfl rfl dG (Or.inr ⟨by rfl,rfl⟩) ?_
        simp only[List.setIfInBounds_toArray,aP,aQ]
        refine M.aV (i:=22) (v:=.bool false) (aT:= #[true,true,true,true,true,true,true,true,true,true,true,true,true,true,true,true,true,true,true,true,true,true,true]) rfl (by kernel_rfl) (by kernel_rfl) (by kernel_rfl) (λ_ _ _ h=>h) rfl rfl dG (Or.inl ⟨by rfl,?_⟩) ?_
        · intro U hU;obtain⟨u1,u2,u3,u4,u5,u6,u7,u8,u9,bM,bN⟩:=hl U hU.1;clear hl hS hH hC;go_simp
        simp only[List.setIfInBounds_toArray,aP,aQ]
        refine wpAnyH_done (by kernel_rfl) ?_ _
        dsimp only[M.atEnd]
        gi_wp2
        exact DM _ dG (λh=>by rw[hs] at h;cases h.2.1)
      |true=>
        cases hh:pH x.1 with
        |true=>
          refine M.aV (i:=0) (v:=.pointer (some ⟨W.heap.size,0,none⟩)) (aT:= #[true,false,false,false,false,false,false,false,false,false,false,false,false,false,false,false,false,false,false,false,false,false,false]) rfl (by kernel_rfl) (by kernel_rfl) (by kernel_rfl) (λ_ _ _ h=>h) rfl rfl bJ (Or.inl ⟨by rfl,?_⟩) ?_
          · intro U hU;obtain⟨u1,u2,u3,u4,u5,u6,u7,u8,u9,bM,bN⟩:=hl U hU.1;clear hl hS hH hC;go_simp
          simp only[List.setIfInBounds_toArray,aP,aQ]
          refine M.aV (i:=1) (v:=.string (E x.1).p) (aT:= #[true,true,false,false,false,false,false,false,false,false,false,false,false,false,false,false,false,false,false,false,false,false,false]) rfl (by kernel_rfl) (by kernel_rfl) (by kernel_rfl) (λ_ _ _ h=>h) rfl rfl bJ (Or.inl ⟨by rfl,?_⟩) ?_
          · intro U hU;obtain⟨u1,u2,u3,u4,u5,u6,u7,u8,u9,bM,bN⟩:=hl U hU.1;clear hl hS hH hC;go_simp
          simp only[List.setIfInBounds_toArray,aP,aQ]
          refine M.aV (i:=2) (v:=.pointer (some ⟨w.heap.size+1,1,none⟩)) (aT:= #[true,true,true,false,false,false,false,false,false,false,false,false,false,false,false,false,false,false,false,false,false,false,false]) rfl (by kernel_rfl) (by kernel_rfl) (by kernel_rfl) (λ_ _ _ h=>h) rfl rfl bJ (Or.inl ⟨by rfl,?_⟩) ?_
          · intro U hU;obtain⟨u1,u2,u3,u4,u5,u6,u7,u8,u9,bM,bN⟩:=hl U hU.1;clear hl hS hH hC;go_simp
          simp only[List.setIfInBounds_toArray,aP,aQ]
          refine M.aV (i:=3) (v:=.string qs) (aT:= #[true,true,true,true,false,false,false,false,false,false,false,false,false,false,false,false,false,false,false,false,false,false,false]) rfl (by kernel_rfl) (by kernel_rfl) (by kernel_rfl) (λ_ _ _ h=>h) rfl rfl bJ (Or.inl ⟨by rfl,?_⟩) ?_
          · intro U hU;obtain⟨u1,u2,u3,u4,u5,u6,u7,u8,u9,bM,bN⟩:=hl U hU.1;clear hl hS hH hC;go_simp
          simp only[List.setIfInBounds_toArray,aP,aQ]
          refine M.aV (i:=4) (v:=.bool true) (aT:= #[true,true,true,true,true,false,false,false,false,false,false,false,false,false,false,false,false,false,false,false,false,false,false]) rfl (by kernel_rfl) (by kernel_rfl) (by kernel_rfl) (λ_ _ _ h=>h) rfl rfl bJ (Or.inl ⟨by rfl,?_⟩) ?_
          · intro U hU;obtain⟨u1,u2,u3,u4,u5,u6,u7,u8,u9,bM,bN⟩:=hl U hU.1;clear hl hS hH hC;go_simp
          simp only[List.setIfInBounds_toArray,aP,aQ]
          refine M.aV (i:=5) (v:=.bool true) (aT:= #[true,true,true,true,true,true,false,false,false,false,false,false,false,false,false,false,false,false,false,false,false,false,false]) rfl (by kernel_rfl) (by kernel_rfl) (by kernel_rfl) (λ_ _ _ h=>h) rfl rfl bJ (Or.inl ⟨by rfl,?_⟩) ?_
          · intro U hU;obtain⟨u1,u2,u3,u4,u5,u6,u7,u8,u9,bM,bN⟩:=hl U hU.1;clear hl hS hH hC;go_simp
          simp only[List.setIfInBounds_toArray,aP,aQ]
          refine M.aV (i:=6) (v:=.pointer (some ⟨W.heap.size,1,none⟩)) (aT:= #[true,true,true,true,true,true,true,false,false,false,false,false,false,false,false,false,false,false,false,false,false,false,false]) rfl (by kernel_rfl) (by kernel_rfl) (by kernel_rfl) (λ_ _ _ h=>h) rfl rfl bJ (Or.inl ⟨by rfl,?_⟩) ?_
          · intro U hU;obtain⟨u1,u2,u3,u4,u5,u6,u7,u8,u9,bM,bN⟩:=hl U hU.1;clear hl hS hH hC;go_simp
          simp only[List.setIfInBounds_toArray,aP,aQ]
          refine M.aV (i:=7) (v:=.slice (E x.1).a1 (E x.1).l1 (E x.1).c1) (aT:= #[true,true,true,true,true,true,true,true,false,false,false,false,false,false,false,false,false,false,false,false,false,false,false]) rfl (by kernel_rfl) (by kernel_rfl) (by kernel_rfl) (λ_ _ _ h=>h) rfl rfl bJ (Or.inl ⟨by rfl,?_⟩) ?_
          · intro U hU;obtain⟨u1,u2,u3,u4,u5,u6,u7,u8,u9,bM,bN⟩:=hl U hU.1;clear hl hS hH hC;go_simp
          simp only[List.setIfInBounds_toArray,aP,aQ]
          refine M.aV (i:=8) (v:=.pointer (some ⟨W.heap.size,2,none⟩)) (aT:= #[true,true,true,true,true,true,true,true,true,false,false,false,false,false,false,false,false,false,false,false,false,false,false]) rfl (by kernel_rfl) (by kernel_rfl) (by kernel_rfl) (λ_ _ _ h=>h) rfl rfl bJ (Or.inl ⟨by rfl,?_⟩) ?_
          · intro U hU;obtain⟨u1,u2,u3,u4,u5,u6,u7,u8,u9,bM,bN⟩:=hl U hU.1;clear hl hS hH hC;go_simp
          simp only[List.setIfInBounds_toArray,aP,aQ]
          refine M.aV (i:=9) (v:=.slice (E x.1).a2 (E x.1).l2 (E x.1).c2) (aT:= #[true,true,true,true,true,true,true,true,true,true,false,false,false,false,false,false,false,false,false,false,false,false,false]) rfl (by kernel_rfl) (by kernel_rfl) (by kernel_rfl) (λ_ _ _ h=>h) rfl rfl bJ (Or.inl ⟨by rfl,?_⟩) ?_
          · intro U hU;obtain⟨u1,u2,u3,u4,u5,u6,u7,u8,u9,bM,bN⟩:=hl U hU.1;clear hl hS hH hC;go_simp
          simp only[List.setIfInBounds_toArray,aP,aQ]
          refine M.aV (i:=10) (v:=.pointer (some ⟨w.heap.size+1,2,none⟩)) (aT:= #[true,true,true,true,true,true,true,true,true,true,true,false,false,false,false,false,false,false,false,false,false,false,false]) rfl (by kernel_rfl) (by kernel_rfl) (by kernel_rfl) (λ_ _ _ h=>h) rfl rfl bJ (Or.inl ⟨by rfl,?_⟩) ?_
          · intro U hU;obtain⟨u1,u2,u3,u4,u5,u6,u7,u8,u9,bM,bN⟩:=hl U hU.1;clear hl hS hH hC;go_simp
          simp only[List.setIfInBounds_toArray,aP,aQ]
          refine M.aV (i:=11) (v:=.slice Aq lq cq) (aT:= #[true,true,true,true,true,true,true,true,true,true,true,true,false,false,false,false,false,false,false,false,false,false,false]) rfl (by kernel_rfl) (by kernel_rfl) (by kernel_rfl) (λ_ _ _ h=>h) rfl rfl bJ (Or.inl ⟨by rfl,?_⟩) ?_
          · intro U hU;obtain⟨u1,u2,u3,u4,u5,u6,u7,u8,u9,bM,bN⟩:=hl U hU.1;clear hl hS hH hC;go_simp
          simp only[List.setIfInBounds_toArray,aP,aQ]
          refine wpAnyH_ready (rs:=[12]) (by kernel_rfl) (by simp) ?_
          refine AllReadyH.cons rfl (λK' gQ=>?_) AllReadyH.nil
          go_simp
          go_at_call 29
          refine(hS x.1 hx _ (wg.trans (bJ.1.mono (by omega)))).mono ?_
          rintro e U1 ⟨rfl,iG⟩
          have dG:=zo bJ iG
          rw[hs]
          refine gQ.out _ _ dG (λ_=>?_)
          clear gQ
          change wpAnyH _ _ _ _ _ 10 #[true,true,true,true,true,true,true,true,true,true,true,true,true,false,false,false,false,false,false,false,false,false,false] _ _
          try simp only[Act.put,List.setIfInBounds_toArray,aP,aQ]
          refine M.aV (i:=13) (v:=.bool true) (aT:= #[true,true,true,true,true,true,true,true,true,true,true,true,true,true,false,false,false,false,false,false,false,false,false]) rfl (by kernel_rfl) (by kernel_rfl) (by kernel_rfl) (λ_ _ _ h=>h) rfl rfl dG (Or.inl ⟨by rfl,?_⟩) ?_
          · intro U hU;obtain⟨u1,u2,u3,u4,u5,u6,u7,u8,u9,bM,bN⟩:=hl U hU.1;clear hl hS hH hC;go_simp
          simp only[List.setIfInBounds_toArray,aP,aQ]
          refine M.aV (i:=14) (v:=.bool true) (aT:= #[true,true,true,true,true,true,true,true,true,true,true,true,true,true,true,false,false,false,false,false,false,false,false]) rfl (by kernel_rfl) (by kernel_rfl) (by kernel_rfl) (λ_ _ _ h=>h) rfl rfl dG (Or.inl ⟨by rfl,?_⟩) ?_
          · intro U hU;obtain⟨u1,u2,u3,u4,u5,u6,u7,u8,u9,bM,bN⟩:=hl U hU.1;clear hl hS hH hC;go_simp
          simp only[List.setIfInBounds_toArray,aP,aQ]
          refine M.aV (i:=15) (v:=.pointer (some ⟨g,o,none⟩)) (aT:= #[true,true,true,true,true,true,true,true,true,true,true,true,true,true,true,true,false,false,false,false,false,false,false]) rfl (by kernel_rfl) (by kernel_rfl) (by kernel_rfl) (λ_ _ _ h=>h) rfl rfl dG (Or.inl ⟨by rfl,?_⟩) ?_
          · intro U hU;obtain⟨u1,u2,u3,u4,u5,u6,u7,u8,u9,bM,bN⟩:=hl U hU.1;clear hl hS hH hC;go_simp
          simp only[List.setIfInBounds_toArray,aP,aQ]
          refine M.aV (i:=16) (v:=.pointer (some ⟨g,o,none⟩)) (aT:= #[true,true,true,true,true,true,true,true,true,true,true,true,true,true,true,true,true,false,false,false,false,false,false]) rfl (by kernel_rfl) (by kernel_rfl) (by kernel_rfl) (λ_ _ _ h=>h) rfl rfl dG (Or.inl ⟨by rfl,?_⟩) ?_
          · intro U hU;obtain⟨u1,u2,u3,u4,u5,u6,u7,u8,u9,bM,bN⟩:=hl U hU.1;clear hl hS hH hC;go_simp
          simp only[List.setIfInBounds_toArray,aP,aQ]
          refine M.aV (i:=17) (v:=.pointer (some ⟨g,o+3,none⟩)) (aT:= #[true,true,true,true,true,true,true,true,true,true,true,true,true,true,true,true,true,true,false,false,false,false,false]) rfl (by kernel_rfl) (by kernel_rfl) (by kernel_rfl) (λ_ _ _ h=>h) rfl rfl dG (Or.inl ⟨by rfl,?_⟩) ?_
          · intro U hU;obtain⟨u1,u2,u3,u4,u5,u6,u7,u8,u9,bM,bN⟩:=hl U hU.1;clear hl hS hH hC;go_simp
          simp only[List.setIfInBounds_toArray,aP,aQ]
          refine M.aV (i:=18) (v:=.slice Ab lb cb) (aT:= #[true,true,true,true,true,true,true,true,true,true,true,true,true,true,true,true,true,true,true,false,false,false,false]) rfl (by kernel_rfl) (by kernel_rfl) (by kernel_rfl) (λ_ _ _ h=>h) rfl rfl dG (Or.inl ⟨by rfl,?_⟩) ?_
          · intro U hU;obtain⟨u1,u2,u3,u4,u5,u6,u7,u8,u9,bM,bN⟩:=hl U hU.1;clear hl hS hH hC;go_simp
          simp only[List.setIfInBounds_toArray,aP,aQ]
          refine M.aV (i:=19) (v:=.agg (E x.1).ob) (aT:= #[true,true,true,true,true,true,true,true,true,true,true,true,true,true,true,true,true,true,true,true,false,false,false]) rfl (by kernel_rfl) (by kernel_rfl) (by kernel_rfl) (λ_ _ _ h=>h) rfl rfl dG (Or.inl ⟨by rfl,?_⟩) ?_
          · intro U hU;obtain⟨u1,u2,u3,u4,u5,u6,u7,u8,u9,bM,bN⟩:=hl U hU.1;clear hl hS hH hC;go_simp;unfold cR.ob;rw[hp]
          simp only[List.setIfInBounds_toArray,aP,aQ]
          refine wpAnyH_ready (rs:=[20]) (by kernel_rfl) (by simp) ?_
          refine AllReadyH.cons rfl (λK' gQ=>?_) AllReadyH.nil
          go_simp
          go_at_call 30
          refine(hH x.1 hx _ (wg.trans (dG.1.mono (by omega)))).mono ?_
          rintro e U2 ⟨rfl,gv⟩
          have kA:=zo dG gv
          rw[hh]
          refine gQ.out _ _ kA (λ_=>?_)
          clear gQ
          change wpAnyH _ _ _ _ _ 2 #[true,true,true,true,true,true,true,true,true,true,true,true,true,true,true,true,true,true,true,true,true,false,false] _ _
          try simp only[Act.put,List.setIfInBounds_toArray,aP,aQ]
          refine M.aV (i:=21) (v:=.bool false) (aT:= #[true,true,true,true,true,true,true,true,true,true,true,true,true,true,true,true,true,true,true,true,true,true,false]) rfl (by kernel_rfl) (by kernel_rfl) (by kernel_rfl) (λ_ _ _ h=>h) rfl rfl kA (Or.inl ⟨by rfl,?_⟩) ?_
          · intro U hU;obtain⟨u1,u2,u3,u4,u5,u6,u7,u8,u9,bM,bN⟩:=hl U hU.1;clear hl hS hH hC;go_simp
          simp only[List.setIfInBounds_toArray,aP,aQ]
          refine M.aV (i:=22) (v:=.bool false) (aT:= #[true,true,true,true,true,true,true,true,true,true,true,true,true,true,true,true,true,true,true,true,true,true,true]) rfl (by kernel_rfl) (by kernel_rfl) (by kernel_rfl) (λ_ _ _ h=>h) rfl rfl kA (Or.inl ⟨by rfl,?_⟩) ?_
          · intro U hU;obtain⟨u1,u2,u3,u4,u5,u6,u7,u8,u9,bM,bN⟩:=hl U hU.1;clear hl hS hH hC;go_simp
          simp only[List.setIfInBounds_toArray,aP,aQ]
          refine wpAnyH_done (by kernel_rfl) ?_ _
          dsimp only[M.atEnd]
          gi_wp2
          exact DM _ kA (λh=>by rw[hh] at h;cases h.2.2)
        |false=>
          refine M.aV (i:=0) (v:=.pointer (some ⟨W.heap.size,0,none⟩)) (aT:= #[true,false,false,false,false,false,false,false,false,false,false,false,false,false,false,false,false,false,false,false,false,false,false]) rfl (by kernel_rfl) (by kernel_rfl) (by kernel_rfl) (λ_ _ _ h=>h) rfl rfl bJ (Or.inl ⟨by rfl,?_⟩) ?_
          · intro U hU;obtain⟨u1,u2,u3,u4,u5,u6,u7,u8,u9,bM,bN⟩:=hl U hU.1;clear hl hS hH hC;go_simp
          simp only[List.setIfInBounds_toArray,aP,aQ]
          refine M.aV (i:=1) (v:=.string (E x.1).p) (aT:= #[true,true,false,false,false,false,false,false,false,false,false,false,false,false,false,false,false,false,false,false,false,false,false]) rfl (by kernel_rfl) (by kernel_rfl) (by kernel_rfl) (λ_ _ _ h=>h) rfl rfl bJ (Or.inl ⟨by rfl,?_⟩) ?_
          · intro U hU;obtain⟨u1,u2,u3,u4,u5,u6,u7,u8,u9,bM,bN⟩:=hl U hU.1;clear hl hS hH hC;go_simp
          simp only[List.setIfInBounds_toArray,aP,aQ]
          refine M.aV (i:=2) (v:=.pointer (some ⟨w.heap.size+1,1,none⟩)) (aT:= #[true,true,true,false,false,false,false,false,false,false,false,false,false,false,false,false,false,false,false,false,false,false,false]) rfl (by kernel_rfl) (by kernel_rfl) (by kernel_rfl) (λ_ _ _ h=>h) rfl rfl bJ (Or.inl ⟨by rfl,?_⟩) ?_
          · intro U hU;obtain⟨u1,u2,u3,u4,u5,u6,u7,u8,u9,bM,bN⟩:=hl U hU.1;clear hl hS hH hC;go_simp
          simp only[List.setIfInBounds_toArray,aP,aQ]
          refine M.aV (i:=3) (v:=.string qs) (aT:= #[true,true,true,true,false,false,false,false,false,false,false,false,false,false,false,false,false,false,false,false,false,false,false]) rfl (by kernel_rfl) (by kernel_rfl) (by kernel_rfl) (λ_ _ _ h=>h) rfl rfl bJ (Or.inl ⟨by rfl,?_⟩) ?_
          · intro U hU;obtain⟨u1,u2,u3,u4,u5,u6,u7,u8,u9,bM,bN⟩:=hl U hU.1;clear hl hS hH hC;go_simp
          simp only[List.setIfInBounds_toArray,aP,aQ]
          refine M.aV (i:=4) (v:=.bool true) (aT:= #[true,true,true,true,true,false,false,false,false,false,false,false,false,false,false,false,false,false,false,false,false,false,false]) rfl (by kernel_rfl) (by kernel_rfl) (by kernel_rfl) (λ_ _ _ h=>h) rfl rfl bJ (Or.inl ⟨by rfl,?_⟩) ?_
          · intro U hU;obtain⟨u1,u2,u3,u4,u5,u6,u7,u8,u9,bM,bN⟩:=hl U hU.1;clear hl hS hH hC;go_simp
          simp only[List.setIfInBounds_toArray,aP,aQ]
          refine M.aV (i:=5) (v:=.bool true) (aT:= #[true,true,true,true,true,true,false,false,false,false,false,false,false,false,false,false,false,false,false,false,false,false,false]) rfl (by kernel_rfl) (by kernel_rfl) (by kernel_rfl) (λ_ _ _ h=>h) rfl rfl bJ (Or.inl ⟨by rfl,?_⟩) ?_
          · intro U hU;obtain⟨u1,u2,u3,u4,u5,u6,u7,u8,u9,bM,bN⟩:=hl U hU.1;clear hl hS hH hC;go_simp
          simp only[List.setIfInBounds_toArray,aP,aQ]
          refine M.aV (i:=6) (v:=.pointer (some ⟨W.heap.size,1,none⟩)) (aT:= #[true,true,true,true,true,true,true,false,false,false,false,false,false,false,false,false,false,false,false,false,false,false,false]) rfl (by kernel_rfl) (by kernel_rfl) (by kernel_rfl) (λ_ _ _ h=>h) rfl rfl bJ (Or.inl ⟨by rfl,?_⟩) ?_
          · intro U hU;obtain⟨u1,u2,u3,u4,u5,u6,u7,u8,u9,bM,bN⟩:=hl U hU.1;clear hl hS hH hC;go_simp
          simp only[List.setIfInBounds_toArray,aP,aQ]
          refine M.aV (i:=7) (v:=.slice (E x.1).a1 (E x.1).l1 (E x.1).c1) (aT:= #[true,true,true,true,true,true,true,true,false,false,false,false,false,false,false,false,false,false,false,false,false,false,false]) rfl (by kernel_rfl) (by kernel_rfl) (by kernel_rfl) (λ_ _ _ h=>h) rfl rfl bJ (Or.inl ⟨by rfl,?_⟩) ?_
          · intro U hU;obtain⟨u1,u2,u3,u4,u5,u6,u7,u8,u9,bM,bN⟩:=hl U hU.1;clear hl hS hH hC;go_simp
          simp only[List.setIfInBounds_toArray,aP,aQ]
          refine M.aV (i:=8) (v:=.pointer (some ⟨W.heap.size,2,none⟩)) (aT:= #[true,true,true,true,true,true,true,true,true,false,false,false,false,false,false,false,false,false,false,false,false,false,false]) rfl (by kernel_rfl) (by kernel_rfl) (by kernel_rfl) (λ_ _ _ h=>h) rfl rfl bJ (Or.inl ⟨by rfl,?_⟩) ?_
          · intro U hU;obtain⟨u1,u2,u3,u4,u5,u6,u7,u8,u9,bM,bN⟩:=hl U hU.1;clear hl hS hH hC;go_simp
          simp only[List.setIfInBounds_toArray,aP,aQ]
          refine M.aV (i:=9) (v:=.slice (E x.1).a2 (E x.1).l2 (E x.1).c2) (aT:= #[true,true,true,true,true,true,true,true,true,true,false,false,false,false,false,false,false,false,false,false,false,false,false]) rfl (by kernel_rfl) (by kernel_rfl) (by kernel_rfl) (λ_ _ _ h=>h) rfl rfl bJ (Or.inl ⟨by rfl,?_⟩) ?_
          · intro U hU;obtain⟨u1,u2,u3,u4,u5,u6,u7,u8,u9,bM,bN⟩:=hl U hU.1;clear hl hS hH hC;go_simp
          simp only[List.setIfInBounds_toArray,aP,aQ]
          refine M.aV (i:=10) (v:=.pointer (some ⟨w.heap.size+1,2,none⟩)) (aT:= #[true,true,true,true,true,true,true,true,true,true,true,false,false,false,false,false,false,false,false,false,false,false,false]) rfl (by kernel_rfl) (by kernel_rfl) (by kernel_rfl) (λ_ _ _ h=>h) rfl rfl bJ (Or.inl ⟨by rfl,?_⟩) ?_
          · intro U hU;obtain⟨u1,u2,u3,u4,u5,u6,u7,u8,u9,bM,bN⟩:=hl U hU.1;clear hl hS hH hC;go_simp
          simp only[List.setIfInBounds_toArray,aP,aQ]
          refine M.aV (i:=11) (v:=.slice Aq lq cq) (aT:= #[true,true,true,true,true,true,true,true,true,true,true,true,false,false,false,false,false,false,false,false,false,false,false]) rfl (by kernel_rfl) (by kernel_rfl) (by kernel_rfl) (λ_ _ _ h=>h) rfl rfl bJ (Or.inl ⟨by rfl,?_⟩) ?_
          · intro U hU;obtain⟨u1,u2,u3,u4,u5,u6,u7,u8,u9,bM,bN⟩:=hl U hU.1;clear hl hS hH hC;go_simp
          simp only[List.setIfInBounds_toArray,aP,aQ]
          refine wpAnyH_ready (rs:=[12]) (by kernel_rfl) (by simp) ?_
          refine AllReadyH.cons rfl (λK' gQ=>?_) AllReadyH.nil
          go_simp
          go_at_call 29
          refine(hS x.1 hx _ (wg.trans (bJ.1.mono (by omega)))).mono ?_
          rintro e U1 ⟨rfl,iG⟩
          have dG:=zo bJ iG
          rw[hs]
          refine gQ.out _ _ dG (λ_=>?_)
          clear gQ
          change wpAnyH _ _ _ _ _ 10 #[true,true,true,true,true,true,true,true,true,true,true,true,true,false,false,false,false,false,false,false,false,false,false] _ _
          try simp only[Act.put,List.setIfInBounds_toArray,aP,aQ]
          refine M.aV (i:=13) (v:=.bool true) (aT:= #[true,true,true,true,true,true,true,true,true,true,true,true,true,true,false,false,false,false,false,false,false,false,false]) rfl (by kernel_rfl) (by kernel_rfl) (by kernel_rfl) (λ_ _ _ h=>h) rfl rfl dG (Or.inl ⟨by rfl,?_⟩) ?_
          · intro U hU;obtain⟨u1,u2,u3,u4,u5,u6,u7,u8,u9,bM,bN⟩:=hl U hU.1;clear hl hS hH hC;go_simp
          simp only[List.setIfInBounds_toArray,aP,aQ]
          refine M.aV (i:=14) (v:=.bool true) (aT:= #[true,true,true,true,true,true,true,true,true,true,true,true,true,true,true,false,false,false,false,false,false,false,false]) rfl (by kernel_rfl) (by kernel_rfl) (by kernel_rfl) (λ_ _ _ h=>h) rfl rfl dG (Or.inl ⟨by rfl,?_⟩) ?_
          · intro U hU;obtain⟨u1,u2,u3,u4,u5,u6,u7,u8,u9,bM,bN⟩:=hl U hU.1;clear hl hS hH hC;go_simp
          simp only[List.setIfInBounds_toArray,aP,aQ]
          refine M.aV (i:=15) (v:=.pointer (some ⟨g,o,none⟩)) (aT:= #[true,true,true,true,true,true,true,true,true,true,true,true,true,true,true,true,false,false,false,false,false,false,false]) rfl (by kernel_rfl) (by kernel_rfl) (by kernel_rfl) (λ_ _ _ h=>h) rfl rfl dG (Or.inl ⟨by rfl,?_⟩) ?_
          · intro U hU;obtain⟨u1,u2,u3,u4,u5,u6,u7,u8,u9,bM,bN⟩:=hl U hU.1;clear hl hS hH hC;go_simp
          simp only[List.setIfInBounds_toArray,aP,aQ]
          refine M.aV (i:=16) (v:=.pointer (some ⟨g,o,none⟩)) (aT:= #[true,true,true,true,true,true,true,true,true,true,true,true,true,true,true,true,true,false,false,false,false,false,false]) rfl (by kernel_rfl) (by kernel_rfl) (by kernel_rfl) (λ_ _ _ h=>h) rfl rfl dG (Or.inl ⟨by rfl,?_⟩) ?_
          · intro U hU;obtain⟨u1,u2,u3,u4,u5,u6,u7,u8,u9,bM,bN⟩:=hl U hU.1;clear hl hS hH hC;go_simp
          simp only[List.setIfInBounds_toArray,aP,aQ]
          refine M.aV (i:=17) (v:=.pointer (some ⟨g,o+3,none⟩)) (aT:= #[true,true,true,true,true,true,true,true,true,true,true,true,true,true,true,true,true,true,false,false,false,false,false]) rfl (by kernel_rfl) (by kernel_rfl) (by kernel_rfl) (λ_ _ _ h=>h) rfl rfl dG (Or.inl ⟨by rfl,?_⟩) ?_
          · intro U hU;obtain⟨u1,u2,u3,u4,u5,u6,u7,u8,u9,bM,bN⟩:=hl U hU.1;clear hl hS hH hC;go_simp
          simp only[List.setIfInBounds_toArray,aP,aQ]
          refine M.aV (i:=18) (v:=.slice Ab lb cb) (aT:= #[true,true,true,true,true,true,true,true,true,true,true,true,true,true,true,true,true,true,true,false,false,false,false]) rfl (by kernel_rfl) (by kernel_rfl) (by kernel_rfl) (λ_ _ _ h=>h) rfl rfl dG (Or.inl ⟨by rfl,?_⟩) ?_
          · intro U hU;obtain⟨u1,u2,u3,u4,u5,u6,u7,u8,u9,bM,bN⟩:=hl U hU.1;clear hl hS hH hC;go_simp
          simp only[List.setIfInBounds_toArray,aP,aQ]
          refine M.aV (i:=19) (v:=.agg (E x.1).ob) (aT:= #[true,true,true,true,true,true,true,true,true,true,true,true,true,true,true,true,true,true,true,true,false,false,false]) rfl (by kernel_rfl) (by kernel_rfl) (by kernel_rfl) (λ_ _ _ h=>h) rfl rfl dG (Or.inl ⟨by rfl,?_⟩) ?_
          · intro U hU;obtain⟨u1,u2,u3,u4,u5,u6,u7,u8,u9,bM,bN⟩:=hl U hU.1;clear hl hS hH hC;go_simp;unfold cR.ob;rw[hp]
          simp only[List.setIfInBounds_toArray,aP,aQ]
          refine wpAnyH_ready (rs:=[20]) (by kernel_rfl) (by simp) ?_
          refine AllReadyH.cons rfl (λK' gQ=>?_) AllReadyH.nil
          go_simp
          go_at_call 30
          refine(hH x.1 hx _ (wg.trans (dG.1.mono (by omega)))).mono ?_
          rintro e U2 ⟨rfl,gv⟩
          have kA:=zo dG gv
          rw[hh]
          refine gQ.out _ _ kA (λ_=>?_)
          clear gQ
          change wpAnyH _ _ _ _ _ 2 #[true,true,true,true,true,true,true,true,true,true,true,true,true,true,true,true,true,true,true,true,true,false,false] _ _
          try simp only[Act.put,List.setIfInBounds_toArray,aP,aQ]
          refine M.aV (i:=21) (v:=.bool true) (aT:= #[true,true,true,true,true,true,true,true,true,true,true,true,true,true,true,true,true,true,true,true,true,true,false]) rfl (by kernel_rfl) (by kernel_rfl) (by kernel_rfl) (λ_ _ _ h=>h) rfl rfl kA (Or.inl ⟨by rfl,?_⟩) ?_
          · intro U hU;obtain⟨u1,u2,u3,u4,u5,u6,u7,u8,u9,bM,bN⟩:=hl U hU.1;clear hl hS hH hC;go_simp
          simp only[List.setIfInBounds_toArray,aP,aQ]
          refine M.aV (i:=22) (v:=.bool true) (aT:= #[true,true,true,true,true,true,true,true,true,true,true,true,true,true,true,true,true,true,true,true,true,true,true]) rfl (by kernel_rfl) (by kernel_rfl) (by kernel_rfl) (λ_ _ _ h=>h) rfl rfl kA (Or.inl ⟨by rfl,?_⟩) ?_
          · intro U hU;obtain⟨u1,u2,u3,u4,u5,u6,u7,u8,u9,bM,bN⟩:=hl U hU.1;clear hl hS hH hC;go_simp
          simp only[List.setIfInBounds_toArray,aP,aQ]
          refine wpAnyH_done (by kernel_rfl) ?_ _
          dsimp only[M.atEnd]
          have D8:=hC x.1 hx
          unfold cR.ob at D8
          rw[hp] at D8
          have z4:∀U,Below U2.heap.size U2 U->(∀j v,(#[.string ⟨#[]⟩,.slice none 0 0,.slice none 0 0,.int .i64 0,.slice none 0 0,.string ⟨#[]⟩,.int .i64 0]:Array Value)[j]?=some v->U.cell? ⟨w.heap.size+1+1,j,none⟩=some v/\U.frozen? ⟨w.heap.size+1+1,j,none⟩=false)/\(U.cell? ⟨w.heap.size+1+1+1,0,none⟩=some (.bool false)/\U.frozen? ⟨w.heap.size+1+1+1,0,none⟩=false)/\
              U.heap[w.heap.size+1+1]?=some (.cells #[.string ⟨#[]⟩,.slice none 0 0,.slice none 0 0,.int .i64 0,.slice none 0 0,.string ⟨#[]⟩,.int .i64 0] 31)/\U.heap[w.heap.size+1+1+1]?=some (.cells #[.bool false] 4):=by
            intro U hU;have q:∀k,k<W0.heap.size->U.heap[k]?=W0.heap[k]?:=λk hk=>(hU.block k (by have:=kA.1.size;omega)).trans ((kA.1.block k (by omega)).trans ((bV.block k (by omega)).trans (hi2.block k hk)));have q4:=(q _ (by omega)).trans b4;have q5:=(q _ (by omega)).trans b5;refine⟨λj v h=>?_,?_,q4,q5⟩
            · constructor
              · simp only[World.cell?,q4]
                simpa using h
              · simp[World.frozen?,q4]
            · constructor
              · simp[World.cell?,q5]
              · simp[World.frozen?,q5]
          have Ep:=wg.trans (kA.1.mono (by omega))
          have akq:=kA.1.size
          obtain⟨_,_,_,_,g0,g1,g2,g3,g4,g5,g6⟩:=hl U2 kA.1
          have XO:∀(cd:Code),cd=Code.ret->∀(O:cR) (U3 U:World),Below U2.heap.size U2 U3->R x.1 O U2 U3->(∀b,b≠w.heap.size+1+1->b≠w.heap.size+1+1+1->U.heap[b]?=U3.heap[b]?)->U3.heap.size=U.heap.size->U.os=U3.os->U.tape=U3.tape->U.output=U3.output->
              U.heap[w.heap.size+1+1]?=some (.cells O.ob 31)->U.heap[w.heap.size+1+1+1]?=some (.cells #[.bool true] 4)->
              KeepsFrom W0.heap.size W U/\Below w.heap.size w U/\(cd=.ret/\∃pY x' O W1 W2,pre++[x]=pY++[x']/\(∀y∈pY,¬((E y.1).p=qs/\pS y.1=true/\pH y.1=false))/\((E x'.1).p=qs/\pS x'.1=true/\pH x'.1=false)/\Below w.heap.size w W1/\R x'.1 O W1 W2/\
                (∀b arr t fz,W1.heap.size<=b->W2.heap[b]?=some (.cells arr t fz)->U.heap[b]?=some (.cells arr t fz))/\
                U.heap[w.heap.size+1+1]?=some (.cells (cR.ob O) 31)/\U.heap[w.heap.size+1+1+1]?=some (.cells #[.bool true] 4)):=by
            intro cd hcd O U3 U n9 Jg Jt hh2 hh3 hh4 hh5 hh6 hh7;have Aa:=Ep.trans (n9.mono Ep.size);refine⟨⟨?_,?_⟩,⟨hh3.trans Aa.os,hh4.trans Aa.tape,hh5.trans Aa.output,by have:=Aa.size;omega,λk hk=>(Jt k (by omega) (by omega)).trans (Aa.block k hk)⟩,hcd,pre,x,O,U2,U3,rfl,hi1,⟨hp,hs,hh⟩,Ep,Jg,λb arr t fz hb h=>(Jt b (by omega) (by omega)).trans h,hh6,hh7⟩;· have:=n9.size;omega
            · intro k o' hk Eh hoc
              have hkW:=(gG.1 Eh).1
              exact(Jt k (by omega) (by omega)).trans ((n9.block k (by omega)).trans ((P9.trans kA.2).same k o' Eh hoc))
          clear hl hS hH hC DM hi1
          gi_wp2_with (refine⟨trivial,?_⟩;gi_at_call 178;refine(CallsIn.inRound l (callsIn_wide.2 (D8 U2 Ep))).mono ?_;rintro e U3 ⟨O,rfl,n9,Jg⟩;obtain⟨z1,⟨z2,z3⟩,z5,z6⟩:=z4 U3 n9;have y0:=z1 0 _ rfl;have y1:=z1 1 _ rfl;have y2:=z1 2 _ rfl;have y3:=z1 3 _ rfl;have y4:=z1 4 _ rfl;have y5:=z1 5 _ rfl;have y6:=z1 6 _ rfl;clear z4 z1 D8)
          refine XO _ rfl O U3 _ n9 Jg ?f1 ?f2 ?f3 ?f4 ?f5 ?f6 ?f7
          case f1=>
            intro b n1 n2
            rw[Below.heap_setCell _ _ _ b n2,Below.heap_setCell _ _ _ b n1,Below.heap_setCell _ _ _ b n1,Below.heap_setCell _ _ _ b n1,Below.heap_setCell _ _ _ b n1,Below.heap_setCell _ _ _ b n1,Below.heap_setCell _ _ _ b n1,Below.heap_setCell _ _ _ b n1]
          case f2=>rw[jx,jx,jx,jx,jx,jx,jx,jx]
          case f3=>simp only[O5]
          case f4=>simp only[O7]
          case f5=>simp only[O6]
          case f6=>
            rw[Below.heap_setCell _ _ _ _ (by show w.heap.size+1+1≠w.heap.size+1+1+1;omega)]
            exact jw _ (jw _ (jw _ (jw _ (jw _ (jw _ (jw _ z5))))))
          case f7=>
            refine jw (arr:= #[.bool false]) _ ?_
            have n:w.heap.size+1+1+1≠w.heap.size+1+1:=by omega
            rw[Below.heap_setCell _ _ _ _ n,Below.heap_setCell _ _ _ _ n,Below.heap_setCell _ _ _ _ n,Below.heap_setCell _ _ _ _ n,Below.heap_setCell _ _ _ _ n,Below.heap_setCell _ _ _ _ n,Below.heap_setCell _ _ _ _ n]
            exact z6
    · have hd0:¬(E x.1).p.toList=qs.toList:=λh=>hp (XI h)
      have hd1:((E x.1).p.toList==qs.toList)=false:=by simpa using hd0
      have hd2:decide ((E x.1).p.toList=qs.toList)=false:=by simpa using hd0
      refine M.aV (i:=0) (v:=.pointer (some ⟨W.heap.size,0,none⟩)) (aT:= #[true,false,false,false,false,false,false,false,false,false,false,false,false,false,false,false,false,false,false,false,false,false,false]) rfl (by kernel_rfl) (by kernel_rfl) (by kernel_rfl) (λ_ _ _ h=>h) rfl rfl bJ (Or.inl ⟨by rfl,?_⟩) ?_
      · intro U hU;obtain⟨u1,u2,u3,u4,u5,u6,u7,u8,u9,bM,bN⟩:=hl U hU.1;clear hl hS hH hC;go_simp
      simp only[List.setIfInBounds_toArray,aP,aQ]
      refine M.aV (i:=1) (v:=.string (E x.1).p) (aT:= #[true,true,false,false,false,false,false,false,false,false,false,false,false,false,false,false,false,false,false,false,false,false,false]) rfl (by kernel_rfl) (by kernel_rfl) (by kernel_rfl) (λ_ _ _ h=>h) rfl rfl bJ (Or.inl ⟨by rfl,?_⟩) ?_
      · intro U hU;obtain⟨u1,u2,u3,u4,u5,u6,u7,u8,u9,bM,bN⟩:=hl U hU.1;clear hl hS hH hC;go_simp
      simp only[List.setIfInBounds_toArray,aP,aQ]
      refine M.aV (i:=2) (v:=.pointer (some ⟨w.heap.size+1,1,none⟩)) (aT:= #[true,true,true,false,false,false,false,false,false,false,false,false,false,false,false,false,false,false,false,false,false,false,false]) rfl (by kernel_rfl) (by kernel_rfl) (by kernel_rfl) (λ_ _ _ h=>h) rfl rfl bJ (Or.inl ⟨by rfl,?_⟩) ?_
      · intro U hU;obtain⟨u1,u2,u3,u4,u5,u6,u7,u8,u9,bM,bN⟩:=hl U hU.1;clear hl hS hH hC;go_simp
      simp only[List.setIfInBounds_toArray,aP,aQ]
      refine M.aV (i:=3) (v:=.string qs) (aT:= #[true,true,true,true,false,false,false,false,false,false,false,false,false,false,false,false,false,false,false,false,false,false,false]) rfl (by kernel_rfl) (by kernel_rfl) (by kernel_rfl) (λ_ _ _ h=>h) rfl rfl bJ (Or.inl ⟨by rfl,?_⟩) ?_
      · intro U hU;obtain⟨u1,u2,u3,u4,u5,u6,u7,u8,u9,bM,bN⟩:=hl U hU.1;clear hl hS hH hC;go_simp
      simp only[List.setIfInBounds_toArray,aP,aQ]
      refine M.aV (i:=4) (v:=.bool false) (aT:= #[true,true,true,true,true,false,false,false,false,false,false,false,false,false,false,false,false,false,false,false,false,false,false]) rfl (by kernel_rfl) (by kernel_rfl) (by kernel_rfl) (λ_ _ _ h=>h) rfl rfl bJ (Or.inl ⟨by rfl,?_⟩) ?_
      · intro U hU;obtain⟨u1,u2,u3,u4,u5,u6,u7,u8,u9,bM,bN⟩:=hl U hU.1;clear hl hS hH hC;go_simp
      simp only[List.setIfInBounds_toArray,aP,aQ]
      refine M.aV (i:=5) (v:=.bool false) (aT:= #[true,true,true,true,true,true,false,false,false,false,false,false,false,false,false,false,false,false,false,false,false,false,false]) rfl (by kernel_rfl) (by kernel_rfl) (by kernel_rfl) (λ_ _ _ h=>h) rfl rfl bJ (Or.inl ⟨by rfl,?_⟩) ?_
      · intro U hU;obtain⟨u1,u2,u3,u4,u5,u6,u7,u8,u9,bM,bN⟩:=hl U hU.1;clear hl hS hH hC;go_simp
      simp only[List.setIfInBounds_toArray,aP,aQ]
      refine M.aV (i:=6) (v:=undef) (aT:= #[true,true,true,true,true,true,true,false,false,false,false,false,false,false,false,false,false,false,false,false,false,false,false]) rfl (by kernel_rfl) (by kernel_rfl) (by kernel_rfl) (λ_ _ _ h=>h) rfl rfl bJ (Or.inr ⟨by rfl,rfl⟩) ?_
      simp only[List.setIfInBounds_toArray,aP,aQ]
      refine M.aV (i:=7) (v:=undef) (aT:= #[true,true,true,true,true,true,true,true,false,false,false,false,false,false,false,false,false,false,false,false,false,false,false]) rfl (by kernel_rfl) (by kernel_rfl) (by kernel_rfl) (λ_ _ _ h=>h) rfl rfl bJ (Or.inr ⟨by rfl,rfl⟩) ?_
      simp only[List.setIfInBounds_toArray,aP,aQ]
      refine M.aV (i:=8) (v:=undef) (aT:= #[true,true,true,true,true,true,true,true,true,false,false,false,false,false,false,false,false,false,false,false,false,false,false]) rfl (by kernel_rfl) (by kernel_rfl) (by kernel_rfl) (λ_ _ _ h=>h) rfl rfl bJ (Or.inr ⟨by rfl,rfl⟩) ?_
      simp only[List.setIfInBounds_toArray,aP,aQ]
      refine M.aV (i:=9) (v:=undef) (aT:= #[true,true,true,true,true,true,true,true,true,true,false,false,false,false,false,false,false,false,false,false,false,false,false]) rfl (by kernel_rfl) (by kernel_rfl) (by kernel_rfl) (λ_ _ _ h=>h) rfl rfl bJ (Or.inr ⟨by rfl,rfl⟩) ?_
      simp only[List.setIfInBounds_toArray,aP,aQ]
      refine M.aV (i:=10) (v:=undef) (aT:= #[true,true,true,true,true,true,true,true,true,true,true,false,false,false,false,false,false,false,false,false,false,false,false]) rfl (by kernel_rfl) (by kernel_rfl) (by kernel_rfl) (λ_ _ _ h=>h) rfl rfl bJ (Or.inr ⟨by rfl,rfl⟩) ?_
      simp only[List.setIfInBounds_toArray,aP,aQ]
      refine M.aV (i:=11) (v:=undef) (aT:= #[true,true,true,true,true,true,true,true,true,true,true,true,false,false,false,false,false,false,false,false,false,false,false]) rfl (by kernel_rfl) (by kernel_rfl) (by kernel_rfl) (λ_ _ _ h=>h) rfl rfl bJ (Or.inr ⟨by rfl,rfl⟩) ?_
      simp only[List.setIfInBounds_toArray,aP,aQ]
      refine M.aV (i:=12) (v:=undef) (aT:= #[true,true,true,true,true,true,true,true,true,true,true,true,true,false,false,false,false,false,false,false,false,false,false]) rfl (by kernel_rfl) (by kernel_rfl) (by kernel_rfl) (λ_ _ _ h=>h) rfl rfl bJ (Or.inr ⟨by rfl,rfl⟩) ?_
      simp only[List.setIfInBounds_toArray,aP,aQ]
      refine M.aV (i:=13) (v:=.bool false) (aT:= #[true,true,true,true,true,true,true,true,true,true,true,true,true,true,false,false,false,false,false,false,false,false,false]) rfl (by kernel_rfl) (by kernel_rfl) (by kernel_rfl) (λ_ _ _ h=>h) rfl rfl bJ (Or.inl ⟨by rfl,?_⟩) ?_
      · intro U hU;obtain⟨u1,u2,u3,u4,u5,u6,u7,u8,u9,bM,bN⟩:=hl U hU.1;clear hl hS hH hC;go_simp
      simp only[List.setIfInBounds_toArray,aP,aQ]
      refine M.aV (i:=14) (v:=.bool false) (aT:= #[true,true,true,true,true,true,true,true,true,true,true,true,true,true,true,false,false,false,false,false,false,false,false]) rfl (by kernel_rfl) (by kernel_rfl) (by kernel_rfl) (λ_ _ _ h=>h) rfl rfl bJ (Or.inl ⟨by rfl,?_⟩) ?_
      · intro U hU;obtain⟨u1,u2,u3,u4,u5,u6,u7,u8,u9,bM,bN⟩:=hl U hU.1;clear hl hS hH hC;go_simp
      simp only[List.setIfInBounds_toArray,aP,aQ]
      refine M.aV (i:=15) (v:=undef) (aT:= #[true,true,true,true,true,true,true,true,true,true,true,true,true,true,true,true,false,false,false,false,false,false,false]) rfl (by kernel_rfl) (by kernel_rfl) (by kernel_rfl) (λ_ _ _ h=>h) rfl rfl bJ (Or.inr ⟨by rfl,rfl⟩) ?_
      simp only[List.setIfInBounds_toArray,aP,aQ]
      refine M.aV (i:=16) (v:=undef) (aT:= #[true,true,true,true,true,true,true,true,true,true,true,true,true,true,true,true,true,false,false,false,false,false,false]) rfl (by kernel_rfl) (by kernel_rfl) (by kernel_rfl) (λ_ _ _ h=>h) rfl rfl bJ (Or.inr ⟨by rfl,rfl⟩) ?_
      simp only[List.setIfInBounds_toArray,aP,aQ]
      refine M.aV (i:=17) (v:=undef) (aT:= #[true,true,true,true,true,true,true,true,true,true,true,true,true,true,true,true,true,true,false,false,false,false,false]) rfl (by kernel_rfl) (by kernel_rfl) (by kernel_rfl) (λ_ _ _ h=>h) rfl rfl bJ (Or.inr ⟨by rfl,rfl⟩) ?_
      simp only[List.setIfInBounds_toArray,aP,aQ]
      refine M.aV (i:=18) (v:=undef) (aT:= #[true,true,true,true,true,true,true,true,true,true,true,true,true,true,true,true,true,true,true,false,false,false,false]) rfl (by kernel_rfl) (by kernel_rfl) (by kernel_rfl) (λ_ _ _ h=>h) rfl rfl bJ (Or.inr ⟨by rfl,rfl⟩) ?_
      simp only[List.setIfInBounds_toArray,aP,aQ]
      refine M.aV (i:=19) (v:=undef) (aT:= #[true,true,true,true,true,true,true,true,true,true,true,true,true,true,true,true,true,true,true,true,false,false,false]) rfl (by kernel_rfl) (by kernel_rfl) (by kernel_rfl) (λ_ _ _ h=>h) rfl rfl bJ (Or.inr ⟨by rfl,rfl⟩) ?_
      simp only[List.setIfInBounds_toArray,aP,aQ]
      refine M.aV (i:=20) (v:=undef) (aT:= #[true,true,true,true,true,true,true,true,true,true,true,true,true,true,true,true,true,true,true,true,true,false,false]) rfl (by kernel_rfl) (by kernel_rfl) (by kernel_rfl) (λ_ _ _ h=>h) rfl rfl bJ (Or.inr ⟨by rfl,rfl⟩) ?_
      simp only[List.setIfInBounds_toArray,aP,aQ]
      refine M.aV (i:=21) (v:=undef) (aT:= #[true,true,true,true,true,true,true,true,true,true,true,true,true,true,true,true,true,true,true,true,true,true,false]) rfl (by kernel_rfl) (by kernel_rfl) (by kernel_rfl) (λ_ _ _ h=>h) rfl rfl bJ (Or.inr ⟨by rfl,rfl⟩) ?_
      simp only[List.setIfInBounds_toArray,aP,aQ]
      refine M.aV (i:=22) (v:=.bool false) (aT:= #[true,true,true,true,true,true,true,true,true,true,true,true,true,true,true,true,true,true,true,true,true,true,true]) rfl (by kernel_rfl) (by kernel_rfl) (by kernel_rfl) (λ_ _ _ h=>h) rfl rfl bJ (Or.inl ⟨by rfl,?_⟩) ?_
      · intro U hU;obtain⟨u1,u2,u3,u4,u5,u6,u7,u8,u9,bM,bN⟩:=hl U hU.1;clear hl hS hH hC;go_simp
      simp only[List.setIfInBounds_toArray,aP,aQ]
      refine wpAnyH_done (by kernel_rfl) ?_ _
      dsimp only[M.atEnd]
      gi_wp2
      exact DM _ bJ (λh=>hp h.1)
  case done=>
    rintro D ys W hD hys ⟨hi1,hi2⟩ hK;have Qu:=hi2.size;have q4:=(hi2.block _ (by omega)).trans b4;have q5:=(hi2.block _ (by omega)).trans b5;have y0:W.cell? ⟨w.heap.size+1+1,0,none⟩=some (.string ⟨#[]⟩):=by simp[World.cell?,q4]
    have y1:W.cell? ⟨w.heap.size+1+1,1,none⟩=some (.slice none 0 0):=by simp[World.cell?,q4]
    have y2:W.cell? ⟨w.heap.size+1+1,2,none⟩=some (.slice none 0 0):=by simp[World.cell?,q4]
    have y3:W.cell? ⟨w.heap.size+1+1,3,none⟩=some (.int .i64 0):=by simp[World.cell?,q4]
    have y4:W.cell? ⟨w.heap.size+1+1,4,none⟩=some (.slice none 0 0):=by simp[World.cell?,q4]
    have y5:W.cell? ⟨w.heap.size+1+1,5,none⟩=some (.string ⟨#[]⟩):=by simp[World.cell?,q4]
    have y6:W.cell? ⟨w.heap.size+1+1,6,none⟩=some (.int .i64 0):=by simp[World.cell?,q4]
    have y7:W.cell? ⟨w.heap.size+1+1+1,0,none⟩=some (.bool false):=by simp[World.cell?,q5]
    have f4:∀j,W.frozen? ⟨w.heap.size+1+1,j,none⟩=false:=by intro j;simp[World.frozen?,q4]
    have f5:W.frozen? ⟨w.heap.size+1+1+1,0,none⟩=false:=by simp[World.frozen?,q5]
    have g0:=f4 0;have g1:=f4 1;have g2:=f4 2;have g3:=f4 3;have g4:=f4 4;have g5:=f4 5;have g6:=f4 6;have hBW:Below w.heap.size w W:=Jb.trans (hi2.mono (by omega))
    have hall:∀i,i<len->¬((E i).p=qs/\pS i=true/\pH i=false):=by
      intro i hi;have hm:i∈ys.map Fin.val:=by rw[hys];simp only[kY,aU,nN];exact⟨len - 1 - i,by omega,by omega⟩
      obtain⟨y,hy,rfl⟩:=aU.1 hm;exact hi1 y hy
    clear hS hH hC hc hi1 hys f4;gi_wp2;have n4:D≠w.heap.size+1+1:=by omega
    have n5:D≠w.heap.size+1+1+1:=by omega
    obtain⟨U,hU⟩:∃U,((((((((W.setCell ⟨w.heap.size+1+1,0,none⟩ (.string ⟨#[]⟩)).setCell ⟨w.heap.size+1+1,1,none⟩ (.slice none 0 0)).setCell ⟨w.heap.size+1+1,2,none⟩ (.slice none 0 0)).setCell ⟨w.heap.size+1+1,3,none⟩ (.int .i64 0)).setCell ⟨w.heap.size+1+1,4,none⟩ (.slice none 0 0)).setCell ⟨w.heap.size+1+1,5,none⟩ (.string ⟨#[]⟩)).setCell ⟨w.heap.size+1+1,6,none⟩ (.int .i64 0)).setCell ⟨w.heap.size+1+1+1,0,none⟩ (.bool false))=U:=⟨_,rfl⟩;rw[hU];have r4:U.heap[w.heap.size+1+1]?=some (.cells vJ 31):=by rw[<-hU,Below.heap_setCell _ _ _ _ (by show w.heap.size+1+1≠w.heap.size+1+1+1;omega)];exact jw _ (jw _ (jw _ (jw _ (jw _ (jw _ (jw _ q4))))))
    have r5:U.heap[w.heap.size+1+1+1]?=some (.cells #[.bool false] 4):=by
      rw[<-hU];refine jw (arr:= #[.bool false]) _ ?_;have n:w.heap.size+1+1+1≠w.heap.size+1+1:=by omega
      rw[Below.heap_setCell _ _ _ _ n,Below.heap_setCell _ _ _ _ n,Below.heap_setCell _ _ _ _ n,Below.heap_setCell _ _ _ _ n,Below.heap_setCell _ _ _ _ n,Below.heap_setCell _ _ _ _ n,Below.heap_setCell _ _ _ _ n];exact q5
    have rD:∀b,b≠w.heap.size+1+1->b≠w.heap.size+1+1+1->U.heap[b]?=W.heap[b]?:=by intro b n1 n2;rw[<-hU,Below.heap_setCell _ _ _ b n2,Below.heap_setCell _ _ _ b n1,Below.heap_setCell _ _ _ b n1,Below.heap_setCell _ _ _ b n1,Below.heap_setCell _ _ _ b n1,Below.heap_setCell _ _ _ b n1,Below.heap_setCell _ _ _ b n1,Below.heap_setCell _ _ _ b n1]
    have hBU:Below w.heap.size w U:=by
      refine⟨?_,?_,?_,?_,λk hk=>(rD k (by omega) (by omega)).trans (hBW.block k hk)⟩;· rw[<-hU];simp only[O5];exact hBW.os
      · rw[<-hU];simp only[O7];exact hBW.tape
      · rw[<-hU];simp only[O6];exact hBW.output
      · rw[<-hU];rw[jx,jx,jx,jx,jx,jx,jx,jx];exact hBW.size
    have gQ:=(rD D n4 n5).trans hK;clear hU rD;refine⟨by simp,.inl ⟨_,_,rfl,run_takeDeferred gQ,?_⟩⟩;have k4:=(World.putObj_heap_other (o:=.deferred none) (show w.heap.size+1+1≠D by omega)).trans r4;have k5:=(World.putObj_heap_other (o:=.deferred none) (show w.heap.size+1+1+1≠D by omega)).trans r5;refine⟨.tuple #[.agg vJ,.bool false],?_,hBU.trans (belowK_b (w:=w) (dz _) U D _ _ (by omega) gQ rfl rfl),.inl ⟨rfl,hall⟩⟩;exact O4 (e:=cR.z) rfl rfl k4 k5
  case stop=>
    rintro D c pre W hD ⟨k,hk,hpre⟩ ⟨hB,rfl,pY,x,O,W1,W2,e1,e2,e3,e4,e5,e6,e7,e8⟩ hK;clear hS hH hC hc;gi_wp2;refine⟨by simp,.inl ⟨_,_,rfl,run_takeDeferred hK,?_⟩⟩;have k4:=(World.putObj_heap_other (o:=.deferred none) (show w.heap.size+1+1≠D by omega)).trans e7;have k5:=(World.putObj_heap_other (o:=.deferred none) (show w.heap.size+1+1+1≠D by omega)).trans e8
    have Jy:∀i',x.1<i'->i'<len->¬((E i').p=qs/\pS i'=true/\pH i'=false):=by
      intro i' h1 h2
      obtain⟨k',rfl⟩:∃k',k=k'+1:=by
        cases k with
        |zero=>rw[e1] at hpre;simp[kY] at hpre
        |succ k'=>exact⟨k',rfl⟩
      rw[e1,iA,IQ] at hpre;obtain⟨h3,h4⟩:=List.append_inj' hpre rfl;have h4:x.1=len - 1 - k':=by simpa using h4
      have hm:i'∈pY.map Fin.val:=by rw[h3];simp only[kY,aU,nN];exact⟨len - 1 - i',by omega,by omega⟩
      obtain⟨y,hy,rfl⟩:=aU.1 hm;exact e2 y hy
    refine⟨.tuple #[.agg O.ob,.bool true],?_,hB.trans (belowK_b (w:=w) (dz _) W D _ _ (by omega) hK rfl rfl),.inr ⟨x.1,O,W1,W2,x.2,rfl,e3,Jy,e4,e5,λb arr t fz hb h=>?_⟩⟩;· exact O4 rfl rfl k4 k5
    · refine(World.putObj_heap_other (o:=.deferred none) (λe=>?_)).trans (e6 b arr t fz hb h)
      subst e
      have:=e6 _ arr t fz hb h
      rw[hK] at this
      cases this
end Go.Proofs
namespace M
open Go
noncomputable def CX:cy:=iM (fN 96 (zq mE fL)) kq
@[reducible] def Kf:Lb:=⟨kq,λ_ _=>rfl⟩
@[reducible] noncomputable def fd1:Fd:={L:=CX,h:=λf hf=>by funext xs;simp[CX,iM,fN,hf],f:=λs q hs hq=>by simp only[CX,iM,fN,dr,XP mE fL s q hs hq];rfl}
def aiy[Bs](h0:kq.Sound Go.Proofs.Tryz.prog)(hT:TT.Ok Go.Proofs.Tryz.prog):CX.Sound Go.Proofs.Tryz.prog:=by
  have hs:(ev kq TT).Sound Go.Proofs.Tryz.prog:=XA h0 hT;refine uf (XS (fs:=29) (fh:=30) (fc:=178) (λns vs fl h1 h2 h3=>?_) (λl o h1 h2=>?_) (λo h=>?_) ?_) h0;· exact(hs _ _ _ (@NG Kf ns vs fl h1 h2 (by omega))).mono λr ps h=>h.1
  · exact(hs _ _ _ (@NC Kf l o h1 h2)).mono λr ps h=>h.1
  · exact(hs _ _ _ (@Wd Kf o h)).mono λr ps h=>h.1
  · intro g o A Ab Aq len cap lb cb lq cq qm qs qb E pS pH R w h1 h2 h3 h4 h5 h6 h7 h8
    exact Go.Proofs.XJ g o A Ab Aq len cap lb cb lq cq qm qs qb E pS pH R w h1 h2 h3 h4 h5 h6 h7 h8
end M
