/- Each function of the table is the program's, and the library is as it is said to be; no conditions. -/
import Derived.Test.YtaaeoialiegmeaaGreatDoorProg
import Derived.Test.YtaaeoialiegmeaaGreatDoorLay
import Derived.Test.YtaaeoialiegmeaaGreatDoorTab
import Derived.Test.YtaaeoialiegmeaaGreatDoorMc
import Derived.WalkKit
import Derived.Lib.FrozenHead
import Derived.Lib.OthersKept
import Derived.Lib.Builder
set_option linter.defProp false
set_option linter.unusedSectionVars false
set_option linter.unusedVariables false
set_option linter.unusedSimpArgs false
set_option maxRecDepth 100000
namespace Go.Proofs
open Go.RowKit
set_option maxHeartbeats 2000000 in
set_option maxRecDepth 100000 in
def VV(b:Nat)(w:World)(h0:w.cell? ⟨b,0,none⟩=some (.pointer (some ⟨b,0,none⟩))):
  Calls Tryz.prog 226 #[.pointer (some ⟨b,0,none⟩)] w λe w'=>e=.returned (.tuple #[])/\w'=w:=by obtain⟨j,hj,Eg⟩:=mJ.1 (show (Tryz.prog.info? 166).map (·.size)=some 2 by kernel_rfl);go_enter Tryz.func226,Tryz.ntmps226;go_wp2;rw[Lib.run_neq_ptr_same w _ Tryz.underlying164 hj];go_wp2;go_end0;exact⟨rfl,rfl⟩
set_option maxHeartbeats 2000000 in
set_option maxRecDepth 100000 in
def VU(b:Nat)(w:World)(h0:w.cell? ⟨b,0,none⟩=some (.pointer none))(hsh:w.shape? b=some (166,2))(hfz:w.frozen? ⟨b,0,none⟩=false):
  Calls Tryz.prog 226 #[.pointer (some ⟨b,0,none⟩)] w λe w'=>e=.returned (.tuple #[])/\w'=w.setCell ⟨b,0,none⟩ (.pointer (some ⟨b,0,none⟩)):=by obtain⟨j,hj,Eg⟩:=mJ.1 (show (Tryz.prog.info? 166).map (·.size)=some 2 by kernel_rfl);go_enter Tryz.func226,Tryz.ntmps226;go_wp2;rw[Lib.run_to_unsafe w ⟨b,0,none⟩ Tryz.underlying164 Tryz.underlying230 hj (by rw[Eg];decide) hsh (Nat.zero_lt_succ 1)];simp only[Result.andThen];rw[Oper.upon_value];go_wp2;rw[run_callFunc_extern Tryz.func258 (by kernel_rfl) (by kernel_rfl) (by kernel_rfl) (e:=Extern.AbiNoEscape.same) (by kernel_rfl)];rw[Lib.run_noEscape];simp only[Result.andThen];rw[Oper.upon_value];go_wp2;rw[Lib.run_from_unsafe w ⟨b,0,none⟩ Tryz.underlying230 Tryz.underlying164 hj hsh (by kernel_rfl)];simp only[Result.andThen];rw[Oper.upon_value];go_wp2;go_end0;exact⟨rfl,rfl⟩
def VT(B b:Nat)(bs:List Value)(w:World)(h:Lib.IsBuilderF 166 5 B b bs w):
  Calls Tryz.prog 226 #[.pointer (some ⟨b,0,none⟩)] w λe w'=>e=.returned (.tuple #[])/\(Lib.BuilderAtF 166 5 B b (.pointer (some ⟨b,0,none⟩)) bs w'/\Below B w w'):=by
 rcases h with h|h;·refine(VU b w h.cell0 h.shape h.frozen0).mono ?_;rintro e w' ⟨rfl,rfl⟩;exact⟨rfl,h.used _,(Below.refl B w).setCell (p:=⟨b,0,none⟩) h.1 _⟩
 ·refine(VV b w h.cell0).mono ?_;rintro e w' ⟨rfl,rfl⟩;exact⟨rfl,h,Below.refl B _⟩
set_option maxHeartbeats 2000000 in
set_option maxRecDepth 100000 in
def VW(B b:Nat)(bs:List Value)(s:ByteArray)(w:World)(h:Lib.IsBuilderF 166 5 B b bs w)(hlen:bs.length+s.size<=140737488355328)(hBw:B<=w.heap.size):
  Calls Tryz.prog 156 #[.pointer (some ⟨b,0,none⟩),.string s] w λe w'=>e=.returned (.tuple #[.int .i64 s.size,.nilIface])/\(Lib.BuilderAtF 166 5 B b (.pointer (some ⟨b,0,none⟩)) (bs++Lib.strCells s) w'/\Below B w w'):=by
 obtain⟨i0,hi,hz0,hz1,hz2⟩:=info_parts (P:=Tryz.prog) (e:=5) (z:=.int .u8 0) (size:=1) (bytes:=1) (by kernel_rfl);go_enter Tryz.func156,Tryz.ntmps156;go_wp2_with (go_at_call 226;refine(VT B b bs _ h).mono ?_);rintro e w1 ⟨rfl,h1,iG⟩;obtain⟨hB,v,hbk,hown,hne⟩:=h1;have c0:w1.cell? ⟨b,0,none⟩=some (.pointer (some ⟨b,0,none⟩)):=by rw[Lib.cell_of_heap hbk];rfl
 have c1:w1.cell? ⟨b,1,none⟩=some v:=by rw[Lib.cell_of_heap hbk];rfl
 go_wp2_with (at_builtin;refine Lib.wpList_append_own_stringF _ rfl _ _ 22 9 rfl B 5 i0 Tryz.underlying22 Tryz.underlying9 hi hz0 hz1 hz2 _ _ _ rfl hown s rfl ?c3 ?c4 ?c5 ?_);case c3=>unfold maxLen;omega
 case c4=>omega
 case c5=>have:=iG.size;omega
 intro v' w2 hown' hgrow _
 have hlt:b<w1.heap.size:=by
  rcases gW b w1.heap.size with h'|h';·exact h'
  ·simp[lP h'] at hbk
 have gv:w2.heap[b]?=some (.cells #[.pointer (some ⟨b,0,none⟩),v] 166 (0,0)):=by rw[hgrow.block b hlt (λe=>hne e.symm)];exact hbk
 have d0:w2.cell? ⟨b,0,none⟩=some (.pointer (some ⟨b,0,none⟩)):=by rw[Lib.cell_of_heap gv];rfl
 have d1:w2.cell? ⟨b,1,none⟩=some v:=by rw[Lib.cell_of_heap gv];rfl
 have f1:w2.frozen? ⟨b,1,none⟩=false:=Lib.frozen_of_heap gv 1
 obtain⟨ao,n',cap,rfl⟩:∃ao n' cap,v'=.slice ao n' cap:=by
  rcases hown'.2 with ⟨hv,_⟩|⟨g,cap,cur,fz,hv,_⟩;·exact⟨_,_,_,hv⟩
  ·exact⟨_,_,_,hv⟩
 go_wp2;go_ret2;refine⟨rfl,?_,?_⟩;·exact Lib.BuilderAtF.put (T:=166) (e:=5) hB gv (bs':=bs++Lib.strCells s) (by simpa [Lib.strCells_length] using hown') (by decide)
 ·exact(iG.grown hgrow (by have:=iG.size;omega) (λk hk=>(hown.lt k hk).1)).setCell (p:=⟨b,1,none⟩) hB _
set_option maxHeartbeats 4000000 in
set_option maxRecDepth 1000000 in
def aah(A:Option Addr)(cap:Nat)(fs:List (ByteArray×ByteArray))(w:World)
  (hc:∀i f,fs[i]?=some f->∃g o,A=some ⟨g,o,none⟩/\g<w.heap.size/\w.cell? ⟨g,o+i*2,none⟩=some (.string f.1)/\w.cell? ⟨g,o+i*2+1,none⟩=some (.string f.2))
  (hb:(M.jz fs).length<=140737488355328)(hl:fs.length<=140737488355328):
  Calls Tryz.prog 63 #[.slice A fs.length cap] w λe w'=>e=.returned (.string ⟨(M.jz fs).toArray⟩)/\Below w.heap.size w w':=by
 go_enter Tryz.func63,Tryz.ntmps63;go_wp2;go_loopw [8] (λvi wr=>∃k:Nat,vi=.int .i64 k/\k<=fs.length/\Lib.IsBuilderF 166 5 w.heap.size w.heap.size (Lib.byteCells (M.jz (fs.take k))) wr/\Below w.heap.size w wr) (λvi _=>fs.length - (intOf vi).toNat);case atStart=>exact⟨0,rfl,oT _,Lib.IsBuilderF.of (Lib.fresh_isBuilder 166 5 w),(Below.refl _ w).alloc (dz _) _⟩
 case round=>
  obtain⟨k,rfl,hk,hI,zJ⟩:=hrel;have hsz:w.heap.size<=wr.heap.size:=zJ.size;by_cases hlt:k<fs.length
  ·obtain⟨g,o,rfl,hg,hk1⟩:=hc k fs[k] (by simp[hlt]);have c1:wr.cell? ⟨g,o+k*2,none⟩=some (.string fs[k].1):=by rw[zJ.cell (p:=⟨g,o+k*2,none⟩) hg];exact hk1.1
   have c2:wr.cell? ⟨g,o+k*2+1,none⟩=some (.string fs[k].2):=by rw[zJ.cell (p:=⟨g,o+k*2+1,none⟩) hg];exact hk1.2
   have hlt2:(k:Int)<fs.length:=by omega
   have hle:=M.aai hlt;have htk:=M.PF hlt;have s1:¬9223372036854775807<fs[k].1.size+2:=by omega
   have s2:¬9223372036854775807<fs[k].1.size+2+fs[k].2.size:=by omega
   have s3:¬9223372036854775807<fs[k].1.size+2+fs[k].2.size+2:=by omega
   go_wp2_with (go_at_call 156;refine(VW w.heap.size w.heap.size _ _ _ (hI.alloc _) ?_ ?_).mono ?_);·rw[Lib.byteCells_length];simp only[ByteArray.size_append];have e1:(⟨#[58,32]⟩:ByteArray).size=2:=rfl;have e2:(⟨#[13,10]⟩:ByteArray).size=2:=rfl;omega
   ·simp only[World.alloc];simp;omega
   rintro e W1 ⟨rfl,h1,b1⟩;go_wp2;go_roundw
   case rel=>
    refine⟨k+1,by go_num,by omega,?_,(zJ.alloc hsz _).trans b1⟩;rw[htk,Lib.byteCells_append];refine Or.inr ?_;have e:Lib.strCells (fs[k].1++⟨#[58,32]⟩++fs[k].2++⟨#[13,10]⟩)=Lib.byteCells (fs[k].1.data.toList++[58,32]++fs[k].2.data.toList++[13,10]):=by rw[Lib.strCells_eq];congr 1
    rw[<-e];exact h1
   case measure=>simp[intOf];omega
  ·have hlt2:¬(k:Int)<fs.length:=by omega
   go_wp2_with (go_at_call 157;refine(Tryz.Builder_String_any_f w.heap.size w.heap.size _ _ hI hsz).mono ?_);rintro e W1 rfl h2 b1;clear h2;go_wp2;go_ret;have:k=fs.length:=by omega
   subst this;rw[uY];exact⟨rfl,zJ.trans b1⟩
end Go.Proofs
namespace M
open Go
variable [Bs]
def ahf:Told Go.Proofs.Tryz.prog 4 tX [.t 2] 1:=Told.of Go.Proofs.Tryz.func4 (by decide+kernel)
def ZE:aA Go.Proofs.Tryz.prog 4=true:=by decide+kernel
def ahx:Told Go.Proofs.Tryz.prog 8 E2 [.t 2] 1:=Told.of Go.Proofs.Tryz.func8 (by decide+kernel)
def ZW:aA Go.Proofs.Tryz.prog 8=true:=by decide+kernel
def afE:Told Go.Proofs.Tryz.prog 11 Au [.t 2] 1:=Told.of Go.Proofs.Tryz.func11 (by decide+kernel)
def X6:aA Go.Proofs.Tryz.prog 11=true:=by decide+kernel
def afL:Told Go.Proofs.Tryz.prog 12 BG [.t 2] 1:=Told.of Go.Proofs.Tryz.func12 (by decide+kernel)
def Yd:aA Go.Proofs.Tryz.prog 12=true:=by decide+kernel
def agt:Told Go.Proofs.Tryz.prog 18 mz [.t 2] 1:=Told.of Go.Proofs.Tryz.func18 (by decide+kernel)
def YR:aA Go.Proofs.Tryz.prog 18=true:=by decide+kernel
def agD:Told Go.Proofs.Tryz.prog 19 Al [.t 4,.t 5] 2:=Told.of Go.Proofs.Tryz.func19 (by decide+kernel)
def Y1:aA Go.Proofs.Tryz.prog 19=true:=by decide+kernel
def agT:Told Go.Proofs.Tryz.prog 22 tS [.t 2] 1:=Told.of Go.Proofs.Tryz.func22 (by decide+kernel)
def Zi:aA Go.Proofs.Tryz.prog 22=true:=by decide+kernel
def ag1:Told Go.Proofs.Tryz.prog 24 FA [.c 2 6 true 54,.c 3 4 true 26] 1:=Told.of Go.Proofs.Tryz.func24 (by decide+kernel)
def Zq:aA Go.Proofs.Tryz.prog 24=true:=by decide+kernel
def ag4:Told Go.Proofs.Tryz.prog 25 Ak [.c 4 7 true 31,.t 5] 2:=Told.of Go.Proofs.Tryz.func25 (by decide+kernel)
def Zt:aA Go.Proofs.Tryz.prog 25=true:=by decide+kernel
def ag6:Told Go.Proofs.Tryz.prog 26 w9 [.c 4 7 true 31,.t 5] 2:=Told.of Go.Proofs.Tryz.func26 (by decide+kernel)
def Zv:aA Go.Proofs.Tryz.prog 26=true:=by decide+kernel
def ag7:Told Go.Proofs.Tryz.prog 27 As [.t 2] 1:=Told.of Go.Proofs.Tryz.func27 (by decide+kernel)
def Zw:aA Go.Proofs.Tryz.prog 27=true:=by decide+kernel
def ag8:Told Go.Proofs.Tryz.prog 28 oL [.t 2] 1:=Told.of Go.Proofs.Tryz.func28 (by decide+kernel)
def Zx:aA Go.Proofs.Tryz.prog 28=true:=by decide+kernel
def ag9:Told Go.Proofs.Tryz.prog 29 EG [.t 6] 3:=Told.of Go.Proofs.Tryz.func29 (by decide+kernel)
def Zy:aA Go.Proofs.Tryz.prog 29=true:=by decide+kernel
def aha:Told Go.Proofs.Tryz.prog 30 Ez [.t 4] 2:=Told.of Go.Proofs.Tryz.func30 (by decide+kernel)
def Zz:aA Go.Proofs.Tryz.prog 30=true:=by decide+kernel
def ahb:Told Go.Proofs.Tryz.prog 31 nk [.t 2] 1:=Told.of Go.Proofs.Tryz.func31 (by decide+kernel)
def ZA:aA Go.Proofs.Tryz.prog 31=true:=by decide+kernel
def ahc:Told Go.Proofs.Tryz.prog 32 EB [.c 0 6 true 54] 0:=Told.of Go.Proofs.Tryz.func32 (by decide+kernel)
def ZB:aA Go.Proofs.Tryz.prog 32=true:=by decide+kernel
def ahd:Told Go.Proofs.Tryz.prog 36 BE [.t 2] 1:=Told.of Go.Proofs.Tryz.func36 (by decide+kernel)
def ZC:aA Go.Proofs.Tryz.prog 36=true:=by decide+kernel
def ahe:Told Go.Proofs.Tryz.prog 38 l6 [.t 2] 1:=Told.of Go.Proofs.Tryz.func38 (by decide+kernel)
def ZD:aA Go.Proofs.Tryz.prog 38=true:=by decide+kernel
def ahg:Told Go.Proofs.Tryz.prog 42 Bw [.c 2 6 true 54] 1:=Told.of Go.Proofs.Tryz.func42 (by decide+kernel)
def ZF:aA Go.Proofs.Tryz.prog 42=true:=by decide+kernel
def ahh:Told Go.Proofs.Tryz.prog 48 qq [.c 4 6 true 54,.t 5] 2:=Told.of Go.Proofs.Tryz.func48 (by decide+kernel)
def ZG:aA Go.Proofs.Tryz.prog 48=true:=by decide+kernel
def ahi:Told Go.Proofs.Tryz.prog 51 sn [.c 4 6 true 54,.t 5] 2:=Told.of Go.Proofs.Tryz.func51 (by decide+kernel)
def ZH:aA Go.Proofs.Tryz.prog 51=true:=by decide+kernel
def ahj:Told Go.Proofs.Tryz.prog 53 pW [.t 4] 2:=Told.of Go.Proofs.Tryz.func53 (by decide+kernel)
def ZI:aA Go.Proofs.Tryz.prog 53=true:=by decide+kernel
def ahk:Told Go.Proofs.Tryz.prog 54 Gt [.t 2] 1:=Told.of Go.Proofs.Tryz.func54 (by decide+kernel)
def ZJ:aA Go.Proofs.Tryz.prog 54=true:=by decide+kernel
def ahl:Told Go.Proofs.Tryz.prog 57 xT [.t 2] 1:=Told.of Go.Proofs.Tryz.func57 (by decide+kernel)
def ZK:aA Go.Proofs.Tryz.prog 57=true:=by decide+kernel
def ahm:Told Go.Proofs.Tryz.prog 58 EN [.c 2 3 true 29] 1:=Told.of Go.Proofs.Tryz.func58 (by decide+kernel)
def ZL:aA Go.Proofs.Tryz.prog 58=true:=by decide+kernel
def ahn:Told Go.Proofs.Tryz.prog 61 Ao [.t 2] 1:=Told.of Go.Proofs.Tryz.func61 (by decide+kernel)
def ZM:aA Go.Proofs.Tryz.prog 61=true:=by decide+kernel
def aho:Told Go.Proofs.Tryz.prog 64 EV [.t 2] 1:=Told.of Go.Proofs.Tryz.func64 (by decide+kernel)
def ZN:aA Go.Proofs.Tryz.prog 64=true:=by decide+kernel
def ahp:Told Go.Proofs.Tryz.prog 65 uA [.t 2] 1:=Told.of Go.Proofs.Tryz.func65 (by decide+kernel)
def ZO:aA Go.Proofs.Tryz.prog 65=true:=by decide+kernel
def ahq:Told Go.Proofs.Tryz.prog 66 xd [.t 2] 1:=Told.of Go.Proofs.Tryz.func66 (by decide+kernel)
def ZP:aA Go.Proofs.Tryz.prog 66=true:=by decide+kernel
def ahr:Told Go.Proofs.Tryz.prog 67 FE [.t 2] 1:=Told.of Go.Proofs.Tryz.func67 (by decide+kernel)
def ZQ:aA Go.Proofs.Tryz.prog 67=true:=by decide+kernel
def ahs:Told Go.Proofs.Tryz.prog 68 GG [.c 2 3 true 29] 1:=Told.of Go.Proofs.Tryz.func68 (by decide+kernel)
def ZR:aA Go.Proofs.Tryz.prog 68=true:=by decide+kernel
def aht:Told Go.Proofs.Tryz.prog 71 BF [.t 6] 3:=Told.of Go.Proofs.Tryz.func71 (by decide+kernel)
def ZS:aA Go.Proofs.Tryz.prog 71=true:=by decide+kernel
def ahu:Told Go.Proofs.Tryz.prog 73 Gu [.t 4] 2:=Told.of Go.Proofs.Tryz.func73 (by decide+kernel)
def ZT:aA Go.Proofs.Tryz.prog 73=true:=by decide+kernel
def ahv:Told Go.Proofs.Tryz.prog 75 xO [.c 2 4 true 26] 1:=Told.of Go.Proofs.Tryz.func75 (by decide+kernel)
def ZU:aA Go.Proofs.Tryz.prog 75=true:=by decide+kernel
def ahw:Told Go.Proofs.Tryz.prog 78 xh [.t 2] 1:=Told.of Go.Proofs.Tryz.func78 (by decide+kernel)
def ZV:aA Go.Proofs.Tryz.prog 78=true:=by decide+kernel
def ahy:Told Go.Proofs.Tryz.prog 80 Fu [.c 2 6 true 72] 1:=Told.of Go.Proofs.Tryz.func80 (by decide+kernel)
def ZX:aA Go.Proofs.Tryz.prog 80=true:=by decide+kernel
def ahz:Told Go.Proofs.Tryz.prog 83 uR [.t 2] 1:=Told.of Go.Proofs.Tryz.func83 (by decide+kernel)
def ZY:aA Go.Proofs.Tryz.prog 83=true:=by decide+kernel
def ahA:Told Go.Proofs.Tryz.prog 84 Gp [.t 6] 3:=Told.of Go.Proofs.Tryz.func84 (by decide+kernel)
def ZZ:aA Go.Proofs.Tryz.prog 84=true:=by decide+kernel
def ahB:Told Go.Proofs.Tryz.prog 85 GF [.t 2] 1:=Told.of Go.Proofs.Tryz.func85 (by decide+kernel)
def Z0:aA Go.Proofs.Tryz.prog 85=true:=by decide+kernel
def ahC:Told Go.Proofs.Tryz.prog 86 xV [.t 4] 2:=Told.of Go.Proofs.Tryz.func86 (by decide+kernel)
def Z1:aA Go.Proofs.Tryz.prog 86=true:=by decide+kernel
def ahD:Told Go.Proofs.Tryz.prog 87 FV [.t 2] 1:=Told.of Go.Proofs.Tryz.func87 (by decide+kernel)
def Z2:aA Go.Proofs.Tryz.prog 87=true:=by decide+kernel
def ahE:Told Go.Proofs.Tryz.prog 88 uC [.t 2] 1:=Told.of Go.Proofs.Tryz.func88 (by decide+kernel)
def Z3:aA Go.Proofs.Tryz.prog 88=true:=by decide+kernel
def ahF:Told Go.Proofs.Tryz.prog 89 EP [.t 4] 2:=Told.of Go.Proofs.Tryz.func89 (by decide+kernel)
def Z4:aA Go.Proofs.Tryz.prog 89=true:=by decide+kernel
def ahG:Told Go.Proofs.Tryz.prog 91 ER [.t 6] 3:=Told.of Go.Proofs.Tryz.func91 (by decide+kernel)
def Z5:aA Go.Proofs.Tryz.prog 91=true:=by decide+kernel
def ahH:Told Go.Proofs.Tryz.prog 94 Ey [.t 2] 1:=Told.of Go.Proofs.Tryz.func94 (by decide+kernel)
def Z6:aA Go.Proofs.Tryz.prog 94=true:=by decide+kernel
def ahI:Told Go.Proofs.Tryz.prog 95 jG [.c 2 6 true 54] 1:=Told.of Go.Proofs.Tryz.func95 (by decide+kernel)
def Z7:aA Go.Proofs.Tryz.prog 95=true:=by decide+kernel
def ahJ:Told Go.Proofs.Tryz.prog 97 FP [.t 6] 3:=Told.of Go.Proofs.Tryz.func97 (by decide+kernel)
def Z8:aA Go.Proofs.Tryz.prog 97=true:=by decide+kernel
def ahK:Told Go.Proofs.Tryz.prog 98 FG [.t 4] 2:=Told.of Go.Proofs.Tryz.func98 (by decide+kernel)
def Z9:aA Go.Proofs.Tryz.prog 98=true:=by decide+kernel
def ahL:Told Go.Proofs.Tryz.prog 99 FW [.c 2 7 true 31] 1:=Told.of Go.Proofs.Tryz.func99 (by decide+kernel)
def aac:aA Go.Proofs.Tryz.prog 99=true:=by decide+kernel
def afu:Told Go.Proofs.Tryz.prog 100 Fz [.t 2] 1:=Told.of Go.Proofs.Tryz.func100 (by decide+kernel)
def XW:aA Go.Proofs.Tryz.prog 100=true:=by decide+kernel
def afv:Told Go.Proofs.Tryz.prog 101 qn [.t 2] 1:=Told.of Go.Proofs.Tryz.func101 (by decide+kernel)
def XX:aA Go.Proofs.Tryz.prog 101=true:=by decide+kernel
def afw:Told Go.Proofs.Tryz.prog 102 Cy [.t 4] 2:=Told.of Go.Proofs.Tryz.func102 (by decide+kernel)
def XY:aA Go.Proofs.Tryz.prog 102=true:=by decide+kernel
def afx:Told Go.Proofs.Tryz.prog 103 Hq [.t 4] 2:=Told.of Go.Proofs.Tryz.func103 (by decide+kernel)
def XZ:aA Go.Proofs.Tryz.prog 103=true:=by decide+kernel
def afy:Told Go.Proofs.Tryz.prog 104 EJ [.t 4] 2:=Told.of Go.Proofs.Tryz.func104 (by decide+kernel)
def X0:aA Go.Proofs.Tryz.prog 104=true:=by decide+kernel
def afz:Told Go.Proofs.Tryz.prog 105 pU [.t 2] 1:=Told.of Go.Proofs.Tryz.func105 (by decide+kernel)
def X1:aA Go.Proofs.Tryz.prog 105=true:=by decide+kernel
def afA:Told Go.Proofs.Tryz.prog 106 ET [.t 2] 1:=Told.of Go.Proofs.Tryz.func106 (by decide+kernel)
def X2:aA Go.Proofs.Tryz.prog 106=true:=by decide+kernel
def afB:Told Go.Proofs.Tryz.prog 107 Ew [.t 2] 1:=Told.of Go.Proofs.Tryz.func107 (by decide+kernel)
def X3:aA Go.Proofs.Tryz.prog 107=true:=by decide+kernel
def afC:Told Go.Proofs.Tryz.prog 108 ED [.t 2] 1:=Told.of Go.Proofs.Tryz.func108 (by decide+kernel)
def X4:aA Go.Proofs.Tryz.prog 108=true:=by decide+kernel
def afD:Told Go.Proofs.Tryz.prog 109 Ev [.c 0 2 true 50] 0:=Told.of Go.Proofs.Tryz.func109 (by decide+kernel)
def X5:aA Go.Proofs.Tryz.prog 109=true:=by decide+kernel
def afF:Told Go.Proofs.Tryz.prog 110 uO [.t 4] 2:=Told.of Go.Proofs.Tryz.func110 (by decide+kernel)
def X7:aA Go.Proofs.Tryz.prog 110=true:=by decide+kernel
def afG:Told Go.Proofs.Tryz.prog 114 tT [.t 2] 1:=Told.of Go.Proofs.Tryz.func114 (by decide+kernel)
def X8:aA Go.Proofs.Tryz.prog 114=true:=by decide+kernel
def afH:Told Go.Proofs.Tryz.prog 115 wj [.t 2] 1:=Told.of Go.Proofs.Tryz.func115 (by decide+kernel)
def X9:aA Go.Proofs.Tryz.prog 115=true:=by decide+kernel
def afI:Told Go.Proofs.Tryz.prog 116 EU [.t 2] 1:=Told.of Go.Proofs.Tryz.func116 (by decide+kernel)
def Ya:aA Go.Proofs.Tryz.prog 116=true:=by decide+kernel
def afJ:Told Go.Proofs.Tryz.prog 117 EW [.t 2] 1:=Told.of Go.Proofs.Tryz.func117 (by decide+kernel)
def Yb:aA Go.Proofs.Tryz.prog 117=true:=by decide+kernel
def afK:Told Go.Proofs.Tryz.prog 118 EK [.t 2] 1:=Told.of Go.Proofs.Tryz.func118 (by decide+kernel)
def Yc:aA Go.Proofs.Tryz.prog 118=true:=by decide+kernel
def afM:Told Go.Proofs.Tryz.prog 120 Gk [.c 2 6 true 54] 1:=Told.of Go.Proofs.Tryz.func120 (by decide+kernel)
def Ye:aA Go.Proofs.Tryz.prog 120=true:=by decide+kernel
def afN:Told Go.Proofs.Tryz.prog 121 oM [.c 2 2 true 50] 1:=Told.of Go.Proofs.Tryz.func121 (by decide+kernel)
def Yf:aA Go.Proofs.Tryz.prog 121=true:=by decide+kernel
def afO:Told Go.Proofs.Tryz.prog 122 wZ [.c 6 2 true 50,.t 7] 3:=Told.of Go.Proofs.Tryz.func122 (by decide+kernel)
def Yg:aA Go.Proofs.Tryz.prog 122=true:=by decide+kernel
def afP:Told Go.Proofs.Tryz.prog 123 xg [.t 4] 2:=Told.of Go.Proofs.Tryz.func123 (by decide+kernel)
def Yh:aA Go.Proofs.Tryz.prog 123=true:=by decide+kernel
def afQ:Told Go.Proofs.Tryz.prog 124 Gv [.t 4] 2:=Told.of Go.Proofs.Tryz.func124 (by decide+kernel)
def Yi:aA Go.Proofs.Tryz.prog 124=true:=by decide+kernel
def afR:Told Go.Proofs.Tryz.prog 125 xj [.c 4 7 true 31] 2:=Told.of Go.Proofs.Tryz.func125 (by decide+kernel)
def Yj:aA Go.Proofs.Tryz.prog 125=true:=by decide+kernel
def afS:Told Go.Proofs.Tryz.prog 126 Bl [.t 2] 1:=Told.of Go.Proofs.Tryz.func126 (by decide+kernel)
def Yk:aA Go.Proofs.Tryz.prog 126=true:=by decide+kernel
def afT:Told Go.Proofs.Tryz.prog 127 sC [.c 4 4 true 83] 2:=Told.of Go.Proofs.Tryz.func127 (by decide+kernel)
def Yl:aA Go.Proofs.Tryz.prog 127=true:=by decide+kernel
def afU:Told Go.Proofs.Tryz.prog 130 FN [.c 0 6 true 54] 0:=Told.of Go.Proofs.Tryz.func130 (by decide+kernel)
def Ym:aA Go.Proofs.Tryz.prog 130=true:=by decide+kernel
def afV:Told Go.Proofs.Tryz.prog 131 BV [.t 2,.t 3] 1:=Told.of Go.Proofs.Tryz.func131 (by decide+kernel)
def Yn:aA Go.Proofs.Tryz.prog 131=true:=by decide+kernel
def afW:Told Go.Proofs.Tryz.prog 132 qu [.t 2,.t 3,.t 4] 1:=Told.of Go.Proofs.Tryz.func132 (by decide+kernel)
def Yo:aA Go.Proofs.Tryz.prog 132=true:=by decide+kernel
def afX:Told Go.Proofs.Tryz.prog 133 Fx [.t 4] 2:=Told.of Go.Proofs.Tryz.func133 (by decide+kernel)
def Yp:aA Go.Proofs.Tryz.prog 133=true:=by decide+kernel
def afY:Told Go.Proofs.Tryz.prog 134 sB [.c 2 7 true 31,.t 3] 1:=Told.of Go.Proofs.Tryz.func134 (by decide+kernel)
def Yq:aA Go.Proofs.Tryz.prog 134=true:=by decide+kernel
def afZ:Told Go.Proofs.Tryz.prog 135 Gq [.t 4] 2:=Told.of Go.Proofs.Tryz.func135 (by decide+kernel)
def Yr:aA Go.Proofs.Tryz.prog 135=true:=by decide+kernel
def af0:Told Go.Proofs.Tryz.prog 136 Gl [.t 4] 2:=Told.of Go.Proofs.Tryz.func136 (by decide+kernel)
def Ys:aA Go.Proofs.Tryz.prog 136=true:=by decide+kernel
def af1:Told Go.Proofs.Tryz.prog 137 FY [.c 2 2 true 50] 1:=Told.of Go.Proofs.Tryz.func137 (by decide+kernel)
def Yt:aA Go.Proofs.Tryz.prog 137=true:=by decide+kernel
def af2:Told Go.Proofs.Tryz.prog 138 xK [.t 4] 2:=Told.of Go.Proofs.Tryz.func138 (by decide+kernel)
def Yu:aA Go.Proofs.Tryz.prog 138=true:=by decide+kernel
def af3:Told Go.Proofs.Tryz.prog 139 F7 [.t 2] 1:=Told.of Go.Proofs.Tryz.func139 (by decide+kernel)
def Yv:aA Go.Proofs.Tryz.prog 139=true:=by decide+kernel
def af4:Told Go.Proofs.Tryz.prog 144 F8 [.c 2 6 true 54] 1:=Told.of Go.Proofs.Tryz.func144 (by decide+kernel)
def Yw:aA Go.Proofs.Tryz.prog 144=true:=by decide+kernel
def af5:Told Go.Proofs.Tryz.prog 145 B6 [.c 6 6 true 54] 3:=Told.of Go.Proofs.Tryz.func145 (by decide+kernel)
def Yx:aA Go.Proofs.Tryz.prog 145=true:=by decide+kernel
def af6:Told Go.Proofs.Tryz.prog 146 mC [.c 2 4 true 83] 1:=Told.of Go.Proofs.Tryz.func146 (by decide+kernel)
def Yy:aA Go.Proofs.Tryz.prog 146=true:=by decide+kernel
def af7:Told Go.Proofs.Tryz.prog 148 FF [.c 2 2 true 50] 1:=Told.of Go.Proofs.Tryz.func148 (by decide+kernel)
def Yz:aA Go.Proofs.Tryz.prog 148=true:=by decide+kernel
def af9:Told Go.Proofs.Tryz.prog 151 Gw [.t 4] 2:=Told.of Go.Proofs.Tryz.func151 (by decide+kernel)
def YA:aA Go.Proofs.Tryz.prog 151=true:=by decide+kernel
def agb:Told Go.Proofs.Tryz.prog 158 FD [.t 2] 1:=Told.of Go.Proofs.Tryz.func158 (by decide+kernel)
def YB:aA Go.Proofs.Tryz.prog 158=true:=by decide+kernel
def agc:Told Go.Proofs.Tryz.prog 159 GD [.t 2] 1:=Told.of Go.Proofs.Tryz.func159 (by decide+kernel)
def YC:aA Go.Proofs.Tryz.prog 159=true:=by decide+kernel
def agd:Told Go.Proofs.Tryz.prog 160 Br [.t 4,.t 5] 2:=Told.of Go.Proofs.Tryz.func160 (by decide+kernel)
def YD:aA Go.Proofs.Tryz.prog 160=true:=by decide+kernel
def agf:Told Go.Proofs.Tryz.prog 161 B9 [.t 4] 2:=Told.of Go.Proofs.Tryz.func161 (by decide+kernel)
def YE:aA Go.Proofs.Tryz.prog 161=true:=by decide+kernel
def agh:Told Go.Proofs.Tryz.prog 162 sy [.t 2,.t 3] 1:=Told.of Go.Proofs.Tryz.func162 (by decide+kernel)
def YF:aA Go.Proofs.Tryz.prog 162=true:=by decide+kernel
def agi:Told Go.Proofs.Tryz.prog 165 xN [.t 2] 1:=Told.of Go.Proofs.Tryz.func165 (by decide+kernel)
def YG:aA Go.Proofs.Tryz.prog 165=true:=by decide+kernel
def agj:Told Go.Proofs.Tryz.prog 166 Fv [.c 2 6 true 72] 1:=Told.of Go.Proofs.Tryz.func166 (by decide+kernel)
def YH:aA Go.Proofs.Tryz.prog 166=true:=by decide+kernel
def agk:Told Go.Proofs.Tryz.prog 167 FR [.t 2] 1:=Told.of Go.Proofs.Tryz.func167 (by decide+kernel)
def YI:aA Go.Proofs.Tryz.prog 167=true:=by decide+kernel
def agl:Told Go.Proofs.Tryz.prog 168 FO [.t 2] 1:=Told.of Go.Proofs.Tryz.func168 (by decide+kernel)
def YJ:aA Go.Proofs.Tryz.prog 168=true:=by decide+kernel
def agm:Told Go.Proofs.Tryz.prog 169 FI [.t 2] 1:=Told.of Go.Proofs.Tryz.func169 (by decide+kernel)
def YK:aA Go.Proofs.Tryz.prog 169=true:=by decide+kernel
def agn:Told Go.Proofs.Tryz.prog 170 FT [.t 2] 1:=Told.of Go.Proofs.Tryz.func170 (by decide+kernel)
def YL:aA Go.Proofs.Tryz.prog 170=true:=by decide+kernel
def ago:Told Go.Proofs.Tryz.prog 171 CB [.t 4] 2:=Told.of Go.Proofs.Tryz.func171 (by decide+kernel)
def YM:aA Go.Proofs.Tryz.prog 171=true:=by decide+kernel
def agp:Told Go.Proofs.Tryz.prog 172 EO [.t 3] 2:=Told.of Go.Proofs.Tryz.func172 (by decide+kernel)
def YN:aA Go.Proofs.Tryz.prog 172=true:=by decide+kernel
def agq:Told Go.Proofs.Tryz.prog 176 EH [.t 2] 1:=Told.of Go.Proofs.Tryz.func176 (by decide+kernel)
def YO:aA Go.Proofs.Tryz.prog 176=true:=by decide+kernel
def agr:Told Go.Proofs.Tryz.prog 178 EM [.c 2 7 true 31] 1:=Told.of Go.Proofs.Tryz.func178 (by decide+kernel)
def YP:aA Go.Proofs.Tryz.prog 178=true:=by decide+kernel
def ags:Told Go.Proofs.Tryz.prog 179 Ci [.t 2] 1:=Told.of Go.Proofs.Tryz.func179 (by decide+kernel)
def YQ:aA Go.Proofs.Tryz.prog 179=true:=by decide+kernel
def agu:Told Go.Proofs.Tryz.prog 180 FU [.t 4] 2:=Told.of Go.Proofs.Tryz.func180 (by decide+kernel)
def YS:aA Go.Proofs.Tryz.prog 180=true:=by decide+kernel
def agv:Told Go.Proofs.Tryz.prog 181 nG [.t 4] 2:=Told.of Go.Proofs.Tryz.func181 (by decide+kernel)
def YT:aA Go.Proofs.Tryz.prog 181=true:=by decide+kernel
def agw:Told Go.Proofs.Tryz.prog 182 CF [.t 4] 2:=Told.of Go.Proofs.Tryz.func182 (by decide+kernel)
def YU:aA Go.Proofs.Tryz.prog 182=true:=by decide+kernel
def agx:Told Go.Proofs.Tryz.prog 183 ES [.t 2] 1:=Told.of Go.Proofs.Tryz.func183 (by decide+kernel)
def YV:aA Go.Proofs.Tryz.prog 183=true:=by decide+kernel
def agy:Told Go.Proofs.Tryz.prog 184 Cx [.t 4] 2:=Told.of Go.Proofs.Tryz.func184 (by decide+kernel)
def YW:aA Go.Proofs.Tryz.prog 184=true:=by decide+kernel
def agz:Told Go.Proofs.Tryz.prog 185 EC [.t 3] 2:=Told.of Go.Proofs.Tryz.func185 (by decide+kernel)
def YX:aA Go.Proofs.Tryz.prog 185=true:=by decide+kernel
def agA:Told Go.Proofs.Tryz.prog 186 xL [.t 2] 1:=Told.of Go.Proofs.Tryz.func186 (by decide+kernel)
def YY:aA Go.Proofs.Tryz.prog 186=true:=by decide+kernel
def agB:Told Go.Proofs.Tryz.prog 188 EL [.t 4] 2:=Told.of Go.Proofs.Tryz.func188 (by decide+kernel)
def YZ:aA Go.Proofs.Tryz.prog 188=true:=by decide+kernel
def agC:Told Go.Proofs.Tryz.prog 189 EI [.t 2] 1:=Told.of Go.Proofs.Tryz.func189 (by decide+kernel)
def Y0:aA Go.Proofs.Tryz.prog 189=true:=by decide+kernel
def agE:Told Go.Proofs.Tryz.prog 190 EF [.t 2] 1:=Told.of Go.Proofs.Tryz.func190 (by decide+kernel)
def Y2:aA Go.Proofs.Tryz.prog 190=true:=by decide+kernel
def agF:Told Go.Proofs.Tryz.prog 191 EA [.t 2] 1:=Told.of Go.Proofs.Tryz.func191 (by decide+kernel)
def Y3:aA Go.Proofs.Tryz.prog 191=true:=by decide+kernel
def agG:Told Go.Proofs.Tryz.prog 193 Fw [.c 4 2 true 50] 2:=Told.of Go.Proofs.Tryz.func193 (by decide+kernel)
def Y4:aA Go.Proofs.Tryz.prog 193=true:=by decide+kernel
def agH:Told Go.Proofs.Tryz.prog 194 F3 [.t 4] 2:=Told.of Go.Proofs.Tryz.func194 (by decide+kernel)
def Y5:aA Go.Proofs.Tryz.prog 194=true:=by decide+kernel
def agI:Told Go.Proofs.Tryz.prog 195 F4 [.c 2 2 true 50] 1:=Told.of Go.Proofs.Tryz.func195 (by decide+kernel)
def Y6:aA Go.Proofs.Tryz.prog 195=true:=by decide+kernel
def agJ:Told Go.Proofs.Tryz.prog 196 BU [.t 2] 1:=Told.of Go.Proofs.Tryz.func196 (by decide+kernel)
def Y7:aA Go.Proofs.Tryz.prog 196=true:=by decide+kernel
def agK:Told Go.Proofs.Tryz.prog 197 FQ [.t 2] 1:=Told.of Go.Proofs.Tryz.func197 (by decide+kernel)
def Y8:aA Go.Proofs.Tryz.prog 197=true:=by decide+kernel
def agL:Told Go.Proofs.Tryz.prog 198 xP [.c 2 3 true 29] 1:=Told.of Go.Proofs.Tryz.func198 (by decide+kernel)
def Y9:aA Go.Proofs.Tryz.prog 198=true:=by decide+kernel
def agM:Told Go.Proofs.Tryz.prog 199 FC [.t 4] 2:=Told.of Go.Proofs.Tryz.func199 (by decide+kernel)
def Za:aA Go.Proofs.Tryz.prog 199=true:=by decide+kernel
def agN:Told Go.Proofs.Tryz.prog 200 xe [.c 6 7 true 31,.t 7] 3:=Told.of Go.Proofs.Tryz.func200 (by decide+kernel)
def Zb:aA Go.Proofs.Tryz.prog 200=true:=by decide+kernel
def agO:Told Go.Proofs.Tryz.prog 207 Fy [.c 0 2 true 50] 0:=Told.of Go.Proofs.Tryz.func207 (by decide+kernel)
def Zc:aA Go.Proofs.Tryz.prog 207=true:=by decide+kernel
def agP:Told Go.Proofs.Tryz.prog 208 qo [.c 2 4 true 83,.t 3] 1:=Told.of Go.Proofs.Tryz.func208 (by decide+kernel)
def Zd:aA Go.Proofs.Tryz.prog 208=true:=by decide+kernel
def agQ:Told Go.Proofs.Tryz.prog 209 BS [.t 4,.t 5] 2:=Told.of Go.Proofs.Tryz.func209 (by decide+kernel)
def Ze:aA Go.Proofs.Tryz.prog 209=true:=by decide+kernel
def agR:Told Go.Proofs.Tryz.prog 210 GB [.t 2] 1:=Told.of Go.Proofs.Tryz.func210 (by decide+kernel)
def Zg:aA Go.Proofs.Tryz.prog 210=true:=by decide+kernel
def agS:Told Go.Proofs.Tryz.prog 211 oJ [.c 2 3 true 29,.t 3] 1:=Told.of Go.Proofs.Tryz.func211 (by decide+kernel)
def Zh:aA Go.Proofs.Tryz.prog 211=true:=by decide+kernel
def agU:Told Go.Proofs.Tryz.prog 221 F5 [.c 6 2 true 50] 3:=Told.of Go.Proofs.Tryz.func221 (by decide+kernel)
def Zj:aA Go.Proofs.Tryz.prog 221=true:=by decide+kernel
def agV:Told Go.Proofs.Tryz.prog 223 Gy [.t 2] 1:=Told.of Go.Proofs.Tryz.func223 (by decide+kernel)
def Zk:aA Go.Proofs.Tryz.prog 223=true:=by decide+kernel
def agW:Told Go.Proofs.Tryz.prog 224 iP [.c 2 2 true 104] 1:=Told.of Go.Proofs.Tryz.func224 (by decide+kernel)
def Zl:aA Go.Proofs.Tryz.prog 224=true:=by decide+kernel
def agX:Told Go.Proofs.Tryz.prog 227 Gr [.t 4] 2:=Told.of Go.Proofs.Tryz.func227 (by decide+kernel)
def Zm:aA Go.Proofs.Tryz.prog 227=true:=by decide+kernel
def agY:Told Go.Proofs.Tryz.prog 228 Gn [.t 2] 1:=Told.of Go.Proofs.Tryz.func228 (by decide+kernel)
def Zn:aA Go.Proofs.Tryz.prog 228=true:=by decide+kernel
def agZ:Told Go.Proofs.Tryz.prog 229 xS [.t 2,.t 3] 1:=Told.of Go.Proofs.Tryz.func229 (by decide+kernel)
def Zo:aA Go.Proofs.Tryz.prog 229=true:=by decide+kernel
def ag0:Told Go.Proofs.Tryz.prog 236 CD [.t 4] 2:=Told.of Go.Proofs.Tryz.func236 (by decide+kernel)
def Zp:aA Go.Proofs.Tryz.prog 236=true:=by decide+kernel
def ag2:Told Go.Proofs.Tryz.prog 240 mw [.t 4] 2:=Told.of Go.Proofs.Tryz.func240 (by decide+kernel)
def Zr:aA Go.Proofs.Tryz.prog 240=true:=by decide+kernel
def ag3:Told Go.Proofs.Tryz.prog 249 Ce [.t 2,.t 3] 1:=Told.of Go.Proofs.Tryz.func249 (by decide+kernel)
def Zs:aA Go.Proofs.Tryz.prog 249=true:=by decide+kernel
def ag5:Told Go.Proofs.Tryz.prog 250 GA [.t 2] 1:=Told.of Go.Proofs.Tryz.func250 (by decide+kernel)
def Zu:aA Go.Proofs.Tryz.prog 250=true:=by decide+kernel
def aga:Told Go.Proofs.Tryz.prog 154 (y9 2 32) [.t 2] 1:=Told.of Go.Proofs.Tryz.func154 (by decide+kernel)
def af8:Told Go.Proofs.Tryz.prog 149 (y9 1 16) [.t 2] 1:=Told.of Go.Proofs.Tryz.func149 (by decide+kernel)
set_option maxHeartbeats 4000000 in
def aiz:TT.Ok Go.Proofs.Tryz.prog:=by
 refine⟨λf F h=>?_,λf F h=>?_⟩
 ·have h:_=_:=h;rcases Option.or_eq_some_iff.1 h with h|⟨_,h⟩
  ·unfold HN at h;split at h;·cases h;exact ahf
   ·cases h;exact ahx
   ·cases h;exact afE
   ·cases h;exact afL
   ·cases h;exact agt
   ·cases h;exact agD
   ·cases h;exact agT
   ·cases h;exact ag1
   ·cases h;exact ag4
   ·cases h;exact ag6
   ·cases h;exact ag7
   ·cases h;exact ag8
   ·cases h;exact ag9
   ·cases h;exact aha
   ·cases h;exact ahb
   ·cases h;exact ahc
   ·cases h;exact ahd
   ·cases h;exact ahe
   ·cases h;exact ahg
   ·cases h;exact ahh
   ·cases h;exact ahi
   ·cases h;exact ahj
   ·cases h;exact ahk
   ·cases h;exact ahl
   ·cases h;exact ahm
   ·cases h;exact ahn
   ·cases h;exact aho
   ·cases h;exact ahp
   ·cases h;exact ahq
   ·cases h;exact ahr
   ·cases h;exact ahs
   ·cases h;exact aht
   ·cases h;exact ahu
   ·cases h;exact ahv
   ·cases h;exact ahw
   ·cases h;exact ahy
   ·cases h;exact ahz
   ·cases h;exact ahA
   ·cases h;exact ahB
   ·cases h;exact ahC
   ·cases h;exact ahD
   ·cases h;exact ahE
   ·cases h;exact ahF
   ·cases h;exact ahG
   ·cases h;exact ahH
   ·cases h;exact ahI
   ·cases h;exact ahJ
   ·cases h;exact ahK
   ·cases h;exact ahL
   ·cases h;exact afu
   ·cases h;exact afv
   ·cases h;exact afw
   ·cases h;exact afx
   ·cases h;exact afy
   ·cases h;exact afz
   ·cases h;exact afA
   ·cases h;exact afB
   ·cases h;exact afC
   ·cases h;exact afD
   ·cases h;exact afF
   ·cases h;exact afG
   ·cases h;exact afH
   ·cases h;exact afI
   ·cases h;exact afJ
   ·cases h;exact afK
   ·cases h;exact afM
   ·cases h;exact afN
   ·cases h;exact afO
   ·cases h;exact afP
   ·cases h;exact afQ
   ·cases h;exact afR
   ·cases h;exact afS
   ·cases h;exact afT
   ·cases h;exact afU
   ·cases h;exact afV
   ·cases h;exact afW
   ·cases h;exact afX
   ·cases h;exact afY
   ·cases h;exact afZ
   ·cases h;exact af0
   ·cases h;exact af1
   ·cases h;exact af2
   ·cases h;exact af3
   ·cases h;exact af4
   ·cases h;exact af5
   ·cases h;exact af6
   ·cases h;exact af7
   ·cases h;exact af9
   ·cases h;exact agb
   ·cases h;exact agc
   ·cases h;exact agd
   ·cases h;exact agf
   ·cases h;exact agh
   ·cases h;exact agi
   ·cases h;exact agj
   ·cases h;exact agk
   ·cases h;exact agl
   ·cases h;exact agm
   ·cases h;exact agn
   ·cases h;exact ago
   ·cases h;exact agp
   ·cases h;exact agq
   ·cases h;exact agr
   ·cases h;exact ags
   ·cases h;exact agu
   ·cases h;exact agv
   ·cases h;exact agw
   ·cases h;exact agx
   ·cases h;exact agy
   ·cases h;exact agz
   ·cases h;exact agA
   ·cases h;exact agB
   ·cases h;exact agC
   ·cases h;exact agE
   ·cases h;exact agF
   ·cases h;exact agG
   ·cases h;exact agH
   ·cases h;exact agI
   ·cases h;exact agJ
   ·cases h;exact agK
   ·cases h
  unfold HO at h;split at h;·cases h;exact agL
  ·cases h;exact agM
  ·cases h;exact agN
  ·cases h;exact agO
  ·cases h;exact agP
  ·cases h;exact agQ
  ·cases h;exact agR
  ·cases h;exact agS
  ·cases h;exact agU
  ·cases h;exact agV
  ·cases h;exact agW
  ·cases h;exact agX
  ·cases h;exact agY
  ·cases h;exact agZ
  ·cases h;exact ag0
  ·cases h;exact ag2
  ·cases h;exact ag3
  ·cases h;exact ag5
  ·cases h
 ·have h:_=_:=h;rcases Option.or_eq_some_iff.1 h with h|⟨_,h⟩
  ·unfold HN at h;split at h;·cases h;exact ZE
   ·cases h;exact ZW
   ·cases h;exact X6
   ·cases h;exact Yd
   ·cases h;exact YR
   ·cases h;exact Y1
   ·cases h;exact Zi
   ·cases h;exact Zq
   ·cases h;exact Zt
   ·cases h;exact Zv
   ·cases h;exact Zw
   ·cases h;exact Zx
   ·cases h;exact Zy
   ·cases h;exact Zz
   ·cases h;exact ZA
   ·cases h;exact ZB
   ·cases h;exact ZC
   ·cases h;exact ZD
   ·cases h;exact ZF
   ·cases h;exact ZG
   ·cases h;exact ZH
   ·cases h;exact ZI
   ·cases h;exact ZJ
   ·cases h;exact ZK
   ·cases h;exact ZL
   ·cases h;exact ZM
   ·cases h;exact ZN
   ·cases h;exact ZO
   ·cases h;exact ZP
   ·cases h;exact ZQ
   ·cases h;exact ZR
   ·cases h;exact ZS
   ·cases h;exact ZT
   ·cases h;exact ZU
   ·cases h;exact ZV
   ·cases h;exact ZX
   ·cases h;exact ZY
   ·cases h;exact ZZ
   ·cases h;exact Z0
   ·cases h;exact Z1
   ·cases h;exact Z2
   ·cases h;exact Z3
   ·cases h;exact Z4
   ·cases h;exact Z5
   ·cases h;exact Z6
   ·cases h;exact Z7
   ·cases h;exact Z8
   ·cases h;exact Z9
   ·cases h;exact aac
   ·cases h;exact XW
   ·cases h;exact XX
   ·cases h;exact XY
   ·cases h;exact XZ
   ·cases h;exact X0
   ·cases h;exact X1
   ·cases h;exact X2
   ·cases h;exact X3
   ·cases h;exact X4
   ·cases h;exact X5
   ·cases h;exact X7
   ·cases h;exact X8
   ·cases h;exact X9
   ·cases h;exact Ya
   ·cases h;exact Yb
   ·cases h;exact Yc
   ·cases h;exact Ye
   ·cases h;exact Yf
   ·cases h;exact Yg
   ·cases h;exact Yh
   ·cases h;exact Yi
   ·cases h;exact Yj
   ·cases h;exact Yk
   ·cases h;exact Yl
   ·cases h;exact Ym
   ·cases h;exact Yn
   ·cases h;exact Yo
   ·cases h;exact Yp
   ·cases h;exact Yq
   ·cases h;exact Yr
   ·cases h;exact Ys
   ·cases h;exact Yt
   ·cases h;exact Yu
   ·cases h;exact Yv
   ·cases h;exact Yw
   ·cases h;exact Yx
   ·cases h;exact Yy
   ·cases h;exact Yz
   ·cases h;exact YA
   ·cases h;exact YB
   ·cases h;exact YC
   ·cases h;exact YD
   ·cases h;exact YE
   ·cases h;exact YF
   ·cases h;exact YG
   ·cases h;exact YH
   ·cases h;exact YI
   ·cases h;exact YJ
   ·cases h;exact YK
   ·cases h;exact YL
   ·cases h;exact YM
   ·cases h;exact YN
   ·cases h;exact YO
   ·cases h;exact YP
   ·cases h;exact YQ
   ·cases h;exact YS
   ·cases h;exact YT
   ·cases h;exact YU
   ·cases h;exact YV
   ·cases h;exact YW
   ·cases h;exact YX
   ·cases h;exact YY
   ·cases h;exact YZ
   ·cases h;exact Y0
   ·cases h;exact Y2
   ·cases h;exact Y3
   ·cases h;exact Y4
   ·cases h;exact Y5
   ·cases h;exact Y6
   ·cases h;exact Y7
   ·cases h;exact Y8
   ·cases h
  unfold HO at h;split at h;·cases h;exact Y9
  ·cases h;exact Za
  ·cases h;exact Zb
  ·cases h;exact Zc
  ·cases h;exact Zd
  ·cases h;exact Ze
  ·cases h;exact Zg
  ·cases h;exact Zh
  ·cases h;exact Zj
  ·cases h;exact Zk
  ·cases h;exact Zl
  ·cases h;exact Zm
  ·cases h;exact Zn
  ·cases h;exact Zo
  ·cases h;exact Zp
  ·cases h;exact Zr
  ·cases h;exact Zs
  ·cases h;exact Zu
  ·cases h
def aix(htab:Lib.TabIs Go.Proofs.Tryz.prog Bs.W0 "internal/strconv.uint64pow10" .u64 Lib.pow10Tab) (hmax:∃m,Bs.W0.cell? ⟨3,0,none⟩=some (.int .i64 m)):kq.Sound Go.Proofs.Tryz.prog:=(uf (XK λA cap fs w h1 h2 h3=>Go.Proofs.aah A cap fs w h1 h2 h3) (uf (Ot aga) (uf (Ot af8) (uf (abN htab λn h0 h1 w ht=>Go.Proofs.Tryz.strconv_Itoa n h0 h1 w ht) (uf (aaF λs p w=>Go.Proofs.Tryz.strings_HasPrefix s p w) (uf (ae8 (g1:=3) (t9:=_) hmax λs sep m w h1 h2 h3=>Go.Proofs.Tryz.strings_Split s sep m w h1 h2 h3) (ahM λs c h w hs=>Go.Proofs.Tryz.strings_Trim_one s c h w hs)))))))
end M
