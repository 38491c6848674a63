/- Each function of the table is the program's, and the library is as it is said to be; no conditions. -/
import Derived.Test.YtaaeoialiegmeaaGreatDoorProg
import Derived.Test.YtaaeoialiegmeaaGreatDoorLay
import Derived.Test.YtaaeoialiegmeaaGreatDoorTab
import Derived.Test.YtaaeoialiegmeaaGreatDoorMc
import Derived.WalkKit
import Derived.Lib.FrozenHead
import Derived.Lib.OthersKept
import Derived.Lib.Builder
set_option linter.defProp false
set_option linter.unusedSectionVars false
set_option linter.unusedVariables false
set_option linter.unusedSimpArgs false
set_option linter.unusedVariables false
set_option linter.unusedSectionVars false
set_option maxRecDepth 100000
namespace Go.Proofs
open Go.RowKit
set_option maxHeartbeats 2000000 in
set_option maxRecDepth 100000 in
def Ko(b:Nat)(w:World)(h0:w.cell? ⟨b,0,none⟩=some (.pointer (some ⟨b,0,none⟩))):
    Calls Tryz.prog 226 #[.pointer (some ⟨b,0,none⟩)] w λe w'=>e=.returned (.tuple #[])/\w'=w:=by obtain⟨j,hj,xg⟩:=nU.1 (show (Tryz.prog.info? 166).map (·.size)=some 2 by kernel_rfl);go_enter Tryz.func226,Tryz.ntmps226;go_wp2;rw[Lib.run_neq_ptr_same w _ Tryz.underlying164 hj];go_wp2;go_end0;exact⟨rfl,rfl⟩
set_option maxHeartbeats 2000000 in
set_option maxRecDepth 100000 in
def Kn(b:Nat)(w:World)(h0:w.cell? ⟨b,0,none⟩=some (.pointer none))(hsh:w.shape? b=some (166,2))(hfz:w.frozen? ⟨b,0,none⟩=false):
    Calls Tryz.prog 226 #[.pointer (some ⟨b,0,none⟩)] w λe w'=>e=.returned (.tuple #[])/\w'=w.setCell ⟨b,0,none⟩ (.pointer (some ⟨b,0,none⟩)):=by obtain⟨j,hj,xg⟩:=nU.1 (show (Tryz.prog.info? 166).map (·.size)=some 2 by kernel_rfl);go_enter Tryz.func226,Tryz.ntmps226;go_wp2;rw[Lib.run_to_unsafe w ⟨b,0,none⟩ Tryz.underlying164 Tryz.underlying230 hj (by rw[xg];decide) hsh (Nat.zero_lt_succ 1)];simp only[Result.andThen];rw[Oper.upon_value];go_wp2;rw[run_callFunc_extern Tryz.func258 (by kernel_rfl) (by kernel_rfl) (by kernel_rfl) (e:=Extern.AbiNoEscape.same) (by kernel_rfl)];rw[Lib.run_noEscape];simp only[Result.andThen];rw[Oper.upon_value];go_wp2;rw[Lib.run_from_unsafe w ⟨b,0,none⟩ Tryz.underlying230 Tryz.underlying164 hj hsh (by kernel_rfl)];simp only[Result.andThen];rw[Oper.upon_value];go_wp2;go_end0;exact⟨rfl,rfl⟩
def Km(B b:Nat)(bs:List Value)(w:World)(h:Lib.IsBuilderF 166 5 B b bs w):
    Calls Tryz.prog 226 #[.pointer (some ⟨b,0,none⟩)] w λe w'=>e=.returned (.tuple #[])/\(Lib.BuilderAtF 166 5 B b (.pointer (some ⟨b,0,none⟩)) bs w'/\Below B w w'):=by
  rcases h with h|h
  · refine(Kn b w h.cell0 h.shape h.frozen0).mono ?_
    rintro e w' ⟨rfl,rfl⟩
    exact⟨rfl,h.used _,(Below.refl B w).setCell (p:=⟨b,0,none⟩) h.1 _⟩
  · refine(Ko b w h.cell0).mono ?_
    rintro e w' ⟨rfl,rfl⟩
    exact⟨rfl,h,Below.refl B _⟩
set_option maxHeartbeats 2000000 in
set_option maxRecDepth 100000 in
def Kq(B b:Nat)(bs:List Value)(s:ByteArray)(w:World)(h:Lib.IsBuilderF 166 5 B b bs w)(hlen:bs.length+s.size<=140737488355328)(hBw:B<=w.heap.size):
    Calls Tryz.prog 156 #[.pointer (some ⟨b,0,none⟩),.string s] w λe w'=>e=.returned (.tuple #[.int .i64 s.size,.nilIface])/\(Lib.BuilderAtF 166 5 B b (.pointer (some ⟨b,0,none⟩)) (bs++Lib.strCells s) w'/\Below B w w'):=by
  obtain⟨i0,hi,hz0,hz1,hz2⟩:=info_parts (P:=Tryz.prog) (e:=5) (z:=.int .u8 0) (size:=1) (bytes:=1) (by kernel_rfl);go_enter Tryz.func156,Tryz.ntmps156;go_wp2_with (go_at_call 226;refine(Km B b bs _ h).mono ?_);rintro e w1 ⟨rfl,h1,ga⟩;obtain⟨hB,v,hbk,hown,hne⟩:=h1;have c0:w1.cell? ⟨b,0,none⟩=some (.pointer (some ⟨b,0,none⟩)):=by rw[Lib.cell_of_heap hbk];rfl
  have c1:w1.cell? ⟨b,1,none⟩=some v:=by rw[Lib.cell_of_heap hbk];rfl
  go_wp2_with (at_builtin;refine Lib.wpList_append_own_stringF _ rfl _ _ 22 9 rfl B 5 i0 Tryz.underlying22 Tryz.underlying9 hi hz0 hz1 hz2 _ _ _ rfl hown s rfl ?c3 ?c4 ?c5 ?_);case c3=>unfold maxLen;omega
  case c4=>omega
  case c5=>have:=ga.size;omega
  intro v' w2 hown' hgrow _
  have hlt:b<w1.heap.size:=by
    rcases fA b w1.heap.size with h'|h';· exact h'
    · simp[ja h'] at hbk
  have fF:w2.heap[b]?=some (.cells #[.pointer (some ⟨b,0,none⟩),v] 166 (0,0)):=by rw[hgrow.block b hlt (λe=>hne e.symm)];exact hbk
  have d0:w2.cell? ⟨b,0,none⟩=some (.pointer (some ⟨b,0,none⟩)):=by rw[Lib.cell_of_heap fF];rfl
  have d1:w2.cell? ⟨b,1,none⟩=some v:=by rw[Lib.cell_of_heap fF];rfl
  have f1:w2.frozen? ⟨b,1,none⟩=false:=Lib.frozen_of_heap fF 1
  obtain⟨ao,n',cap,rfl⟩:∃ao n' cap,v'=.slice ao n' cap:=by
    rcases hown'.2 with ⟨hv,_⟩|⟨g,cap,cur,fz,hv,_⟩;· exact⟨_,_,_,hv⟩
    · exact⟨_,_,_,hv⟩
  go_wp2;go_ret2;refine⟨rfl,?_,?_⟩;· exact Lib.BuilderAtF.put (T:=166) (e:=5) hB fF (bs':=bs++Lib.strCells s) (by simpa [Lib.strCells_length] using hown') (by decide)
  · exact(ga.grown hgrow (by have:=ga.size;omega) (λk hk=>(hown.lt k hk).1)).setCell (p:=⟨b,1,none⟩) hB _
set_option maxHeartbeats 4000000 in
set_option maxRecDepth 1000000 in
def Nx(A:Option Addr)(cap:Nat)(fs:List (ByteArray×ByteArray))(w:World)
    (hc:∀i f,fs[i]?=some f->∃g o,A=some ⟨g,o,none⟩/\g<w.heap.size/\w.cell? ⟨g,o+i*2,none⟩=some (.string f.1)/\w.cell? ⟨g,o+i*2+1,none⟩=some (.string f.2))
    (hb:(M.fW fs).length<=140737488355328)(hl:fs.length<=140737488355328):
    Calls Tryz.prog 63 #[.slice A fs.length cap] w λe w'=>e=.returned (.string ⟨(M.fW fs).toArray⟩)/\Below w.heap.size w w':=by
  go_enter Tryz.func63,Tryz.ntmps63;go_wp2;go_loopw [8] (λvi wr=>∃k:Nat,vi=.int .i64 k/\k<=fs.length/\Lib.IsBuilderF 166 5 w.heap.size w.heap.size (Lib.byteCells (M.fW (fs.take k))) wr/\Below w.heap.size w wr) (λvi _=>fs.length - (intOf vi).toNat);case atStart=>exact⟨0,rfl,pS _,Lib.IsBuilderF.of (Lib.fresh_isBuilder 166 5 w),(Below.refl _ w).alloc (ez _) _⟩
  case round=>
    obtain⟨k,rfl,hk,hI,tn⟩:=hrel;have hsz:w.heap.size<=wr.heap.size:=tn.size;by_cases hlt:k<fs.length
    · obtain⟨g,o,rfl,hg,hk1⟩:=hc k fs[k] (by simp[hlt])
      have c1:wr.cell? ⟨g,o+k*2,none⟩=some (.string fs[k].1):=by rw[tn.cell (p:=⟨g,o+k*2,none⟩) hg];exact hk1.1
      have c2:wr.cell? ⟨g,o+k*2+1,none⟩=some (.string fs[k].2):=by rw[tn.cell (p:=⟨g,o+k*2+1,none⟩) hg];exact hk1.2
      have hlt2:(k:Int)<fs.length:=by omega
      have hle:=M.Ny hlt
      have htk:=M.FN hlt
      have s1:¬9223372036854775807<fs[k].1.size+2:=by omega
      have s2:¬9223372036854775807<fs[k].1.size+2+fs[k].2.size:=by omega
      have s3:¬9223372036854775807<fs[k].1.size+2+fs[k].2.size+2:=by omega
      go_wp2_with (go_at_call 156;refine(Kq w.heap.size w.heap.size _ _ _ (hI.alloc _) ?_ ?_).mono ?_)
      · rw[Lib.byteCells_length]
        simp only[ByteArray.size_append]
        have e1:(⟨#[58,32]⟩:ByteArray).size=2:=rfl
        have e2:(⟨#[13,10]⟩:ByteArray).size=2:=rfl
        omega
      · simp only[World.alloc]
        simp
        omega
      rintro e W1 ⟨rfl,h1,b1⟩
      go_wp2
      go_roundw
      case rel=>
        refine⟨k+1,by go_num,by omega,?_,(tn.alloc hsz _).trans b1⟩
        rw[htk,Lib.byteCells_append]
        refine Or.inr ?_
        have e:Lib.strCells (fs[k].1++⟨#[58,32]⟩++fs[k].2++⟨#[13,10]⟩)=Lib.byteCells (fs[k].1.data.toList++[58,32]++fs[k].2.data.toList++[13,10]):=by rw[Lib.strCells_eq];congr 1
        rw[<-e]
        exact h1
      case measure=>
        simp[intOf]
        omega
    · have hlt2:¬(k:Int)<fs.length:=by omega
      go_wp2_with (go_at_call 157;refine(Tryz.Builder_String_any_f w.heap.size w.heap.size _ _ hI hsz).mono ?_)
      rintro e W1 rfl h2 b1
      clear h2
      go_wp2
      go_ret
      have:k=fs.length:=by omega
      subst this
      rw[r7]
      exact⟨rfl,tn.trans b1⟩
end Go.Proofs
namespace Go.Proofs
open Go.RowKit
set_option maxHeartbeats 2000000 in
set_option maxRecDepth 100000 in
def PJ(s:ByteArray)(h:7<s.size)(w:World):
    Calls Go.Proofs.Tryz.prog 20 #[.string s] w λe w'=>e=.returned (.tuple #[.int .i64 0,.bool false])/\w'=w:=by go_enter Tryz.func20,Tryz.ntmps20;go_wp2;· go_ret2;exact⟨rfl,rfl⟩
set_option maxHeartbeats 2000000 in
set_option maxRecDepth 100000 in
def PL(s:ByteArray)(h:¬7<s.size)(v:Int)(hv:Lib.atoiAll s.data.toList=.ok v)(w:World)(htab:Lib.TabIs Go.Proofs.Tryz.prog w "internal/strconv.uint64pow10" .u64 Lib.pow10Tab):
    Calls Go.Proofs.Tryz.prog 20 #[.string s] w λe w'=>e=.returned (.tuple #[.int .i64 (qZ v s.data.toList),.bool (kG v s.data.toList)])/\Below w.heap.size w w':=by
  have iN:=Lib.atoiAll_bounds hv;go_enter Tryz.func20,Tryz.ntmps20
  go_wp2_with (first
    |(go_at_call 90;refine(Tryz.strconv_Atoi_ok s (by omega) v hv _).mono ?_;rintro e W1 ⟨rfl,F8⟩;have ga:Below w.heap.size w W1:=(by rcases F8 with rfl|⟨t,rfl⟩;exact Below.refl _ _;exact Lib.bytesWorld_below _ _ _);clear F8)
    |(go_at_call 62;refine(Tryz.strconv_Itoa v iN.1 iN.2 _ (RI htab ga)).mono ?_;rintro e W2 ⟨rfl,k,os,F9⟩;have fF:Below w.heap.size w W2:=(by subst F9;exact ga.trans ((NF W1 k os).mono ga.size));clear F9)
    |go_in)
  all_goals go_ret2
  all_goals refine⟨?_,by assumption⟩
  all_goals first
    | (have hb : kG v s.data.toList = true := (by
        unfold kG;rw[aP];refine⟨by assumption,by assumption,?_⟩;rw[<-Lib.toList_data];rename_i hz
        simpa using hz)
       rw[qZ,aA hb,hb];rfl)
    | (have hb : kG v s.data.toList = false := (by
        unfold kG;rw[Dt];rintro ⟨h1,h2,h3⟩;first
        |omega
        | (rw[<-Lib.toList_data] at h3
           rename_i hz
           simp[h3] at hz))
       rw[qZ,hb];rfl)
set_option maxHeartbeats 2000000 in
set_option maxRecDepth 100000 in
def PI(s:ByteArray)(h:¬7<s.size)(w:World)
    (hA:Calls Go.Proofs.Tryz.prog 90 #[.string s] w λe w'=>∃n t N,e=.returned (.tuple #[.int .i64 n,.iface t (.pointer (some ⟨N,0,none⟩))])/\Below w.heap.size w w'):
    Calls Go.Proofs.Tryz.prog 20 #[.string s] w λe w'=>e=.returned (.tuple #[.int .i64 0,.bool false])/\Below w.heap.size w w':=by
  go_enter Tryz.func20,Tryz.ntmps20
  go_wp2_with (first
    |(go_at_call 90;refine hA.mono ?_;rintro e W1 ⟨n,t,N,rfl,ga⟩)
    |go_in)
  all_goals go_ret2
  all_goals exact⟨rfl,by assumption⟩
def PG[B:M.Bs](htab:Lib.TabIs Go.Proofs.Tryz.prog B.W0 "internal/strconv.uint64pow10" .u64 Lib.pow10Tab) (Bk:∃te pe,B.W0.var? Go.Proofs.Tryz.prog "strconv.ErrSyntax" =some #[.iface te pe]) (gX:∃te pe,B.W0.var? Go.Proofs.Tryz.prog "strconv.ErrRange" =some #[.iface te pe])
    (s:ByteArray) (w:World) (hw:M.j9 w) (hs:s.size<=9223372036854775807):
    Calls Go.Proofs.Tryz.prog 20 #[.string s] w λe w'=>e=.returned (.tuple #[.int .i64 (((M.b9 s.data.toList).getD 0:Nat):Int),.bool (M.b9 s.data.toList).isSome])/\Below w.heap.size w w':=by
  refine PK (a:=0) hs (λh=>PJ s h w) (λh v hv=>PL s h v hv w (M.TabIs.same htab hw)) λh hv=>?_;refine PI s h w ?_;rcases dw:Lib.atoiAll s.data.toList with v|_|_;· exact absurd dw (hv v)
  · obtain⟨te,pe,h1⟩:=Bk
    exact(Any.strconv_Atoi_syntax_var Tryz.laysC172 s (by omega) dw te pe w (Iy h1 hw)).mono λe w' ⟨N,he,_,_,hb⟩=>⟨_,_,N,he,hb⟩
  · obtain⟨te,pe,h1⟩:=gX
    exact(Any.strconv_Atoi_range_var Tryz.laysC172 s (by omega) dw te pe w (Iy h1 hw)).mono λe w' ⟨N,he,_,_,hb⟩=>⟨_,_,N,he,hb⟩
end Go.Proofs
namespace M
open Go
variable [Bs]
def SU:Told Go.Proofs.Tryz.prog 3 ic [.t 2] 1:=Told.of Go.Proofs.Tryz.func3 (by decide+kernel)
def MG:aF Go.Proofs.Tryz.prog 3=true:=by decide+kernel
def Tl:Told Go.Proofs.Tryz.prog 8 xS [.t 2] 1:=Told.of Go.Proofs.Tryz.func8 (by decide+kernel)
def M9:aF Go.Proofs.Tryz.prog 8=true:=by decide+kernel
def Tx:Told Go.Proofs.Tryz.prog 9 ym [.c 2 4 true 26,.c 3 7 true 31,.t 4] 1:=Told.of Go.Proofs.Tryz.func9 (by decide+kernel)
def Nl:aF Go.Proofs.Tryz.prog 9=true:=by decide+kernel
def RP:Told Go.Proofs.Tryz.prog 10 oI [.c 6 3 true 29] 3:=Told.of Go.Proofs.Tryz.func10 (by decide+kernel)
def LK:aF Go.Proofs.Tryz.prog 10=true:=by decide+kernel
def RQ:Told Go.Proofs.Tryz.prog 11 tT [.t 2] 1:=Told.of Go.Proofs.Tryz.func11 (by decide+kernel)
def LL:aF Go.Proofs.Tryz.prog 11=true:=by decide+kernel
def RW:Told Go.Proofs.Tryz.prog 12 uU [.t 2] 1:=Told.of Go.Proofs.Tryz.func12 (by decide+kernel)
def LQ:aF Go.Proofs.Tryz.prog 12=true:=by decide+kernel
def RZ:Told Go.Proofs.Tryz.prog 13 oY [.c 6 3 true 29] 3:=Told.of Go.Proofs.Tryz.func13 (by decide+kernel)
def LU:aF Go.Proofs.Tryz.prog 13=true:=by decide+kernel
def R2:Told Go.Proofs.Tryz.prog 14 nF [.c 2 4 true 26,.c 3 4 true 26] 1:=Told.of Go.Proofs.Tryz.func14 (by decide+kernel)
def LW:aF Go.Proofs.Tryz.prog 14=true:=by decide+kernel
def R3:Told Go.Proofs.Tryz.prog 15 oH [.t 4] 2:=Told.of Go.Proofs.Tryz.func15 (by decide+kernel)
def LX:aF Go.Proofs.Tryz.prog 15=true:=by decide+kernel
def Sa:Told Go.Proofs.Tryz.prog 16 kN [.t 4] 2:=Told.of Go.Proofs.Tryz.func16 (by decide+kernel)
def L3:aF Go.Proofs.Tryz.prog 16=true:=by decide+kernel
def Sn:Told Go.Proofs.Tryz.prog 17 qJ [.t 2] 1:=Told.of Go.Proofs.Tryz.func17 (by decide+kernel)
def Mf:aF Go.Proofs.Tryz.prog 17=true:=by decide+kernel
def Sw:Told Go.Proofs.Tryz.prog 18 ju [.t 2] 1:=Told.of Go.Proofs.Tryz.func18 (by decide+kernel)
def Ml:aF Go.Proofs.Tryz.prog 18=true:=by decide+kernel
def SC:Told Go.Proofs.Tryz.prog 19 tP [.t 4,.t 5] 2:=Told.of Go.Proofs.Tryz.func19 (by decide+kernel)
def Mq:aF Go.Proofs.Tryz.prog 19=true:=by decide+kernel
def SK:Told Go.Proofs.Tryz.prog 21 qH [.t 6] 3:=Told.of Go.Proofs.Tryz.func21 (by decide+kernel)
def Mx:aF Go.Proofs.Tryz.prog 21=true:=by decide+kernel
def SL:Told Go.Proofs.Tryz.prog 22 oL [.t 2] 1:=Told.of Go.Proofs.Tryz.func22 (by decide+kernel)
def My:aF Go.Proofs.Tryz.prog 22=true:=by decide+kernel
def SR:Told Go.Proofs.Tryz.prog 23 qK [.t 4] 2:=Told.of Go.Proofs.Tryz.func23 (by decide+kernel)
def ME:aF Go.Proofs.Tryz.prog 23=true:=by decide+kernel
def SV:Told Go.Proofs.Tryz.prog 39 xw [.c 2 6 true 72] 1:=Told.of Go.Proofs.Tryz.func39 (by decide+kernel)
def MH:aF Go.Proofs.Tryz.prog 39=true:=by decide+kernel
def SW:Told Go.Proofs.Tryz.prog 54 yO [.t 2] 1:=Told.of Go.Proofs.Tryz.func54 (by decide+kernel)
def MI:aF Go.Proofs.Tryz.prog 54=true:=by decide+kernel
def SX:Told Go.Proofs.Tryz.prog 55 jv [.c 2 4 true 26] 1:=Told.of Go.Proofs.Tryz.func55 (by decide+kernel)
def MJ:aF Go.Proofs.Tryz.prog 55=true:=by decide+kernel
def SY:Told Go.Proofs.Tryz.prog 56 iu [.c 2 7 true 31] 1:=Told.of Go.Proofs.Tryz.func56 (by decide+kernel)
def MK:aF Go.Proofs.Tryz.prog 56=true:=by decide+kernel
def SZ:Told Go.Proofs.Tryz.prog 57 rP [.t 2] 1:=Told.of Go.Proofs.Tryz.func57 (by decide+kernel)
def ML:aF Go.Proofs.Tryz.prog 57=true:=by decide+kernel
def S0:Told Go.Proofs.Tryz.prog 58 xI [.c 2 3 true 29] 1:=Told.of Go.Proofs.Tryz.func58 (by decide+kernel)
def MN:aF Go.Proofs.Tryz.prog 58=true:=by decide+kernel
def S1:Told Go.Proofs.Tryz.prog 59 xC [.c 2 3 true 29] 1:=Told.of Go.Proofs.Tryz.func59 (by decide+kernel)
def MO:aF Go.Proofs.Tryz.prog 59=true:=by decide+kernel
def S2:Told Go.Proofs.Tryz.prog 60 tS [.t 6] 3:=Told.of Go.Proofs.Tryz.func60 (by decide+kernel)
def MP:aF Go.Proofs.Tryz.prog 60=true:=by decide+kernel
def S3:Told Go.Proofs.Tryz.prog 61 tR [.t 2] 1:=Told.of Go.Proofs.Tryz.func61 (by decide+kernel)
def MQ:aF Go.Proofs.Tryz.prog 61=true:=by decide+kernel
def S4:Told Go.Proofs.Tryz.prog 64 xN [.t 2] 1:=Told.of Go.Proofs.Tryz.func64 (by decide+kernel)
def MR:aF Go.Proofs.Tryz.prog 64=true:=by decide+kernel
def S5:Told Go.Proofs.Tryz.prog 65 pz [.t 2] 1:=Told.of Go.Proofs.Tryz.func65 (by decide+kernel)
def MS:aF Go.Proofs.Tryz.prog 65=true:=by decide+kernel
def S6:Told Go.Proofs.Tryz.prog 66 rB [.t 2] 1:=Told.of Go.Proofs.Tryz.func66 (by decide+kernel)
def MT:aF Go.Proofs.Tryz.prog 66=true:=by decide+kernel
def S7:Told Go.Proofs.Tryz.prog 67 yu [.t 2] 1:=Told.of Go.Proofs.Tryz.func67 (by decide+kernel)
def MU:aF Go.Proofs.Tryz.prog 67=true:=by decide+kernel
def S8:Told Go.Proofs.Tryz.prog 68 yY [.c 2 3 true 29] 1:=Told.of Go.Proofs.Tryz.func68 (by decide+kernel)
def MW:aF Go.Proofs.Tryz.prog 68=true:=by decide+kernel
def S9:Told Go.Proofs.Tryz.prog 69 rE [.t 4] 2:=Told.of Go.Proofs.Tryz.func69 (by decide+kernel)
def MX:aF Go.Proofs.Tryz.prog 69=true:=by decide+kernel
def Ta:Told Go.Proofs.Tryz.prog 70 yz [.c 2 3 true 29] 1:=Told.of Go.Proofs.Tryz.func70 (by decide+kernel)
def MY:aF Go.Proofs.Tryz.prog 70=true:=by decide+kernel
def Tb:Told Go.Proofs.Tryz.prog 71 uT [.t 6] 3:=Told.of Go.Proofs.Tryz.func71 (by decide+kernel)
def MZ:aF Go.Proofs.Tryz.prog 71=true:=by decide+kernel
def Tc:Told Go.Proofs.Tryz.prog 72 rz [.t 6] 3:=Told.of Go.Proofs.Tryz.func72 (by decide+kernel)
def M0:aF Go.Proofs.Tryz.prog 72=true:=by decide+kernel
def Td:Told Go.Proofs.Tryz.prog 73 yP [.t 4] 2:=Told.of Go.Proofs.Tryz.func73 (by decide+kernel)
def M1:aF Go.Proofs.Tryz.prog 73=true:=by decide+kernel
def Te:Told Go.Proofs.Tryz.prog 74 yX [.c 2 4 true 26] 1:=Told.of Go.Proofs.Tryz.func74 (by decide+kernel)
def M3:aF Go.Proofs.Tryz.prog 74=true:=by decide+kernel
def Tf:Told Go.Proofs.Tryz.prog 75 rM [.c 2 4 true 26] 1:=Told.of Go.Proofs.Tryz.func75 (by decide+kernel)
def M4:aF Go.Proofs.Tryz.prog 75=true:=by decide+kernel
def Tg:Told Go.Proofs.Tryz.prog 76 xM [.t 2] 1:=Told.of Go.Proofs.Tryz.func76 (by decide+kernel)
def M5:aF Go.Proofs.Tryz.prog 76=true:=by decide+kernel
def Th:Told Go.Proofs.Tryz.prog 77 zy [.t 4] 2:=Told.of Go.Proofs.Tryz.func77 (by decide+kernel)
def M6:aF Go.Proofs.Tryz.prog 77=true:=by decide+kernel
def Ti:Told Go.Proofs.Tryz.prog 78 rD [.t 2] 1:=Told.of Go.Proofs.Tryz.func78 (by decide+kernel)
def M7:aF Go.Proofs.Tryz.prog 78=true:=by decide+kernel
def Tj:Told Go.Proofs.Tryz.prog 79 rI [.t 4] 2:=Told.of Go.Proofs.Tryz.func79 (by decide+kernel)
def M8:aF Go.Proofs.Tryz.prog 79=true:=by decide+kernel
def Tm:Told Go.Proofs.Tryz.prog 80 yj [.c 2 6 true 72] 1:=Told.of Go.Proofs.Tryz.func80 (by decide+kernel)
def Na:aF Go.Proofs.Tryz.prog 80=true:=by decide+kernel
def Tn:Told Go.Proofs.Tryz.prog 81 qI [.t 2] 1:=Told.of Go.Proofs.Tryz.func81 (by decide+kernel)
def Nb:aF Go.Proofs.Tryz.prog 81=true:=by decide+kernel
def To:Told Go.Proofs.Tryz.prog 82 xO [.t 2] 1:=Told.of Go.Proofs.Tryz.func82 (by decide+kernel)
def Nc:aF Go.Proofs.Tryz.prog 82=true:=by decide+kernel
def Tp:Told Go.Proofs.Tryz.prog 83 pI [.t 2] 1:=Told.of Go.Proofs.Tryz.func83 (by decide+kernel)
def Nd:aF Go.Proofs.Tryz.prog 83=true:=by decide+kernel
def Tq:Told Go.Proofs.Tryz.prog 84 yK [.t 6] 3:=Told.of Go.Proofs.Tryz.func84 (by decide+kernel)
def Nf:aF Go.Proofs.Tryz.prog 84=true:=by decide+kernel
def Ts:Told Go.Proofs.Tryz.prog 85 yW [.t 2] 1:=Told.of Go.Proofs.Tryz.func85 (by decide+kernel)
def Ng:aF Go.Proofs.Tryz.prog 85=true:=by decide+kernel
def Tt:Told Go.Proofs.Tryz.prog 86 rR [.t 4] 2:=Told.of Go.Proofs.Tryz.func86 (by decide+kernel)
def Nh:aF Go.Proofs.Tryz.prog 86=true:=by decide+kernel
def Tu:Told Go.Proofs.Tryz.prog 87 yF [.t 2] 1:=Told.of Go.Proofs.Tryz.func87 (by decide+kernel)
def Ni:aF Go.Proofs.Tryz.prog 87=true:=by decide+kernel
def Tv:Told Go.Proofs.Tryz.prog 88 pF [.t 2] 1:=Told.of Go.Proofs.Tryz.func88 (by decide+kernel)
def Nj:aF Go.Proofs.Tryz.prog 88=true:=by decide+kernel
def Tw:Told Go.Proofs.Tryz.prog 89 xK [.t 4] 2:=Told.of Go.Proofs.Tryz.func89 (by decide+kernel)
def Nk:aF Go.Proofs.Tryz.prog 89=true:=by decide+kernel
def Tz:Told Go.Proofs.Tryz.prog 91 xL [.t 6] 3:=Told.of Go.Proofs.Tryz.func91 (by decide+kernel)
def Nn:aF Go.Proofs.Tryz.prog 91=true:=by decide+kernel
def TA:Told Go.Proofs.Tryz.prog 92 xB [.t 4] 2:=Told.of Go.Proofs.Tryz.func92 (by decide+kernel)
def Np:aF Go.Proofs.Tryz.prog 92=true:=by decide+kernel
def TB:Told Go.Proofs.Tryz.prog 93 qO [.t 4] 2:=Told.of Go.Proofs.Tryz.func93 (by decide+kernel)
def Nq:aF Go.Proofs.Tryz.prog 93=true:=by decide+kernel
def TC:Told Go.Proofs.Tryz.prog 94 xy [.t 2] 1:=Told.of Go.Proofs.Tryz.func94 (by decide+kernel)
def Nr:aF Go.Proofs.Tryz.prog 94=true:=by decide+kernel
def RR:Told Go.Proofs.Tryz.prog 110 pG [.t 4] 2:=Told.of Go.Proofs.Tryz.func110 (by decide+kernel)
def LM:aF Go.Proofs.Tryz.prog 110=true:=by decide+kernel
def RS:Told Go.Proofs.Tryz.prog 114 oM [.t 2] 1:=Told.of Go.Proofs.Tryz.func114 (by decide+kernel)
def LN:aF Go.Proofs.Tryz.prog 114=true:=by decide+kernel
def RT:Told Go.Proofs.Tryz.prog 115 qN [.t 2] 1:=Told.of Go.Proofs.Tryz.func115 (by decide+kernel)
def LO:aF Go.Proofs.Tryz.prog 115=true:=by decide+kernel
def RU:Told Go.Proofs.Tryz.prog 119 xx [.c 2 6 true 72] 1:=Told.of Go.Proofs.Tryz.func119 (by decide+kernel)
def LP:aF Go.Proofs.Tryz.prog 119=true:=by decide+kernel
def RX:Told Go.Proofs.Tryz.prog 124 yQ [.t 4] 2:=Told.of Go.Proofs.Tryz.func124 (by decide+kernel)
def LR:aF Go.Proofs.Tryz.prog 124=true:=by decide+kernel
def RY:Told Go.Proofs.Tryz.prog 125 rG [.c 4 7 true 31] 2:=Told.of Go.Proofs.Tryz.func125 (by decide+kernel)
def LS:aF Go.Proofs.Tryz.prog 125=true:=by decide+kernel
def R1:Told Go.Proofs.Tryz.prog 135 yL [.t 4] 2:=Told.of Go.Proofs.Tryz.func135 (by decide+kernel)
def LV:aF Go.Proofs.Tryz.prog 135=true:=by decide+kernel
def R4:Told Go.Proofs.Tryz.prog 151 yR [.t 4] 2:=Told.of Go.Proofs.Tryz.func151 (by decide+kernel)
def LY:aF Go.Proofs.Tryz.prog 151=true:=by decide+kernel
def R5:Told Go.Proofs.Tryz.prog 152 kP [.t 2] 1:=Told.of Go.Proofs.Tryz.func152 (by decide+kernel)
def LZ:aF Go.Proofs.Tryz.prog 152=true:=by decide+kernel
def R6:Told Go.Proofs.Tryz.prog 153 kQ [.c 2 3 true 29] 1:=Told.of Go.Proofs.Tryz.func153 (by decide+kernel)
def L0:aF Go.Proofs.Tryz.prog 153=true:=by decide+kernel
def R8:Told Go.Proofs.Tryz.prog 158 yt [.t 2] 1:=Told.of Go.Proofs.Tryz.func158 (by decide+kernel)
def L1:aF Go.Proofs.Tryz.prog 158=true:=by decide+kernel
def R9:Told Go.Proofs.Tryz.prog 159 yV [.t 2] 1:=Told.of Go.Proofs.Tryz.func159 (by decide+kernel)
def L2:aF Go.Proofs.Tryz.prog 159=true:=by decide+kernel
def Sb:Told Go.Proofs.Tryz.prog 160 uN [.t 4,.t 5] 2:=Told.of Go.Proofs.Tryz.func160 (by decide+kernel)
def L4:aF Go.Proofs.Tryz.prog 160=true:=by decide+kernel
def Sc:Told Go.Proofs.Tryz.prog 161 ve [.t 4] 2:=Told.of Go.Proofs.Tryz.func161 (by decide+kernel)
def L5:aF Go.Proofs.Tryz.prog 161=true:=by decide+kernel
def Sd:Told Go.Proofs.Tryz.prog 162 nI [.t 2,.t 3] 1:=Told.of Go.Proofs.Tryz.func162 (by decide+kernel)
def L6:aF Go.Proofs.Tryz.prog 162=true:=by decide+kernel
def Sf:Told Go.Proofs.Tryz.prog 163 yy [.t 4] 2:=Told.of Go.Proofs.Tryz.func163 (by decide+kernel)
def L7:aF Go.Proofs.Tryz.prog 163=true:=by decide+kernel
def Sg:Told Go.Proofs.Tryz.prog 164 pJ [.t 4] 2:=Told.of Go.Proofs.Tryz.func164 (by decide+kernel)
def L8:aF Go.Proofs.Tryz.prog 164=true:=by decide+kernel
def Si:Told Go.Proofs.Tryz.prog 165 rL [.t 2] 1:=Told.of Go.Proofs.Tryz.func165 (by decide+kernel)
def L9:aF Go.Proofs.Tryz.prog 165=true:=by decide+kernel
def Sj:Told Go.Proofs.Tryz.prog 166 yl [.c 2 6 true 72] 1:=Told.of Go.Proofs.Tryz.func166 (by decide+kernel)
def Ma:aF Go.Proofs.Tryz.prog 166=true:=by decide+kernel
def Sk:Told Go.Proofs.Tryz.prog 167 yB [.t 2] 1:=Told.of Go.Proofs.Tryz.func167 (by decide+kernel)
def Mb:aF Go.Proofs.Tryz.prog 167=true:=by decide+kernel
def Sl:Told Go.Proofs.Tryz.prog 168 yA [.t 2] 1:=Told.of Go.Proofs.Tryz.func168 (by decide+kernel)
def Mc:aF Go.Proofs.Tryz.prog 168=true:=by decide+kernel
def Sm:Told Go.Proofs.Tryz.prog 169 yw [.t 2] 1:=Told.of Go.Proofs.Tryz.func169 (by decide+kernel)
def Me:aF Go.Proofs.Tryz.prog 169=true:=by decide+kernel
def Sq:Told Go.Proofs.Tryz.prog 170 yC [.t 2] 1:=Told.of Go.Proofs.Tryz.func170 (by decide+kernel)
def Mg:aF Go.Proofs.Tryz.prog 170=true:=by decide+kernel
def Sr:Told Go.Proofs.Tryz.prog 171 vG [.t 4] 2:=Told.of Go.Proofs.Tryz.func171 (by decide+kernel)
def Mh:aF Go.Proofs.Tryz.prog 171=true:=by decide+kernel
def Ss:Told Go.Proofs.Tryz.prog 172 xJ [.t 3] 2:=Told.of Go.Proofs.Tryz.func172 (by decide+kernel)
def Mi:aF Go.Proofs.Tryz.prog 172=true:=by decide+kernel
def Su:Told Go.Proofs.Tryz.prog 175 xP [.t 2] 1:=Told.of Go.Proofs.Tryz.func175 (by decide+kernel)
def Mj:aF Go.Proofs.Tryz.prog 175=true:=by decide+kernel
def Sv:Told Go.Proofs.Tryz.prog 176 xF [.t 2] 1:=Told.of Go.Proofs.Tryz.func176 (by decide+kernel)
def Mk:aF Go.Proofs.Tryz.prog 176=true:=by decide+kernel
def Sy:Told Go.Proofs.Tryz.prog 180 yE [.t 4] 2:=Told.of Go.Proofs.Tryz.func180 (by decide+kernel)
def Mm:aF Go.Proofs.Tryz.prog 180=true:=by decide+kernel
def Sz:Told Go.Proofs.Tryz.prog 186 rJ [.t 2] 1:=Told.of Go.Proofs.Tryz.func186 (by decide+kernel)
def Mn:aF Go.Proofs.Tryz.prog 186=true:=by decide+kernel
def SA:Told Go.Proofs.Tryz.prog 188 xH [.t 4] 2:=Told.of Go.Proofs.Tryz.func188 (by decide+kernel)
def Mo:aF Go.Proofs.Tryz.prog 188=true:=by decide+kernel
def SB:Told Go.Proofs.Tryz.prog 189 xG [.t 2] 1:=Told.of Go.Proofs.Tryz.func189 (by decide+kernel)
def Mp:aF Go.Proofs.Tryz.prog 189=true:=by decide+kernel
def SE:Told Go.Proofs.Tryz.prog 190 xE [.t 2] 1:=Told.of Go.Proofs.Tryz.func190 (by decide+kernel)
def Mr:aF Go.Proofs.Tryz.prog 190=true:=by decide+kernel
def SF:Told Go.Proofs.Tryz.prog 191 xA [.t 2] 1:=Told.of Go.Proofs.Tryz.func191 (by decide+kernel)
def Ms:aF Go.Proofs.Tryz.prog 191=true:=by decide+kernel
def SG:Told Go.Proofs.Tryz.prog 192 lJ [] 2:=Told.of Go.Proofs.Tryz.func192 (by decide+kernel)
def Mt:aF Go.Proofs.Tryz.prog 192=true:=by decide+kernel
def SH:Told Go.Proofs.Tryz.prog 198 rN [.c 2 3 true 29] 1:=Told.of Go.Proofs.Tryz.func198 (by decide+kernel)
def Mu:aF Go.Proofs.Tryz.prog 198=true:=by decide+kernel
def SI:Told Go.Proofs.Tryz.prog 199 yq [.t 4] 2:=Told.of Go.Proofs.Tryz.func199 (by decide+kernel)
def Mv:aF Go.Proofs.Tryz.prog 199=true:=by decide+kernel
def SJ:Told Go.Proofs.Tryz.prog 200 rC [.c 6 7 true 31,.t 7] 3:=Told.of Go.Proofs.Tryz.func200 (by decide+kernel)
def Mw:aF Go.Proofs.Tryz.prog 200=true:=by decide+kernel
def SM:Told Go.Proofs.Tryz.prog 223 yT [.t 2] 1:=Told.of Go.Proofs.Tryz.func223 (by decide+kernel)
def Mz:aF Go.Proofs.Tryz.prog 223=true:=by decide+kernel
def SN:Told Go.Proofs.Tryz.prog 224 fq [.c 2 2 true 104] 1:=Told.of Go.Proofs.Tryz.func224 (by decide+kernel)
def MA:aF Go.Proofs.Tryz.prog 224=true:=by decide+kernel
def SO:Told Go.Proofs.Tryz.prog 227 yM [.t 4] 2:=Told.of Go.Proofs.Tryz.func227 (by decide+kernel)
def MB:aF Go.Proofs.Tryz.prog 227=true:=by decide+kernel
def SP:Told Go.Proofs.Tryz.prog 228 yJ [.t 2] 1:=Told.of Go.Proofs.Tryz.func228 (by decide+kernel)
def MC:aF Go.Proofs.Tryz.prog 228=true:=by decide+kernel
def SQ:Told Go.Proofs.Tryz.prog 229 rO [.t 2,.t 3] 1:=Told.of Go.Proofs.Tryz.func229 (by decide+kernel)
def MD:aF Go.Proofs.Tryz.prog 229=true:=by decide+kernel
def SS:Told Go.Proofs.Tryz.prog 240 jt [.t 4] 2:=Told.of Go.Proofs.Tryz.func240 (by decide+kernel)
def MF:aF Go.Proofs.Tryz.prog 240=true:=by decide+kernel
def R7:Told Go.Proofs.Tryz.prog 154 (wz 2 32) [.t 2] 1:=Told.of Go.Proofs.Tryz.func154 (by decide+kernel)
set_option maxHeartbeats 4000000 in
def Ui:TT.Ok Go.Proofs.Tryz.prog:=by
  refine⟨λf F h=>?_,λf F h=>?_⟩
  · unfold TT at h
    split at h
    · cases h;exact SU
    · cases h;exact Tl
    · cases h;exact Tx
    · cases h;exact RP
    · cases h;exact RQ
    · cases h;exact RW
    · cases h;exact RZ
    · cases h;exact R2
    · cases h;exact R3
    · cases h;exact Sa
    · cases h;exact Sn
    · cases h;exact Sw
    · cases h;exact SC
    · cases h;exact SK
    · cases h;exact SL
    · cases h;exact SR
    · cases h;exact SV
    · cases h;exact SW
    · cases h;exact SX
    · cases h;exact SY
    · cases h;exact SZ
    · cases h;exact S0
    · cases h;exact S1
    · cases h;exact S2
    · cases h;exact S3
    · cases h;exact S4
    · cases h;exact S5
    · cases h;exact S6
    · cases h;exact S7
    · cases h;exact S8
    · cases h;exact S9
    · cases h;exact Ta
    · cases h;exact Tb
    · cases h;exact Tc
    · cases h;exact Td
    · cases h;exact Te
    · cases h;exact Tf
    · cases h;exact Tg
    · cases h;exact Th
    · cases h;exact Ti
    · cases h;exact Tj
    · cases h;exact Tm
    · cases h;exact Tn
    · cases h;exact To
    · cases h;exact Tp
    · cases h;exact Tq
    · cases h;exact Ts
    · cases h;exact Tt
    · cases h;exact Tu
    · cases h;exact Tv
    · cases h;exact Tw
    · cases h;exact Tz
    · cases h;exact TA
    · cases h;exact TB
    · cases h;exact TC
    · cases h;exact RR
    · cases h;exact RS
    · cases h;exact RT
    · cases h;exact RU
    · cases h;exact RX
    · cases h;exact RY
    · cases h;exact R1
    · cases h;exact R4
    · cases h;exact R5
    · cases h;exact R6
    · cases h;exact R8
    · cases h;exact R9
    · cases h;exact Sb
    · cases h;exact Sc
    · cases h;exact Sd
    · cases h;exact Sf
    · cases h;exact Sg
    · cases h;exact Si
    · cases h;exact Sj
    · cases h;exact Sk
    · cases h;exact Sl
    · cases h;exact Sm
    · cases h;exact Sq
    · cases h;exact Sr
    · cases h;exact Ss
    · cases h;exact Su
    · cases h;exact Sv
    · cases h;exact Sy
    · cases h;exact Sz
    · cases h;exact SA
    · cases h;exact SB
    · cases h;exact SE
    · cases h;exact SF
    · cases h;exact SG
    · cases h;exact SH
    · cases h;exact SI
    · cases h;exact SJ
    · cases h;exact SM
    · cases h;exact SN
    · cases h;exact SO
    · cases h;exact SP
    · cases h;exact SQ
    · cases h;exact SS
    · cases h
  · unfold TT at h
    split at h
    · cases h;exact MG
    · cases h;exact M9
    · cases h;exact Nl
    · cases h;exact LK
    · cases h;exact LL
    · cases h;exact LQ
    · cases h;exact LU
    · cases h;exact LW
    · cases h;exact LX
    · cases h;exact L3
    · cases h;exact Mf
    · cases h;exact Ml
    · cases h;exact Mq
    · cases h;exact Mx
    · cases h;exact My
    · cases h;exact ME
    · cases h;exact MH
    · cases h;exact MI
    · cases h;exact MJ
    · cases h;exact MK
    · cases h;exact ML
    · cases h;exact MN
    · cases h;exact MO
    · cases h;exact MP
    · cases h;exact MQ
    · cases h;exact MR
    · cases h;exact MS
    · cases h;exact MT
    · cases h;exact MU
    · cases h;exact MW
    · cases h;exact MX
    · cases h;exact MY
    · cases h;exact MZ
    · cases h;exact M0
    · cases h;exact M1
    · cases h;exact M3
    · cases h;exact M4
    · cases h;exact M5
    · cases h;exact M6
    · cases h;exact M7
    · cases h;exact M8
    · cases h;exact Na
    · cases h;exact Nb
    · cases h;exact Nc
    · cases h;exact Nd
    · cases h;exact Nf
    · cases h;exact Ng
    · cases h;exact Nh
    · cases h;exact Ni
    · cases h;exact Nj
    · cases h;exact Nk
    · cases h;exact Nn
    · cases h;exact Np
    · cases h;exact Nq
    · cases h;exact Nr
    · cases h;exact LM
    · cases h;exact LN
    · cases h;exact LO
    · cases h;exact LP
    · cases h;exact LR
    · cases h;exact LS
    · cases h;exact LV
    · cases h;exact LY
    · cases h;exact LZ
    · cases h;exact L0
    · cases h;exact L1
    · cases h;exact L2
    · cases h;exact L4
    · cases h;exact L5
    · cases h;exact L6
    · cases h;exact L7
    · cases h;exact L8
    · cases h;exact L9
    · cases h;exact Ma
    · cases h;exact Mb
    · cases h;exact Mc
    · cases h;exact Me
    · cases h;exact Mg
    · cases h;exact Mh
    · cases h;exact Mi
    · cases h;exact Mj
    · cases h;exact Mk
    · cases h;exact Mm
    · cases h;exact Mn
    · cases h;exact Mo
    · cases h;exact Mp
    · cases h;exact Mr
    · cases h;exact Ms
    · cases h;exact Mt
    · cases h;exact Mu
    · cases h;exact Mv
    · cases h;exact Mw
    · cases h;exact Mz
    · cases h;exact MA
    · cases h;exact MB
    · cases h;exact MC
    · cases h;exact MD
    · cases h;exact MF
    · cases h
def Uf(htab:Lib.TabIs Go.Proofs.Tryz.prog Bs.W0 "internal/strconv.uint64pow10" .u64 Lib.pow10Tab) (hmax:∃m,Bs.W0.cell? ⟨3,0,none⟩=some (.int .i64 m)) (Bk:∃te pe,Bs.W0.var? Go.Proofs.Tryz.prog "strconv.ErrSyntax" =some #[.iface te pe]) (gX:∃te pe,Bs.W0.var? Go.Proofs.Tryz.prog "strconv.ErrRange" =some #[.iface te pe]):LI.Sound Go.Proofs.Tryz.prog:=(q6 (LC λA cap fs w h1 h2 h3=>Go.Proofs.Nx A cap fs w h1 h2 h3) (q6 (PN λs w hw hs=>Go.Proofs.PG htab Bk gX s w hw hs) (q6 (Lf R7) (q6 (OR htab λn h0 h1 w ht=>Go.Proofs.Tryz.strconv_Itoa n h0 h1 w ht) (q6 (Lm λs p w=>Go.Proofs.Tryz.strings_CutPrefix s p w) (q6 (Ry (g1:=3) (t9:=_) hmax λs sep m w h1 h2 h3=>Go.Proofs.Tryz.strings_Split s sep m w h1 h2 h3) (TD λs c h w hs=>Go.Proofs.Tryz.strings_Trim_one s c h w hs)))))))
end M
