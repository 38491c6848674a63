/- Each function of the table is the program's, and the library is as it is said to be; no conditions. -/
import Derived.Test.YtjijmdiikmeikaaGreatDoorProg
import Derived.Test.YtjijmdiikmeikaaGreatDoorLay
import Derived.Test.YtjijmdiikmeikaaGreatDoorTab
import Derived.Test.YtjijmdiikmeikaaGreatDoorMc
import Derived.WalkKit
import Derived.Lib.FrozenHead
import Derived.Lib.OthersKept
import Derived.Lib.Builder
set_option linter.defProp false
set_option linter.unusedSectionVars false
set_option linter.unusedVariables false
set_option linter.unusedSimpArgs false
set_option linter.unusedVariables false
set_option linter.unusedSectionVars false
set_option maxRecDepth 100000
namespace Go.Proofs
open Go.RowKit
set_option maxHeartbeats 2000000 in
set_option maxRecDepth 100000 in
def Zc(b:Nat)(w:World)(h0:w.cell? ⟨b,0,none⟩=some (.pointer (some ⟨b,0,none⟩))):
    Calls Tryz.prog 309 #[.pointer (some ⟨b,0,none⟩)] w λe w'=>e=.returned (.tuple #[])/\w'=w:=by obtain⟨j,hj,FG⟩:=kY.1 (show (Tryz.prog.info? 290).map (·.size)=some 2 by kernel_rfl);go_enter Tryz.func309,Tryz.ntmps309;go_wp2;rw[Lib.run_neq_ptr_same w _ Tryz.underlying288 hj];go_wp2;go_end0;exact⟨rfl,rfl⟩
set_option maxHeartbeats 2000000 in
set_option maxRecDepth 100000 in
def Zb(b:Nat)(w:World)(h0:w.cell? ⟨b,0,none⟩=some (.pointer none))(hsh:w.shape? b=some (290,2))(hfz:w.frozen? ⟨b,0,none⟩=false):
    Calls Tryz.prog 309 #[.pointer (some ⟨b,0,none⟩)] w λe w'=>e=.returned (.tuple #[])/\w'=w.setCell ⟨b,0,none⟩ (.pointer (some ⟨b,0,none⟩)):=by obtain⟨j,hj,FG⟩:=kY.1 (show (Tryz.prog.info? 290).map (·.size)=some 2 by kernel_rfl);go_enter Tryz.func309,Tryz.ntmps309;go_wp2;rw[Lib.run_to_unsafe w ⟨b,0,none⟩ Tryz.underlying288 Tryz.underlying322 hj (by rw[FG];decide) hsh (Nat.zero_lt_succ 1)];simp only[Result.andThen];rw[Oper.upon_value];go_wp2;rw[run_callFunc_extern Tryz.func319 (by kernel_rfl) (by kernel_rfl) (by kernel_rfl) (e:=Extern.AbiNoEscape.same) (by kernel_rfl)];rw[Lib.run_noEscape];simp only[Result.andThen];rw[Oper.upon_value];go_wp2;rw[Lib.run_from_unsafe w ⟨b,0,none⟩ Tryz.underlying322 Tryz.underlying288 hj hsh (by kernel_rfl)];simp only[Result.andThen];rw[Oper.upon_value];go_wp2;go_end0;exact⟨rfl,rfl⟩
def Za(B b:Nat)(bs:List Value)(w:World)(h:Lib.IsBuilderF 290 5 B b bs w):
    Calls Tryz.prog 309 #[.pointer (some ⟨b,0,none⟩)] w λe w'=>e=.returned (.tuple #[])/\(Lib.BuilderAtF 290 5 B b (.pointer (some ⟨b,0,none⟩)) bs w'/\Below B w w'):=by
  rcases h with h|h
  · refine(Zb b w h.cell0 h.shape h.frozen0).mono ?_
    rintro e w' ⟨rfl,rfl⟩
    exact⟨rfl,h.used _,(Below.refl B w).setCell (p:=⟨b,0,none⟩) h.1 _⟩
  · refine(Zc b w h.cell0).mono ?_
    rintro e w' ⟨rfl,rfl⟩
    exact⟨rfl,h,Below.refl B _⟩
set_option maxHeartbeats 2000000 in
set_option maxRecDepth 100000 in
def Zd(B b:Nat)(bs:List Value)(s:ByteArray)(w:World)(h:Lib.IsBuilderF 290 5 B b bs w)(hlen:bs.length+s.size<=140737488355328)(hBw:B<=w.heap.size):
    Calls Tryz.prog 292 #[.pointer (some ⟨b,0,none⟩),.string s] w λe w'=>e=.returned (.tuple #[.int .i64 s.size,.nilIface])/\(Lib.BuilderAtF 290 5 B b (.pointer (some ⟨b,0,none⟩)) (bs++Lib.strCells s) w'/\Below B w w'):=by
  obtain⟨i0,hi,hz0,hz1,hz2⟩:=info_parts (P:=Tryz.prog) (e:=5) (z:=.int .u8 0) (size:=1) (bytes:=1) (by kernel_rfl);go_enter Tryz.func292,Tryz.ntmps292;go_wp2_with (go_at_call 309;refine(Za B b bs _ h).mono ?_);rintro e w1 ⟨rfl,h1,dZ⟩;obtain⟨hB,v,hbk,hown,hne⟩:=h1;have c0:w1.cell? ⟨b,0,none⟩=some (.pointer (some ⟨b,0,none⟩)):=by rw[Lib.cell_of_heap hbk];rfl
  have c1:w1.cell? ⟨b,1,none⟩=some v:=by rw[Lib.cell_of_heap hbk];rfl
  go_wp2_with (at_builtin;refine Lib.wpList_append_own_stringF _ rfl _ _ 227 9 rfl B 5 i0 Tryz.underlying227 Tryz.underlying9 hi hz0 hz1 hz2 _ _ _ rfl hown s rfl ?c3 ?c4 ?c5 ?_);case c3=>unfold maxLen;omega
  case c4=>omega
  case c5=>have:=dZ.size;omega
  intro v' w2 hown' hgrow _
  have hlt:b<w1.heap.size:=by
    rcases iL b w1.heap.size with h'|h';· exact h'
    · simp[l9 h'] at hbk
  have gW:w2.heap[b]?=some (.cells #[.pointer (some ⟨b,0,none⟩),v] 290 (0,0)):=by rw[hgrow.block b hlt (λe=>hne e.symm)];exact hbk
  have d0:w2.cell? ⟨b,0,none⟩=some (.pointer (some ⟨b,0,none⟩)):=by rw[Lib.cell_of_heap gW];rfl
  have d1:w2.cell? ⟨b,1,none⟩=some v:=by rw[Lib.cell_of_heap gW];rfl
  have f1:w2.frozen? ⟨b,1,none⟩=false:=Lib.frozen_of_heap gW 1
  obtain⟨ao,n',cap,rfl⟩:∃ao n' cap,v'=.slice ao n' cap:=by
    rcases hown'.2 with ⟨hv,_⟩|⟨g,cap,cur,fz,hv,_⟩;· exact⟨_,_,_,hv⟩
    · exact⟨_,_,_,hv⟩
  go_wp2;go_ret2;refine⟨rfl,?_,?_⟩;· exact Lib.BuilderAtF.put (T:=290) (e:=5) hB gW (bs':=bs++Lib.strCells s) (by simpa [Lib.strCells_length] using hown') (by decide)
  · exact(dZ.grown hgrow (by have:=dZ.size;omega) (λk hk=>(hown.lt k hk).1)).setCell (p:=⟨b,1,none⟩) hB _
set_option maxHeartbeats 4000000 in
set_option maxRecDepth 1000000 in
def agZ(A:Option Addr)(cap:Nat)(fs:List (ByteArray×ByteArray))(w:World)
    (hc:∀i f,fs[i]?=some f->∃g o,A=some ⟨g,o,none⟩/\g<w.heap.size/\w.cell? ⟨g,o+i*2,none⟩=some (.string f.1)/\w.cell? ⟨g,o+i*2+1,none⟩=some (.string f.2))
    (hb:(M.jI fs).length<=140737488355328)(hl:fs.length<=140737488355328):
    Calls Tryz.prog 267 #[.slice A fs.length cap] w λe w'=>e=.returned (.string ⟨(M.jI fs).toArray⟩)/\Below w.heap.size w w':=by
  go_enter Tryz.func267,Tryz.ntmps267;go_wp2;go_loopw [8] (λvi wr=>∃k:Nat,vi=.int .i64 k/\k<=fs.length/\Lib.IsBuilderF 290 5 w.heap.size w.heap.size (Lib.byteCells (M.jI (fs.take k))) wr/\Below w.heap.size w wr) (λvi _=>fs.length - (intOf vi).toNat);case atStart=>exact⟨0,rfl,tH _,Lib.IsBuilderF.of (Lib.fresh_isBuilder 290 5 w),(Below.refl _ w).alloc (eP _) _⟩
  case round=>
    obtain⟨k,rfl,hk,hI,AB⟩:=hrel;have hsz:w.heap.size<=wr.heap.size:=AB.size;by_cases hlt:k<fs.length
    · obtain⟨g,o,rfl,hg,hk1⟩:=hc k fs[k] (by simp[hlt])
      have c1:wr.cell? ⟨g,o+k*2,none⟩=some (.string fs[k].1):=by rw[AB.cell (p:=⟨g,o+k*2,none⟩) hg];exact hk1.1
      have c2:wr.cell? ⟨g,o+k*2+1,none⟩=some (.string fs[k].2):=by rw[AB.cell (p:=⟨g,o+k*2+1,none⟩) hg];exact hk1.2
      have hlt2:(k:Int)<fs.length:=by omega
      have hle:=M.ag0 hlt
      have htk:=M.Sf hlt
      have s1:¬9223372036854775807<fs[k].1.size+2:=by omega
      have s2:¬9223372036854775807<fs[k].1.size+2+fs[k].2.size:=by omega
      have s3:¬9223372036854775807<fs[k].1.size+2+fs[k].2.size+2:=by omega
      go_wp2_with (go_at_call 292;refine(Zd w.heap.size w.heap.size _ _ _ (hI.alloc _) ?_ ?_).mono ?_)
      · rw[Lib.byteCells_length]
        simp only[ByteArray.size_append]
        have e1:(⟨#[58,32]⟩:ByteArray).size=2:=rfl
        have e2:(⟨#[13,10]⟩:ByteArray).size=2:=rfl
        omega
      · simp only[World.alloc]
        simp
        omega
      rintro e W1 ⟨rfl,h1,b1⟩
      go_wp2
      go_roundw
      case rel=>
        refine⟨k+1,by go_num,by omega,?_,(AB.alloc hsz _).trans b1⟩
        rw[htk,Lib.byteCells_append]
        refine Or.inr ?_
        have e:Lib.strCells (fs[k].1++⟨#[58,32]⟩++fs[k].2++⟨#[13,10]⟩)=Lib.byteCells (fs[k].1.data.toList++[58,32]++fs[k].2.data.toList++[13,10]):=by rw[Lib.strCells_eq];congr 1
        rw[<-e]
        exact h1
      case measure=>
        simp[intOf]
        omega
    · have hlt2:¬(k:Int)<fs.length:=by omega
      go_wp2_with (go_at_call 293;refine(Tryz.Builder_String_any_f w.heap.size w.heap.size _ _ hI hsz).mono ?_)
      rintro e W1 rfl h2 b1
      clear h2
      go_wp2
      go_ret
      have:k=fs.length:=by omega
      subst this
      rw[qR]
      exact⟨rfl,AB.trans b1⟩
end Go.Proofs
namespace Go.Proofs
open Go.RowKit
set_option maxHeartbeats 2000000 in
set_option maxRecDepth 100000 in
def ajl(s:ByteArray)(h:7<s.size)(w:World):
    Calls Go.Proofs.Tryz.prog 200 #[.string s] w λe w'=>e=.returned (.tuple #[.int .i64 0,.bool false])/\w'=w:=by go_enter Tryz.func200,Tryz.ntmps200;go_wp2;· go_ret2;exact⟨rfl,rfl⟩
set_option maxHeartbeats 2000000 in
set_option maxRecDepth 100000 in
def ajn(s:ByteArray)(h:¬7<s.size)(v:Int)(hv:Lib.atoiAll s.data.toList=.ok v)(w:World)(htab:Lib.TabIs Go.Proofs.Tryz.prog w "internal/strconv.uint64pow10" .u64 Lib.pow10Tab):
    Calls Go.Proofs.Tryz.prog 200 #[.string s] w λe w'=>e=.returned (.tuple #[.int .i64 (yw v s.data.toList),.bool (oQ v s.data.toList)])/\Below w.heap.size w w':=by
  have lD:=Lib.atoiAll_bounds hv;go_enter Tryz.func200,Tryz.ntmps200
  go_wp2_with (first
    |(go_at_call 240;refine(Tryz.strconv_Atoi_ok s (by omega) v hv _).mono ?_;rintro e W1 ⟨rfl,SJ⟩;have dZ:Below w.heap.size w W1:=(by rcases SJ with rfl|⟨t,rfl⟩;exact Below.refl _ _;exact Lib.bytesWorld_below _ _ _);clear SJ)
    |(go_at_call 241;refine(Tryz.strconv_Itoa v lD.1 lD.2 _ (alu htab dZ)).mono ?_;rintro e W2 ⟨rfl,k,os,SK⟩;have gW:Below w.heap.size w W2:=(by subst SK;exact dZ.trans ((ag5 W1 k os).mono dZ.size));clear SK)
    |go_in)
  all_goals go_ret2
  all_goals refine⟨?_,by assumption⟩
  all_goals first
    | (have hb : oQ v s.data.toList = true := (by
        unfold oQ;rw[bD];refine⟨by assumption,by assumption,?_⟩;rw[<-Lib.toList_data];rename_i hz
        simpa using hz)
       rw[yw,aA hb,hb];rfl)
    | (have hb : oQ v s.data.toList = false := (by
        unfold oQ;rw[Wq];rintro ⟨h1,h2,h3⟩;first
        |omega
        | (rw[<-Lib.toList_data] at h3
           rename_i hz
           simp[h3] at hz))
       rw[yw,hb];rfl)
set_option maxHeartbeats 2000000 in
set_option maxRecDepth 100000 in
def ajk(s:ByteArray)(h:¬7<s.size)(w:World)
    (hA:Calls Go.Proofs.Tryz.prog 240 #[.string s] w λe w'=>∃n t N,e=.returned (.tuple #[.int .i64 n,.iface t (.pointer (some ⟨N,0,none⟩))])/\Below w.heap.size w w'):
    Calls Go.Proofs.Tryz.prog 200 #[.string s] w λe w'=>e=.returned (.tuple #[.int .i64 0,.bool false])/\Below w.heap.size w w':=by
  go_enter Tryz.func200,Tryz.ntmps200
  go_wp2_with (first
    |(go_at_call 240;refine hA.mono ?_;rintro e W1 ⟨n,t,N,rfl,dZ⟩)
    |go_in)
  all_goals go_ret2
  all_goals exact⟨rfl,by assumption⟩
def ajj[B:M.Bs](htab:Lib.TabIs Go.Proofs.Tryz.prog B.W0 "internal/strconv.uint64pow10" .u64 Lib.pow10Tab) (LM:∃te pe,B.W0.var? Go.Proofs.Tryz.prog "strconv.ErrSyntax" =some #[.iface te pe]) (kI:∃te pe,B.W0.var? Go.Proofs.Tryz.prog "strconv.ErrRange" =some #[.iface te pe])
    (s:ByteArray) (w:World) (hw:M.om w) (hs:s.size<=9223372036854775807):
    Calls Go.Proofs.Tryz.prog 200 #[.string s] w λe w'=>e=.returned (.tuple #[.int .i64 (((M.bn s.data.toList).getD 0:Nat):Int),.bool (M.bn s.data.toList).isSome])/\Below w.heap.size w w':=by
  refine ajm (a:=0) hs (λh=>ajl s h w) (λh v hv=>ajn s h v hv w (M.TabIs.same htab hw)) λh hv=>?_;refine ajk s h w ?_;rcases eM:Lib.atoiAll s.data.toList with v|_|_;· exact absurd eM (hv v)
  · obtain⟨te,pe,h1⟩:=LM
    exact(Any.strconv_Atoi_syntax_var Tryz.laysC172 s (by omega) eM te pe w (VN h1 hw)).mono λe w' ⟨N,he,_,_,hb⟩=>⟨_,_,N,he,hb⟩
  · obtain⟨te,pe,h1⟩:=kI
    exact(Any.strconv_Atoi_range_var Tryz.laysC172 s (by omega) eM te pe w (VN h1 hw)).mono λe w' ⟨N,he,_,_,hb⟩=>⟨_,_,N,he,hb⟩
end Go.Proofs
namespace M
open Go
variable [Bs]
def aoC:Told Go.Proofs.Tryz.prog 4 BJ [.t 2] 1:=Told.of Go.Proofs.Tryz.func4 (by decide+kernel)
def afQ:ak Go.Proofs.Tryz.prog 4=true:=by decide+kernel
def aoN:Told Go.Proofs.Tryz.prog 5 sK [.t 4] 2:=Told.of Go.Proofs.Tryz.func5 (by decide+kernel)
def af1:ak Go.Proofs.Tryz.prog 5=true:=by decide+kernel
def aoY:Told Go.Proofs.Tryz.prog 6 yN [.t 2] 1:=Told.of Go.Proofs.Tryz.func6 (by decide+kernel)
def agc:ak Go.Proofs.Tryz.prog 6=true:=by decide+kernel
def ao9:Told Go.Proofs.Tryz.prog 7 G5 [.c 2 10 true 48] 1:=Told.of Go.Proofs.Tryz.func7 (by decide+kernel)
def agp:ak Go.Proofs.Tryz.prog 7=true:=by decide+kernel
def apk:Told Go.Proofs.Tryz.prog 8 xm [.t 2] 1:=Told.of Go.Proofs.Tryz.func8 (by decide+kernel)
def agA:ak Go.Proofs.Tryz.prog 8=true:=by decide+kernel
def apw:Told Go.Proofs.Tryz.prog 9 qp [.t 4] 2:=Told.of Go.Proofs.Tryz.func9 (by decide+kernel)
def agK:ak Go.Proofs.Tryz.prog 9=true:=by decide+kernel
def alB:Told Go.Proofs.Tryz.prog 10 CS [.t 2] 1:=Told.of Go.Proofs.Tryz.func10 (by decide+kernel)
def acO:ak Go.Proofs.Tryz.prog 10=true:=by decide+kernel
def alM:Told Go.Proofs.Tryz.prog 11 Bd [.t 2] 1:=Told.of Go.Proofs.Tryz.func11 (by decide+kernel)
def acZ:ak Go.Proofs.Tryz.prog 11=true:=by decide+kernel
def alX:Told Go.Proofs.Tryz.prog 12 va [.t 4] 2:=Told.of Go.Proofs.Tryz.func12 (by decide+kernel)
def ada:ak Go.Proofs.Tryz.prog 12=true:=by decide+kernel
def al8:Told Go.Proofs.Tryz.prog 13 xY [.t 4] 2:=Told.of Go.Proofs.Tryz.func13 (by decide+kernel)
def ado:ak Go.Proofs.Tryz.prog 13=true:=by decide+kernel
def amj:Told Go.Proofs.Tryz.prog 14 x9 [.t 4] 2:=Told.of Go.Proofs.Tryz.func14 (by decide+kernel)
def adB:ak Go.Proofs.Tryz.prog 14=true:=by decide+kernel
def amv:Told Go.Proofs.Tryz.prog 15 x7 [.t 4] 2:=Told.of Go.Proofs.Tryz.func15 (by decide+kernel)
def adM:ak Go.Proofs.Tryz.prog 15=true:=by decide+kernel
def amG:Told Go.Proofs.Tryz.prog 16 o6 [.t 2] 1:=Told.of Go.Proofs.Tryz.func16 (by decide+kernel)
def adW:ak Go.Proofs.Tryz.prog 16=true:=by decide+kernel
def amR:Told Go.Proofs.Tryz.prog 17 CY [.c 2 6 true 43] 1:=Told.of Go.Proofs.Tryz.func17 (by decide+kernel)
def ad7:ak Go.Proofs.Tryz.prog 17=true:=by decide+kernel
def am2:Told Go.Proofs.Tryz.prog 18 Ij [.c 2 2 true 39] 1:=Told.of Go.Proofs.Tryz.func18 (by decide+kernel)
def aei:ak Go.Proofs.Tryz.prog 18=true:=by decide+kernel
def ane:Told Go.Proofs.Tryz.prog 19 Dn [.t 4] 2:=Told.of Go.Proofs.Tryz.func19 (by decide+kernel)
def aeu:ak Go.Proofs.Tryz.prog 19=true:=by decide+kernel
def ann:Told Go.Proofs.Tryz.prog 20 yZ [.t 4] 2:=Told.of Go.Proofs.Tryz.func20 (by decide+kernel)
def aeD:ak Go.Proofs.Tryz.prog 20=true:=by decide+kernel
def anx:Told Go.Proofs.Tryz.prog 21 Ib [.c 4 2 true 39] 2:=Told.of Go.Proofs.Tryz.func21 (by decide+kernel)
def aeN:ak Go.Proofs.Tryz.prog 21=true:=by decide+kernel
def anJ:Told Go.Proofs.Tryz.prog 22 Hs [.c 2 6 true 43] 1:=Told.of Go.Proofs.Tryz.func22 (by decide+kernel)
def aeY:ak Go.Proofs.Tryz.prog 22=true:=by decide+kernel
def anT:Told Go.Proofs.Tryz.prog 23 G9 [.t 2] 1:=Told.of Go.Proofs.Tryz.func23 (by decide+kernel)
def ae8:ak Go.Proofs.Tryz.prog 23=true:=by decide+kernel
def an2:Told Go.Proofs.Tryz.prog 24 Hq [.t 2] 1:=Told.of Go.Proofs.Tryz.func24 (by decide+kernel)
def afh:ak Go.Proofs.Tryz.prog 24=true:=by decide+kernel
def aob:Told Go.Proofs.Tryz.prog 25 Hj [.t 2] 1:=Told.of Go.Proofs.Tryz.func25 (by decide+kernel)
def afq:ak Go.Proofs.Tryz.prog 25=true:=by decide+kernel
def aok:Told Go.Proofs.Tryz.prog 26 qd [.t 2] 1:=Told.of Go.Proofs.Tryz.func26 (by decide+kernel)
def afy:ak Go.Proofs.Tryz.prog 26=true:=by decide+kernel
def aon:Told Go.Proofs.Tryz.prog 27 GF [.c 2 6 true 43] 1:=Told.of Go.Proofs.Tryz.func27 (by decide+kernel)
def afB:ak Go.Proofs.Tryz.prog 27=true:=by decide+kernel
def aop:Told Go.Proofs.Tryz.prog 28 F1 [.c 2 2 true 39] 1:=Told.of Go.Proofs.Tryz.func28 (by decide+kernel)
def afD:ak Go.Proofs.Tryz.prog 28=true:=by decide+kernel
def aoq:Told Go.Proofs.Tryz.prog 29 FV [.c 4 2 true 39] 2:=Told.of Go.Proofs.Tryz.func29 (by decide+kernel)
def afE:ak Go.Proofs.Tryz.prog 29=true:=by decide+kernel
def aos:Told Go.Proofs.Tryz.prog 30 Ga [.t 4] 2:=Told.of Go.Proofs.Tryz.func30 (by decide+kernel)
def afG:ak Go.Proofs.Tryz.prog 30=true:=by decide+kernel
def aot:Told Go.Proofs.Tryz.prog 31 Jw [.t 4] 2:=Told.of Go.Proofs.Tryz.func31 (by decide+kernel)
def afH:ak Go.Proofs.Tryz.prog 31=true:=by decide+kernel
def aou:Told Go.Proofs.Tryz.prog 32 qt [.t 4] 2:=Told.of Go.Proofs.Tryz.func32 (by decide+kernel)
def afI:ak Go.Proofs.Tryz.prog 32=true:=by decide+kernel
def aov:Told Go.Proofs.Tryz.prog 33 GR [.t 4] 2:=Told.of Go.Proofs.Tryz.func33 (by decide+kernel)
def afJ:ak Go.Proofs.Tryz.prog 33=true:=by decide+kernel
def aow:Told Go.Proofs.Tryz.prog 34 GW [.t 4] 2:=Told.of Go.Proofs.Tryz.func34 (by decide+kernel)
def afK:ak Go.Proofs.Tryz.prog 34=true:=by decide+kernel
def aox:Told Go.Proofs.Tryz.prog 35 GV [.t 4] 2:=Told.of Go.Proofs.Tryz.func35 (by decide+kernel)
def afL:ak Go.Proofs.Tryz.prog 35=true:=by decide+kernel
def aoy:Told Go.Proofs.Tryz.prog 36 CV [.t 2] 1:=Told.of Go.Proofs.Tryz.func36 (by decide+kernel)
def afM:ak Go.Proofs.Tryz.prog 36=true:=by decide+kernel
def aoz:Told Go.Proofs.Tryz.prog 37 yM [.t 2] 1:=Told.of Go.Proofs.Tryz.func37 (by decide+kernel)
def afN:ak Go.Proofs.Tryz.prog 37=true:=by decide+kernel
def aoA:Told Go.Proofs.Tryz.prog 38 Bf [.t 2] 1:=Told.of Go.Proofs.Tryz.func38 (by decide+kernel)
def afO:ak Go.Proofs.Tryz.prog 38=true:=by decide+kernel
def aoB:Told Go.Proofs.Tryz.prog 39 xl [.t 2] 1:=Told.of Go.Proofs.Tryz.func39 (by decide+kernel)
def afP:ak Go.Proofs.Tryz.prog 39=true:=by decide+kernel
def aoD:Told Go.Proofs.Tryz.prog 40 xV [.t 4] 2:=Told.of Go.Proofs.Tryz.func40 (by decide+kernel)
def afR:ak Go.Proofs.Tryz.prog 40=true:=by decide+kernel
def aoE:Told Go.Proofs.Tryz.prog 41 xZ [.t 4] 2:=Told.of Go.Proofs.Tryz.func41 (by decide+kernel)
def afS:ak Go.Proofs.Tryz.prog 41=true:=by decide+kernel
def aoF:Told Go.Proofs.Tryz.prog 42 xT [.t 4] 2:=Told.of Go.Proofs.Tryz.func42 (by decide+kernel)
def afT:ak Go.Proofs.Tryz.prog 42=true:=by decide+kernel
def aoG:Told Go.Proofs.Tryz.prog 43 uY [.t 4] 2:=Told.of Go.Proofs.Tryz.func43 (by decide+kernel)
def afU:ak Go.Proofs.Tryz.prog 43=true:=by decide+kernel
def aoH:Told Go.Proofs.Tryz.prog 44 ya [.t 4] 2:=Told.of Go.Proofs.Tryz.func44 (by decide+kernel)
def afV:ak Go.Proofs.Tryz.prog 44=true:=by decide+kernel
def aoI:Told Go.Proofs.Tryz.prog 45 uZ [.t 4] 2:=Told.of Go.Proofs.Tryz.func45 (by decide+kernel)
def afW:ak Go.Proofs.Tryz.prog 45=true:=by decide+kernel
def aoJ:Told Go.Proofs.Tryz.prog 46 pn [.t 2] 1:=Told.of Go.Proofs.Tryz.func46 (by decide+kernel)
def afX:ak Go.Proofs.Tryz.prog 46=true:=by decide+kernel
def aoK:Told Go.Proofs.Tryz.prog 47 IX [.t 6] 3:=Told.of Go.Proofs.Tryz.func47 (by decide+kernel)
def afY:ak Go.Proofs.Tryz.prog 47=true:=by decide+kernel
def aoL:Told Go.Proofs.Tryz.prog 48 yR [.t 2] 1:=Told.of Go.Proofs.Tryz.func48 (by decide+kernel)
def afZ:ak Go.Proofs.Tryz.prog 48=true:=by decide+kernel
def aoM:Told Go.Proofs.Tryz.prog 49 mP [.t 2] 1:=Told.of Go.Proofs.Tryz.func49 (by decide+kernel)
def af0:ak Go.Proofs.Tryz.prog 49=true:=by decide+kernel
def aoO:Told Go.Proofs.Tryz.prog 50 oZ [.t 4] 2:=Told.of Go.Proofs.Tryz.func50 (by decide+kernel)
def af2:ak Go.Proofs.Tryz.prog 50=true:=by decide+kernel
def aoP:Told Go.Proofs.Tryz.prog 51 Ig [.t 2] 1:=Told.of Go.Proofs.Tryz.func51 (by decide+kernel)
def af3:ak Go.Proofs.Tryz.prog 51=true:=by decide+kernel
def aoQ:Told Go.Proofs.Tryz.prog 52 Iy [.c 0 6 true 43] 0:=Told.of Go.Proofs.Tryz.func52 (by decide+kernel)
def af4:ak Go.Proofs.Tryz.prog 52=true:=by decide+kernel
def aoR:Told Go.Proofs.Tryz.prog 53 Dk [.t 2,.t 3] 1:=Told.of Go.Proofs.Tryz.func53 (by decide+kernel)
def af5:ak Go.Proofs.Tryz.prog 53=true:=by decide+kernel
def aoS:Told Go.Proofs.Tryz.prog 54 qH [.t 2,.t 3,.t 4] 1:=Told.of Go.Proofs.Tryz.func54 (by decide+kernel)
def af6:ak Go.Proofs.Tryz.prog 54=true:=by decide+kernel
def aoT:Told Go.Proofs.Tryz.prog 55 Ic [.t 4] 2:=Told.of Go.Proofs.Tryz.func55 (by decide+kernel)
def af7:ak Go.Proofs.Tryz.prog 55=true:=by decide+kernel
def aoU:Told Go.Proofs.Tryz.prog 56 s9 [.c 2 7 true 63,.t 3] 1:=Told.of Go.Proofs.Tryz.func56 (by decide+kernel)
def af8:ak Go.Proofs.Tryz.prog 56=true:=by decide+kernel
def aoV:Told Go.Proofs.Tryz.prog 57 IY [.t 4] 2:=Told.of Go.Proofs.Tryz.func57 (by decide+kernel)
def af9:ak Go.Proofs.Tryz.prog 57=true:=by decide+kernel
def aoW:Told Go.Proofs.Tryz.prog 58 Il [.t 4] 2:=Told.of Go.Proofs.Tryz.func58 (by decide+kernel)
def aga:ak Go.Proofs.Tryz.prog 58=true:=by decide+kernel
def aoX:Told Go.Proofs.Tryz.prog 59 IQ [.t 4] 2:=Told.of Go.Proofs.Tryz.func59 (by decide+kernel)
def agb:ak Go.Proofs.Tryz.prog 59=true:=by decide+kernel
def aoZ:Told Go.Proofs.Tryz.prog 60 II [.c 2 2 true 39] 1:=Told.of Go.Proofs.Tryz.func60 (by decide+kernel)
def agd:ak Go.Proofs.Tryz.prog 60=true:=by decide+kernel
def ao0:Told Go.Proofs.Tryz.prog 61 yV [.t 4] 2:=Told.of Go.Proofs.Tryz.func61 (by decide+kernel)
def agf:ak Go.Proofs.Tryz.prog 61=true:=by decide+kernel
def ao1:Told Go.Proofs.Tryz.prog 62 IP [.t 2] 1:=Told.of Go.Proofs.Tryz.func62 (by decide+kernel)
def agh:ak Go.Proofs.Tryz.prog 62=true:=by decide+kernel
def ao2:Told Go.Proofs.Tryz.prog 63 IL [.c 6 2 true 39] 3:=Told.of Go.Proofs.Tryz.func63 (by decide+kernel)
def agi:ak Go.Proofs.Tryz.prog 63=true:=by decide+kernel
def ao3:Told Go.Proofs.Tryz.prog 64 C3 [.t 2] 1:=Told.of Go.Proofs.Tryz.func64 (by decide+kernel)
def agj:ak Go.Proofs.Tryz.prog 64=true:=by decide+kernel
def ao4:Told Go.Proofs.Tryz.prog 65 G6 [.c 2 2 true 39] 1:=Told.of Go.Proofs.Tryz.func65 (by decide+kernel)
def agk:ak Go.Proofs.Tryz.prog 65=true:=by decide+kernel
def ao5:Told Go.Proofs.Tryz.prog 66 Hg [.t 2] 1:=Told.of Go.Proofs.Tryz.func66 (by decide+kernel)
def agl:ak Go.Proofs.Tryz.prog 66=true:=by decide+kernel
def ao6:Told Go.Proofs.Tryz.prog 67 G0 [.t 2] 1:=Told.of Go.Proofs.Tryz.func67 (by decide+kernel)
def agm:ak Go.Proofs.Tryz.prog 67=true:=by decide+kernel
def ao7:Told Go.Proofs.Tryz.prog 68 He [.c 2 13 true 105] 1:=Told.of Go.Proofs.Tryz.func68 (by decide+kernel)
def agn:ak Go.Proofs.Tryz.prog 68=true:=by decide+kernel
def ao8:Told Go.Proofs.Tryz.prog 69 Hr [.c 2 8 true 131] 1:=Told.of Go.Proofs.Tryz.func69 (by decide+kernel)
def ago:ak Go.Proofs.Tryz.prog 69=true:=by decide+kernel
def apa:Told Go.Proofs.Tryz.prog 70 Hl [.c 2 18 true 134] 1:=Told.of Go.Proofs.Tryz.func70 (by decide+kernel)
def agq:ak Go.Proofs.Tryz.prog 70=true:=by decide+kernel
def apb:Told Go.Proofs.Tryz.prog 71 GA [.t 2] 1:=Told.of Go.Proofs.Tryz.func71 (by decide+kernel)
def agr:ak Go.Proofs.Tryz.prog 71=true:=by decide+kernel
def apc:Told Go.Proofs.Tryz.prog 72 Gv [.t 2] 1:=Told.of Go.Proofs.Tryz.func72 (by decide+kernel)
def ags:ak Go.Proofs.Tryz.prog 72=true:=by decide+kernel
def apd:Told Go.Proofs.Tryz.prog 73 nE [.t 2] 1:=Told.of Go.Proofs.Tryz.func73 (by decide+kernel)
def agt:ak Go.Proofs.Tryz.prog 73=true:=by decide+kernel
def ape:Told Go.Proofs.Tryz.prog 74 Bt [] 1:=Told.of Go.Proofs.Tryz.func74 (by decide+kernel)
def agu:ak Go.Proofs.Tryz.prog 74=true:=by decide+kernel
def apf:Told Go.Proofs.Tryz.prog 75 Gc [.t 2] 1:=Told.of Go.Proofs.Tryz.func75 (by decide+kernel)
def agv:ak Go.Proofs.Tryz.prog 75=true:=by decide+kernel
def apg:Told Go.Proofs.Tryz.prog 76 DU [.t 4] 2:=Told.of Go.Proofs.Tryz.func76 (by decide+kernel)
def agw:ak Go.Proofs.Tryz.prog 76=true:=by decide+kernel
def aph:Told Go.Proofs.Tryz.prog 77 GC [.t 3] 2:=Told.of Go.Proofs.Tryz.func77 (by decide+kernel)
def agx:ak Go.Proofs.Tryz.prog 77=true:=by decide+kernel
def api:Told Go.Proofs.Tryz.prog 78 xD [.t 4] 2:=Told.of Go.Proofs.Tryz.func78 (by decide+kernel)
def agy:ak Go.Proofs.Tryz.prog 78=true:=by decide+kernel
def apj:Told Go.Proofs.Tryz.prog 79 BA [.t 2] 1:=Told.of Go.Proofs.Tryz.func79 (by decide+kernel)
def agz:ak Go.Proofs.Tryz.prog 79=true:=by decide+kernel
def apl:Told Go.Proofs.Tryz.prog 80 FW [.t 2] 1:=Told.of Go.Proofs.Tryz.func80 (by decide+kernel)
def agB:ak Go.Proofs.Tryz.prog 80=true:=by decide+kernel
def apm:Told Go.Proofs.Tryz.prog 81 Gr [.c 2 2 true 39] 1:=Told.of Go.Proofs.Tryz.func81 (by decide+kernel)
def agC:ak Go.Proofs.Tryz.prog 81=true:=by decide+kernel
def apn:Told Go.Proofs.Tryz.prog 82 FX [] 1:=Told.of Go.Proofs.Tryz.func82 (by decide+kernel)
def agD:ak Go.Proofs.Tryz.prog 82=true:=by decide+kernel
def apq:Told Go.Proofs.Tryz.prog 84 F9 [.t 3] 2:=Told.of Go.Proofs.Tryz.func84 (by decide+kernel)
def agE:ak Go.Proofs.Tryz.prog 84=true:=by decide+kernel
def apr:Told Go.Proofs.Tryz.prog 85 BD [.t 4] 2:=Told.of Go.Proofs.Tryz.func85 (by decide+kernel)
def agF:ak Go.Proofs.Tryz.prog 85=true:=by decide+kernel
def aps:Told Go.Proofs.Tryz.prog 86 xQ [.t 4] 2:=Told.of Go.Proofs.Tryz.func86 (by decide+kernel)
def agG:ak Go.Proofs.Tryz.prog 86=true:=by decide+kernel
def apt:Told Go.Proofs.Tryz.prog 87 GU [.t 4] 2:=Told.of Go.Proofs.Tryz.func87 (by decide+kernel)
def agH:ak Go.Proofs.Tryz.prog 87=true:=by decide+kernel
def apu:Told Go.Proofs.Tryz.prog 88 GP [.t 4] 2:=Told.of Go.Proofs.Tryz.func88 (by decide+kernel)
def agI:ak Go.Proofs.Tryz.prog 88=true:=by decide+kernel
def apv:Told Go.Proofs.Tryz.prog 89 sI [.t 4] 2:=Told.of Go.Proofs.Tryz.func89 (by decide+kernel)
def agJ:ak Go.Proofs.Tryz.prog 89=true:=by decide+kernel
def apx:Told Go.Proofs.Tryz.prog 90 uX [.t 4] 2:=Told.of Go.Proofs.Tryz.func90 (by decide+kernel)
def agL:ak Go.Proofs.Tryz.prog 90=true:=by decide+kernel
def apy:Told Go.Proofs.Tryz.prog 91 nI [.t 4] 2:=Told.of Go.Proofs.Tryz.func91 (by decide+kernel)
def agM:ak Go.Proofs.Tryz.prog 91=true:=by decide+kernel
def apz:Told Go.Proofs.Tryz.prog 92 nY [.t 4] 2:=Told.of Go.Proofs.Tryz.func92 (by decide+kernel)
def agN:ak Go.Proofs.Tryz.prog 92=true:=by decide+kernel
def apA:Told Go.Proofs.Tryz.prog 93 IZ [.t 4] 2:=Told.of Go.Proofs.Tryz.func93 (by decide+kernel)
def agO:ak Go.Proofs.Tryz.prog 93=true:=by decide+kernel
def apB:Told Go.Proofs.Tryz.prog 94 nB [.t 4] 2:=Told.of Go.Proofs.Tryz.func94 (by decide+kernel)
def agP:ak Go.Proofs.Tryz.prog 94=true:=by decide+kernel
def apC:Told Go.Proofs.Tryz.prog 95 F3 [.t 4] 2:=Told.of Go.Proofs.Tryz.func95 (by decide+kernel)
def agQ:ak Go.Proofs.Tryz.prog 95=true:=by decide+kernel
def apD:Told Go.Proofs.Tryz.prog 96 yc [.t 4] 2:=Told.of Go.Proofs.Tryz.func96 (by decide+kernel)
def agR:ak Go.Proofs.Tryz.prog 96=true:=by decide+kernel
def apE:Told Go.Proofs.Tryz.prog 97 yd [.t 4] 2:=Told.of Go.Proofs.Tryz.func97 (by decide+kernel)
def agS:ak Go.Proofs.Tryz.prog 97=true:=by decide+kernel
def apF:Told Go.Proofs.Tryz.prog 98 BZ [.t 4] 2:=Told.of Go.Proofs.Tryz.func98 (by decide+kernel)
def agT:ak Go.Proofs.Tryz.prog 98=true:=by decide+kernel
def apG:Told Go.Proofs.Tryz.prog 99 xU [.t 4] 2:=Told.of Go.Proofs.Tryz.func99 (by decide+kernel)
def agU:ak Go.Proofs.Tryz.prog 99=true:=by decide+kernel
def alC:Told Go.Proofs.Tryz.prog 100 u0 [.t 4] 2:=Told.of Go.Proofs.Tryz.func100 (by decide+kernel)
def acP:ak Go.Proofs.Tryz.prog 100=true:=by decide+kernel
def alD:Told Go.Proofs.Tryz.prog 101 BW [.t 4] 2:=Told.of Go.Proofs.Tryz.func101 (by decide+kernel)
def acQ:ak Go.Proofs.Tryz.prog 101=true:=by decide+kernel
def alE:Told Go.Proofs.Tryz.prog 102 sL [.t 4] 2:=Told.of Go.Proofs.Tryz.func102 (by decide+kernel)
def acR:ak Go.Proofs.Tryz.prog 102=true:=by decide+kernel
def alF:Told Go.Proofs.Tryz.prog 103 x8 [.t 4] 2:=Told.of Go.Proofs.Tryz.func103 (by decide+kernel)
def acS:ak Go.Proofs.Tryz.prog 103=true:=by decide+kernel
def alG:Told Go.Proofs.Tryz.prog 104 qC [.t 2] 1:=Told.of Go.Proofs.Tryz.func104 (by decide+kernel)
def acT:ak Go.Proofs.Tryz.prog 104=true:=by decide+kernel
def alH:Told Go.Proofs.Tryz.prog 105 vG [.t 2] 1:=Told.of Go.Proofs.Tryz.func105 (by decide+kernel)
def acU:ak Go.Proofs.Tryz.prog 105=true:=by decide+kernel
def alI:Told Go.Proofs.Tryz.prog 106 Ih [.t 2] 1:=Told.of Go.Proofs.Tryz.func106 (by decide+kernel)
def acV:ak Go.Proofs.Tryz.prog 106=true:=by decide+kernel
def alJ:Told Go.Proofs.Tryz.prog 107 vB [.t 2] 1:=Told.of Go.Proofs.Tryz.func107 (by decide+kernel)
def acW:ak Go.Proofs.Tryz.prog 107=true:=by decide+kernel
def alK:Told Go.Proofs.Tryz.prog 108 I5 [.t 2] 1:=Told.of Go.Proofs.Tryz.func108 (by decide+kernel)
def acX:ak Go.Proofs.Tryz.prog 108=true:=by decide+kernel
def alL:Told Go.Proofs.Tryz.prog 109 zc [.t 4] 2:=Told.of Go.Proofs.Tryz.func109 (by decide+kernel)
def acY:ak Go.Proofs.Tryz.prog 109=true:=by decide+kernel
def alN:Told Go.Proofs.Tryz.prog 110 IG [.t 2] 1:=Told.of Go.Proofs.Tryz.func110 (by decide+kernel)
def ac0:ak Go.Proofs.Tryz.prog 110=true:=by decide+kernel
def alO:Told Go.Proofs.Tryz.prog 111 vD [.t 2] 1:=Told.of Go.Proofs.Tryz.func111 (by decide+kernel)
def ac1:ak Go.Proofs.Tryz.prog 111=true:=by decide+kernel
def alP:Told Go.Proofs.Tryz.prog 112 yX [.t 4] 2:=Told.of Go.Proofs.Tryz.func112 (by decide+kernel)
def ac2:ak Go.Proofs.Tryz.prog 112=true:=by decide+kernel
def alQ:Told Go.Proofs.Tryz.prog 113 H8 [.c 2 6 true 171] 1:=Told.of Go.Proofs.Tryz.func113 (by decide+kernel)
def ac3:ak Go.Proofs.Tryz.prog 113=true:=by decide+kernel
def alR:Told Go.Proofs.Tryz.prog 114 Ie [.c 0 2 true 39] 0:=Told.of Go.Proofs.Tryz.func114 (by decide+kernel)
def ac4:ak Go.Proofs.Tryz.prog 114=true:=by decide+kernel
def alS:Told Go.Proofs.Tryz.prog 115 qE [.c 2 4 true 75,.t 3] 1:=Told.of Go.Proofs.Tryz.func115 (by decide+kernel)
def ac5:ak Go.Proofs.Tryz.prog 115=true:=by decide+kernel
def alT:Told Go.Proofs.Tryz.prog 116 Dh [.t 4,.t 5] 2:=Told.of Go.Proofs.Tryz.func116 (by decide+kernel)
def ac6:ak Go.Proofs.Tryz.prog 116=true:=by decide+kernel
def alU:Told Go.Proofs.Tryz.prog 117 I2 [.t 2] 1:=Told.of Go.Proofs.Tryz.func117 (by decide+kernel)
def ac7:ak Go.Proofs.Tryz.prog 117=true:=by decide+kernel
def alV:Told Go.Proofs.Tryz.prog 118 s7 [.t 2,.t 3] 1:=Told.of Go.Proofs.Tryz.func118 (by decide+kernel)
def ac8:ak Go.Proofs.Tryz.prog 118=true:=by decide+kernel
def alW:Told Go.Proofs.Tryz.prog 119 yQ [.t 4] 2:=Told.of Go.Proofs.Tryz.func119 (by decide+kernel)
def ac9:ak Go.Proofs.Tryz.prog 119=true:=by decide+kernel
def alY:Told Go.Proofs.Tryz.prog 120 o9 [.c 2 3 true 61,.t 3] 1:=Told.of Go.Proofs.Tryz.func120 (by decide+kernel)
def adb:ak Go.Proofs.Tryz.prog 120=true:=by decide+kernel
def alZ:Told Go.Proofs.Tryz.prog 121 nW [.t 4] 2:=Told.of Go.Proofs.Tryz.func121 (by decide+kernel)
def ade:ak Go.Proofs.Tryz.prog 121=true:=by decide+kernel
def al0:Told Go.Proofs.Tryz.prog 122 yP [.t 2] 1:=Told.of Go.Proofs.Tryz.func122 (by decide+kernel)
def adf:ak Go.Proofs.Tryz.prog 122=true:=by decide+kernel
def al1:Told Go.Proofs.Tryz.prog 123 C5 [.t 2] 1:=Told.of Go.Proofs.Tryz.func123 (by decide+kernel)
def adg:ak Go.Proofs.Tryz.prog 123=true:=by decide+kernel
def al2:Told Go.Proofs.Tryz.prog 124 Ht [.t 2] 1:=Told.of Go.Proofs.Tryz.func124 (by decide+kernel)
def adh:ak Go.Proofs.Tryz.prog 124=true:=by decide+kernel
def al3:Told Go.Proofs.Tryz.prog 125 Hu [.t 2] 1:=Told.of Go.Proofs.Tryz.func125 (by decide+kernel)
def adi:ak Go.Proofs.Tryz.prog 125=true:=by decide+kernel
def al4:Told Go.Proofs.Tryz.prog 126 Hh [.c 2 9 true 65] 1:=Told.of Go.Proofs.Tryz.func126 (by decide+kernel)
def adj:ak Go.Proofs.Tryz.prog 126=true:=by decide+kernel
def al5:Told Go.Proofs.Tryz.prog 127 G4 [.c 2 4 true 75] 1:=Told.of Go.Proofs.Tryz.func127 (by decide+kernel)
def adk:ak Go.Proofs.Tryz.prog 127=true:=by decide+kernel
def al6:Told Go.Proofs.Tryz.prog 128 Ho [.c 2 4 true 103] 1:=Told.of Go.Proofs.Tryz.func128 (by decide+kernel)
def adl:ak Go.Proofs.Tryz.prog 128=true:=by decide+kernel
def al7:Told Go.Proofs.Tryz.prog 129 Hf [.t 2] 1:=Told.of Go.Proofs.Tryz.func129 (by decide+kernel)
def adn:ak Go.Proofs.Tryz.prog 129=true:=by decide+kernel
def al9:Told Go.Proofs.Tryz.prog 130 Hi [.c 2 7 true 63] 1:=Told.of Go.Proofs.Tryz.func130 (by decide+kernel)
def adp:ak Go.Proofs.Tryz.prog 130=true:=by decide+kernel
def ama:Told Go.Proofs.Tryz.prog 131 Hp [.c 2 3 true 61] 1:=Told.of Go.Proofs.Tryz.func131 (by decide+kernel)
def adq:ak Go.Proofs.Tryz.prog 131=true:=by decide+kernel
def amb:Told Go.Proofs.Tryz.prog 132 Gw [.t 6] 3:=Told.of Go.Proofs.Tryz.func132 (by decide+kernel)
def ads:ak Go.Proofs.Tryz.prog 132=true:=by decide+kernel
def amc:Told Go.Proofs.Tryz.prog 133 xq [.t 2] 1:=Told.of Go.Proofs.Tryz.func133 (by decide+kernel)
def adt:ak Go.Proofs.Tryz.prog 133=true:=by decide+kernel
def amd:Told Go.Proofs.Tryz.prog 134 mH [.t 2] 1:=Told.of Go.Proofs.Tryz.func134 (by decide+kernel)
def adu:ak Go.Proofs.Tryz.prog 134=true:=by decide+kernel
def ame:Told Go.Proofs.Tryz.prog 135 uG [.t 4] 2:=Told.of Go.Proofs.Tryz.func135 (by decide+kernel)
def adw:ak Go.Proofs.Tryz.prog 135=true:=by decide+kernel
def amf:Told Go.Proofs.Tryz.prog 136 qc [.t 2] 1:=Told.of Go.Proofs.Tryz.func136 (by decide+kernel)
def adx:ak Go.Proofs.Tryz.prog 136=true:=by decide+kernel
def amg:Told Go.Proofs.Tryz.prog 137 Gz [.t 2] 1:=Told.of Go.Proofs.Tryz.func137 (by decide+kernel)
def ady:ak Go.Proofs.Tryz.prog 137=true:=by decide+kernel
def amh:Told Go.Proofs.Tryz.prog 138 Ge [.t 2] 1:=Told.of Go.Proofs.Tryz.func138 (by decide+kernel)
def adz:ak Go.Proofs.Tryz.prog 138=true:=by decide+kernel
def ami:Told Go.Proofs.Tryz.prog 139 nD [.t 2,.t 3,.t 4] 1:=Told.of Go.Proofs.Tryz.func139 (by decide+kernel)
def adA:ak Go.Proofs.Tryz.prog 139=true:=by decide+kernel
def amk:Told Go.Proofs.Tryz.prog 140 FY [.t 4] 2:=Told.of Go.Proofs.Tryz.func140 (by decide+kernel)
def adC:ak Go.Proofs.Tryz.prog 140=true:=by decide+kernel
def aml:Told Go.Proofs.Tryz.prog 141 uI [.c 2 4 true 75,.t 3] 1:=Told.of Go.Proofs.Tryz.func141 (by decide+kernel)
def adD:ak Go.Proofs.Tryz.prog 141=true:=by decide+kernel
def amm:Told Go.Proofs.Tryz.prog 142 xy [] 2:=Told.of Go.Proofs.Tryz.func142 (by decide+kernel)
def adE:ak Go.Proofs.Tryz.prog 142=true:=by decide+kernel
def amn:Told Go.Proofs.Tryz.prog 143 oI [.c 2 7 true 63,.t 3] 1:=Told.of Go.Proofs.Tryz.func143 (by decide+kernel)
def adF:ak Go.Proofs.Tryz.prog 143=true:=by decide+kernel
def amo:Told Go.Proofs.Tryz.prog 144 Jz [] 2:=Told.of Go.Proofs.Tryz.func144 (by decide+kernel)
def adG:ak Go.Proofs.Tryz.prog 144=true:=by decide+kernel
def amq:Told Go.Proofs.Tryz.prog 145 Gb [.t 4] 2:=Told.of Go.Proofs.Tryz.func145 (by decide+kernel)
def adH:ak Go.Proofs.Tryz.prog 145=true:=by decide+kernel
def amr:Told Go.Proofs.Tryz.prog 146 Ju [.t 4] 2:=Told.of Go.Proofs.Tryz.func146 (by decide+kernel)
def adI:ak Go.Proofs.Tryz.prog 146=true:=by decide+kernel
def ams:Told Go.Proofs.Tryz.prog 147 D7 [.t 4] 2:=Told.of Go.Proofs.Tryz.func147 (by decide+kernel)
def adJ:ak Go.Proofs.Tryz.prog 147=true:=by decide+kernel
def amt:Told Go.Proofs.Tryz.prog 148 Jy [.t 4] 2:=Told.of Go.Proofs.Tryz.func148 (by decide+kernel)
def adK:ak Go.Proofs.Tryz.prog 148=true:=by decide+kernel
def amu:Told Go.Proofs.Tryz.prog 149 Gy [.t 2] 1:=Told.of Go.Proofs.Tryz.func149 (by decide+kernel)
def adL:ak Go.Proofs.Tryz.prog 149=true:=by decide+kernel
def amx:Told Go.Proofs.Tryz.prog 151 GH [.t 4] 2:=Told.of Go.Proofs.Tryz.func151 (by decide+kernel)
def adN:ak Go.Proofs.Tryz.prog 151=true:=by decide+kernel
def amy:Told Go.Proofs.Tryz.prog 152 GX [.t 4] 2:=Told.of Go.Proofs.Tryz.func152 (by decide+kernel)
def adO:ak Go.Proofs.Tryz.prog 152=true:=by decide+kernel
def amz:Told Go.Proofs.Tryz.prog 153 GY [.t 4] 2:=Told.of Go.Proofs.Tryz.func153 (by decide+kernel)
def adP:ak Go.Proofs.Tryz.prog 153=true:=by decide+kernel
def amA:Told Go.Proofs.Tryz.prog 154 uV [.t 4] 2:=Told.of Go.Proofs.Tryz.func154 (by decide+kernel)
def adQ:ak Go.Proofs.Tryz.prog 154=true:=by decide+kernel
def amB:Told Go.Proofs.Tryz.prog 155 sH [.t 4] 2:=Told.of Go.Proofs.Tryz.func155 (by decide+kernel)
def adR:ak Go.Proofs.Tryz.prog 155=true:=by decide+kernel
def amC:Told Go.Proofs.Tryz.prog 156 sJ [.t 4] 2:=Told.of Go.Proofs.Tryz.func156 (by decide+kernel)
def adS:ak Go.Proofs.Tryz.prog 156=true:=by decide+kernel
def amD:Told Go.Proofs.Tryz.prog 157 GS [.t 4] 2:=Told.of Go.Proofs.Tryz.func157 (by decide+kernel)
def adT:ak Go.Proofs.Tryz.prog 157=true:=by decide+kernel
def amE:Told Go.Proofs.Tryz.prog 158 qq [.t 4] 2:=Told.of Go.Proofs.Tryz.func158 (by decide+kernel)
def adU:ak Go.Proofs.Tryz.prog 158=true:=by decide+kernel
def amF:Told Go.Proofs.Tryz.prog 159 uW [.t 4] 2:=Told.of Go.Proofs.Tryz.func159 (by decide+kernel)
def adV:ak Go.Proofs.Tryz.prog 159=true:=by decide+kernel
def amH:Told Go.Proofs.Tryz.prog 160 Ik [.t 6] 3:=Told.of Go.Proofs.Tryz.func160 (by decide+kernel)
def adX:ak Go.Proofs.Tryz.prog 160=true:=by decide+kernel
def amI:Told Go.Proofs.Tryz.prog 161 IB [.t 6] 3:=Told.of Go.Proofs.Tryz.func161 (by decide+kernel)
def adY:ak Go.Proofs.Tryz.prog 161=true:=by decide+kernel
def amJ:Told Go.Proofs.Tryz.prog 162 IW [.t 4] 2:=Told.of Go.Proofs.Tryz.func162 (by decide+kernel)
def adZ:ak Go.Proofs.Tryz.prog 162=true:=by decide+kernel
def amK:Told Go.Proofs.Tryz.prog 163 vp [.c 6 3 true 61] 3:=Told.of Go.Proofs.Tryz.func163 (by decide+kernel)
def ad0:ak Go.Proofs.Tryz.prog 163=true:=by decide+kernel
def amL:Told Go.Proofs.Tryz.prog 164 Ia [.t 4] 2:=Told.of Go.Proofs.Tryz.func164 (by decide+kernel)
def ad1:ak Go.Proofs.Tryz.prog 164=true:=by decide+kernel
def amM:Told Go.Proofs.Tryz.prog 165 FR [.c 2 6 true 171] 1:=Told.of Go.Proofs.Tryz.func165 (by decide+kernel)
def ad2:ak Go.Proofs.Tryz.prog 165=true:=by decide+kernel
def amN:Told Go.Proofs.Tryz.prog 166 F2 [.t 6] 3:=Told.of Go.Proofs.Tryz.func166 (by decide+kernel)
def ad3:ak Go.Proofs.Tryz.prog 166=true:=by decide+kernel
def amO:Told Go.Proofs.Tryz.prog 167 Gi [.t 6] 3:=Told.of Go.Proofs.Tryz.func167 (by decide+kernel)
def ad4:ak Go.Proofs.Tryz.prog 167=true:=by decide+kernel
def amP:Told Go.Proofs.Tryz.prog 168 uH [.c 6 3 true 61] 3:=Told.of Go.Proofs.Tryz.func168 (by decide+kernel)
def ad5:ak Go.Proofs.Tryz.prog 168=true:=by decide+kernel
def amQ:Told Go.Proofs.Tryz.prog 169 A6 [.t 4] 2:=Told.of Go.Proofs.Tryz.func169 (by decide+kernel)
def ad6:ak Go.Proofs.Tryz.prog 169=true:=by decide+kernel
def amS:Told Go.Proofs.Tryz.prog 170 qi [.t 4] 2:=Told.of Go.Proofs.Tryz.func170 (by decide+kernel)
def ad8:ak Go.Proofs.Tryz.prog 170=true:=by decide+kernel
def amT:Told Go.Proofs.Tryz.prog 171 B3 [.t 4] 2:=Told.of Go.Proofs.Tryz.func171 (by decide+kernel)
def ad9:ak Go.Proofs.Tryz.prog 171=true:=by decide+kernel
def amU:Told Go.Proofs.Tryz.prog 172 xW [.t 4] 2:=Told.of Go.Proofs.Tryz.func172 (by decide+kernel)
def aea:ak Go.Proofs.Tryz.prog 172=true:=by decide+kernel
def amV:Told Go.Proofs.Tryz.prog 173 ID [.t 2] 1:=Told.of Go.Proofs.Tryz.func173 (by decide+kernel)
def aeb:ak Go.Proofs.Tryz.prog 173=true:=by decide+kernel
def amW:Told Go.Proofs.Tryz.prog 174 Dq [.t 4] 2:=Told.of Go.Proofs.Tryz.func174 (by decide+kernel)
def aec:ak Go.Proofs.Tryz.prog 174=true:=by decide+kernel
def amX:Told Go.Proofs.Tryz.prog 175 CQ [.t 4,.t 5] 2:=Told.of Go.Proofs.Tryz.func175 (by decide+kernel)
def aed:ak Go.Proofs.Tryz.prog 175=true:=by decide+kernel
def amY:Told Go.Proofs.Tryz.prog 176 IA [.t 2] 1:=Told.of Go.Proofs.Tryz.func176 (by decide+kernel)
def aee:ak Go.Proofs.Tryz.prog 176=true:=by decide+kernel
def amZ:Told Go.Proofs.Tryz.prog 177 Iq [.t 2] 1:=Told.of Go.Proofs.Tryz.func177 (by decide+kernel)
def aef:ak Go.Proofs.Tryz.prog 177=true:=by decide+kernel
def am0:Told Go.Proofs.Tryz.prog 178 IE [.t 2] 1:=Told.of Go.Proofs.Tryz.func178 (by decide+kernel)
def aeg:ak Go.Proofs.Tryz.prog 178=true:=by decide+kernel
def am1:Told Go.Proofs.Tryz.prog 179 H9 [.c 2 6 true 171] 1:=Told.of Go.Proofs.Tryz.func179 (by decide+kernel)
def aeh:ak Go.Proofs.Tryz.prog 179=true:=by decide+kernel
def am3:Told Go.Proofs.Tryz.prog 180 CL [.t 2] 1:=Told.of Go.Proofs.Tryz.func180 (by decide+kernel)
def aej:ak Go.Proofs.Tryz.prog 180=true:=by decide+kernel
def am4:Told Go.Proofs.Tryz.prog 181 Dj [.t 2] 1:=Told.of Go.Proofs.Tryz.func181 (by decide+kernel)
def aek:ak Go.Proofs.Tryz.prog 181=true:=by decide+kernel
def am5:Told Go.Proofs.Tryz.prog 182 IC [.t 2] 1:=Told.of Go.Proofs.Tryz.func182 (by decide+kernel)
def ael:ak Go.Proofs.Tryz.prog 182=true:=by decide+kernel
def am6:Told Go.Proofs.Tryz.prog 183 Ds [.t 2,.t 3] 1:=Told.of Go.Proofs.Tryz.func183 (by decide+kernel)
def aem:ak Go.Proofs.Tryz.prog 183=true:=by decide+kernel
def am7:Told Go.Proofs.Tryz.prog 184 I1 [.t 2] 1:=Told.of Go.Proofs.Tryz.func184 (by decide+kernel)
def aen:ak Go.Proofs.Tryz.prog 184=true:=by decide+kernel
def am8:Told Go.Proofs.Tryz.prog 185 Ii [.t 2] 1:=Told.of Go.Proofs.Tryz.func185 (by decide+kernel)
def aeo:ak Go.Proofs.Tryz.prog 185=true:=by decide+kernel
def am9:Told Go.Proofs.Tryz.prog 186 Hv [.c 2 2 true 143] 1:=Told.of Go.Proofs.Tryz.func186 (by decide+kernel)
def aep:ak Go.Proofs.Tryz.prog 186=true:=by decide+kernel
def ana:Told Go.Proofs.Tryz.prog 187 G7 [.t 2] 1:=Told.of Go.Proofs.Tryz.func187 (by decide+kernel)
def aer:ak Go.Proofs.Tryz.prog 187=true:=by decide+kernel
def anb:Told Go.Proofs.Tryz.prog 188 xG [.t 2] 1:=Told.of Go.Proofs.Tryz.func188 (by decide+kernel)
def aes:ak Go.Proofs.Tryz.prog 188=true:=by decide+kernel
def anc:Told Go.Proofs.Tryz.prog 189 FZ [.t 2] 1:=Told.of Go.Proofs.Tryz.func189 (by decide+kernel)
def aet:ak Go.Proofs.Tryz.prog 189=true:=by decide+kernel
def anf:Told Go.Proofs.Tryz.prog 190 uO [.t 2] 1:=Told.of Go.Proofs.Tryz.func190 (by decide+kernel)
def aev:ak Go.Proofs.Tryz.prog 190=true:=by decide+kernel
def ang:Told Go.Proofs.Tryz.prog 191 GG [.t 2] 1:=Told.of Go.Proofs.Tryz.func191 (by decide+kernel)
def aew:ak Go.Proofs.Tryz.prog 191=true:=by decide+kernel
def anh:Told Go.Proofs.Tryz.prog 192 uL [.t 2] 1:=Told.of Go.Proofs.Tryz.func192 (by decide+kernel)
def aex:ak Go.Proofs.Tryz.prog 192=true:=by decide+kernel
def ani:Told Go.Proofs.Tryz.prog 193 Gn [.t 2] 1:=Told.of Go.Proofs.Tryz.func193 (by decide+kernel)
def aey:ak Go.Proofs.Tryz.prog 193=true:=by decide+kernel
def anj:Told Go.Proofs.Tryz.prog 194 Gx [.t 2] 1:=Told.of Go.Proofs.Tryz.func194 (by decide+kernel)
def aez:ak Go.Proofs.Tryz.prog 194=true:=by decide+kernel
def ank:Told Go.Proofs.Tryz.prog 195 Jx [.t 4] 2:=Told.of Go.Proofs.Tryz.func195 (by decide+kernel)
def aeA:ak Go.Proofs.Tryz.prog 195=true:=by decide+kernel
def anl:Told Go.Proofs.Tryz.prog 196 Gk [.t 2] 1:=Told.of Go.Proofs.Tryz.func196 (by decide+kernel)
def aeB:ak Go.Proofs.Tryz.prog 196=true:=by decide+kernel
def anm:Told Go.Proofs.Tryz.prog 197 Gd [.t 3] 2:=Told.of Go.Proofs.Tryz.func197 (by decide+kernel)
def aeC:ak Go.Proofs.Tryz.prog 197=true:=by decide+kernel
def ano:Told Go.Proofs.Tryz.prog 201 xp [.t 4] 2:=Told.of Go.Proofs.Tryz.func201 (by decide+kernel)
def aeE:ak Go.Proofs.Tryz.prog 201=true:=by decide+kernel
def anp:Told Go.Proofs.Tryz.prog 202 Gq [.t 2] 1:=Told.of Go.Proofs.Tryz.func202 (by decide+kernel)
def aeF:ak Go.Proofs.Tryz.prog 202=true:=by decide+kernel
def anq:Told Go.Proofs.Tryz.prog 203 A5 [.t 2] 1:=Told.of Go.Proofs.Tryz.func203 (by decide+kernel)
def aeG:ak Go.Proofs.Tryz.prog 203=true:=by decide+kernel
def anr:Told Go.Proofs.Tryz.prog 204 oJ [.c 2 3 true 61,.t 3] 1:=Told.of Go.Proofs.Tryz.func204 (by decide+kernel)
def aeH:ak Go.Proofs.Tryz.prog 204=true:=by decide+kernel
def ans:Told Go.Proofs.Tryz.prog 205 Bl [.t 2] 1:=Told.of Go.Proofs.Tryz.func205 (by decide+kernel)
def aeI:ak Go.Proofs.Tryz.prog 205=true:=by decide+kernel
def ant:Told Go.Proofs.Tryz.prog 206 JC [] 3:=Told.of Go.Proofs.Tryz.func206 (by decide+kernel)
def aeJ:ak Go.Proofs.Tryz.prog 206=true:=by decide+kernel
def anu:Told Go.Proofs.Tryz.prog 207 Jv [.t 2] 1:=Told.of Go.Proofs.Tryz.func207 (by decide+kernel)
def aeK:ak Go.Proofs.Tryz.prog 207=true:=by decide+kernel
def anv:Told Go.Proofs.Tryz.prog 208 xS [.t 4] 2:=Told.of Go.Proofs.Tryz.func208 (by decide+kernel)
def aeL:ak Go.Proofs.Tryz.prog 208=true:=by decide+kernel
def anw:Told Go.Proofs.Tryz.prog 209 GQ [.t 4] 2:=Told.of Go.Proofs.Tryz.func209 (by decide+kernel)
def aeM:ak Go.Proofs.Tryz.prog 209=true:=by decide+kernel
def anz:Told Go.Proofs.Tryz.prog 210 yJ [.t 6] 3:=Told.of Go.Proofs.Tryz.func210 (by decide+kernel)
def aeO:ak Go.Proofs.Tryz.prog 210=true:=by decide+kernel
def anA:Told Go.Proofs.Tryz.prog 211 Ip [.t 2] 1:=Told.of Go.Proofs.Tryz.func211 (by decide+kernel)
def aeP:ak Go.Proofs.Tryz.prog 211=true:=by decide+kernel
def anB:Told Go.Proofs.Tryz.prog 212 Dw [.t 2] 1:=Told.of Go.Proofs.Tryz.func212 (by decide+kernel)
def aeQ:ak Go.Proofs.Tryz.prog 212=true:=by decide+kernel
def anC:Told Go.Proofs.Tryz.prog 213 IF [.t 4] 2:=Told.of Go.Proofs.Tryz.func213 (by decide+kernel)
def aeR:ak Go.Proofs.Tryz.prog 213=true:=by decide+kernel
def anD:Told Go.Proofs.Tryz.prog 214 I6 [.c 2 3 true 61] 1:=Told.of Go.Proofs.Tryz.func214 (by decide+kernel)
def aeS:ak Go.Proofs.Tryz.prog 214=true:=by decide+kernel
def anE:Told Go.Proofs.Tryz.prog 215 yS [.t 4] 2:=Told.of Go.Proofs.Tryz.func215 (by decide+kernel)
def aeT:ak Go.Proofs.Tryz.prog 215=true:=by decide+kernel
def anF:Told Go.Proofs.Tryz.prog 216 Iz [.c 2 3 true 61] 1:=Told.of Go.Proofs.Tryz.func216 (by decide+kernel)
def aeU:ak Go.Proofs.Tryz.prog 216=true:=by decide+kernel
def anG:Told Go.Proofs.Tryz.prog 217 C4 [.t 6] 3:=Told.of Go.Proofs.Tryz.func217 (by decide+kernel)
def aeV:ak Go.Proofs.Tryz.prog 217=true:=by decide+kernel
def anH:Told Go.Proofs.Tryz.prog 218 Bb [.t 4,.t 5] 2:=Told.of Go.Proofs.Tryz.func218 (by decide+kernel)
def aeW:ak Go.Proofs.Tryz.prog 218=true:=by decide+kernel
def anI:Told Go.Proofs.Tryz.prog 219 FT [.c 2 6 true 171] 1:=Told.of Go.Proofs.Tryz.func219 (by decide+kernel)
def aeX:ak Go.Proofs.Tryz.prog 219=true:=by decide+kernel
def anK:Told Go.Proofs.Tryz.prog 220 xh [.t 6] 3:=Told.of Go.Proofs.Tryz.func220 (by decide+kernel)
def aeZ:ak Go.Proofs.Tryz.prog 220=true:=by decide+kernel
def anL:Told Go.Proofs.Tryz.prog 221 F6 [.t 2] 1:=Told.of Go.Proofs.Tryz.func221 (by decide+kernel)
def ae0:ak Go.Proofs.Tryz.prog 221=true:=by decide+kernel
def anM:Told Go.Proofs.Tryz.prog 222 DV [.t 4] 2:=Told.of Go.Proofs.Tryz.func222 (by decide+kernel)
def ae1:ak Go.Proofs.Tryz.prog 222=true:=by decide+kernel
def anN:Told Go.Proofs.Tryz.prog 223 Gm [.t 4] 2:=Told.of Go.Proofs.Tryz.func223 (by decide+kernel)
def ae2:ak Go.Proofs.Tryz.prog 223=true:=by decide+kernel
def anO:Told Go.Proofs.Tryz.prog 224 Gs [.c 2 3 true 61] 1:=Told.of Go.Proofs.Tryz.func224 (by decide+kernel)
def ae3:ak Go.Proofs.Tryz.prog 224=true:=by decide+kernel
def anP:Told Go.Proofs.Tryz.prog 225 xu [.t 4] 2:=Told.of Go.Proofs.Tryz.func225 (by decide+kernel)
def ae4:ak Go.Proofs.Tryz.prog 225=true:=by decide+kernel
def anQ:Told Go.Proofs.Tryz.prog 226 Gf [.c 2 3 true 61] 1:=Told.of Go.Proofs.Tryz.func226 (by decide+kernel)
def ae5:ak Go.Proofs.Tryz.prog 226=true:=by decide+kernel
def anR:Told Go.Proofs.Tryz.prog 227 Bm [.t 6] 3:=Told.of Go.Proofs.Tryz.func227 (by decide+kernel)
def ae6:ak Go.Proofs.Tryz.prog 227=true:=by decide+kernel
def anS:Told Go.Proofs.Tryz.prog 228 Bh [.t 2] 1:=Told.of Go.Proofs.Tryz.func228 (by decide+kernel)
def ae7:ak Go.Proofs.Tryz.prog 228=true:=by decide+kernel
def anU:Told Go.Proofs.Tryz.prog 230 xX [.t 4] 2:=Told.of Go.Proofs.Tryz.func230 (by decide+kernel)
def ae9:ak Go.Proofs.Tryz.prog 230=true:=by decide+kernel
def anV:Told Go.Proofs.Tryz.prog 231 y9 [.t 2,.t 3] 1:=Told.of Go.Proofs.Tryz.func231 (by decide+kernel)
def afa:ak Go.Proofs.Tryz.prog 231=true:=by decide+kernel
def anW:Told Go.Proofs.Tryz.prog 232 G8 [.c 2 2 true 216] 1:=Told.of Go.Proofs.Tryz.func232 (by decide+kernel)
def afb:ak Go.Proofs.Tryz.prog 232=true:=by decide+kernel
def anX:Told Go.Proofs.Tryz.prog 233 Gp [.t 4] 2:=Told.of Go.Proofs.Tryz.func233 (by decide+kernel)
def afc:ak Go.Proofs.Tryz.prog 233=true:=by decide+kernel
def anY:Told Go.Proofs.Tryz.prog 234 Gu [.t 4] 2:=Told.of Go.Proofs.Tryz.func234 (by decide+kernel)
def afd:ak Go.Proofs.Tryz.prog 234=true:=by decide+kernel
def anZ:Told Go.Proofs.Tryz.prog 235 Gl [.t 2] 1:=Told.of Go.Proofs.Tryz.func235 (by decide+kernel)
def afe:ak Go.Proofs.Tryz.prog 235=true:=by decide+kernel
def an0:Told Go.Proofs.Tryz.prog 236 Gh [.t 2] 1:=Told.of Go.Proofs.Tryz.func236 (by decide+kernel)
def aff:ak Go.Proofs.Tryz.prog 236=true:=by decide+kernel
def an1:Told Go.Proofs.Tryz.prog 237 F7 [.t 2] 1:=Told.of Go.Proofs.Tryz.func237 (by decide+kernel)
def afg:ak Go.Proofs.Tryz.prog 237=true:=by decide+kernel
def an3:Told Go.Proofs.Tryz.prog 242 Gj [.t 2] 1:=Told.of Go.Proofs.Tryz.func242 (by decide+kernel)
def afi:ak Go.Proofs.Tryz.prog 242=true:=by decide+kernel
def an4:Told Go.Proofs.Tryz.prog 243 sB [.t 2,.t 3,.t 4,.t 5] 1:=Told.of Go.Proofs.Tryz.func243 (by decide+kernel)
def afj:ak Go.Proofs.Tryz.prog 243=true:=by decide+kernel
def an5:Told Go.Proofs.Tryz.prog 244 Bo [.t 2] 1:=Told.of Go.Proofs.Tryz.func244 (by decide+kernel)
def afk:ak Go.Proofs.Tryz.prog 244=true:=by decide+kernel
def an6:Told Go.Proofs.Tryz.prog 245 Ea [] 4:=Told.of Go.Proofs.Tryz.func245 (by decide+kernel)
def afl:ak Go.Proofs.Tryz.prog 245=true:=by decide+kernel
def an7:Told Go.Proofs.Tryz.prog 246 V6 [] 5:=Told.of Go.Proofs.Tryz.func246 (by decide+kernel)
def afm:ak Go.Proofs.Tryz.prog 246=true:=by decide+kernel
def an8:Told Go.Proofs.Tryz.prog 247 xR [.t 4] 2:=Told.of Go.Proofs.Tryz.func247 (by decide+kernel)
def afn:ak Go.Proofs.Tryz.prog 247=true:=by decide+kernel
def an9:Told Go.Proofs.Tryz.prog 248 Iu [.t 4] 2:=Told.of Go.Proofs.Tryz.func248 (by decide+kernel)
def afo:ak Go.Proofs.Tryz.prog 248=true:=by decide+kernel
def aoa:Told Go.Proofs.Tryz.prog 249 vI [.t 4] 2:=Told.of Go.Proofs.Tryz.func249 (by decide+kernel)
def afp:ak Go.Proofs.Tryz.prog 249=true:=by decide+kernel
def aoc:Told Go.Proofs.Tryz.prog 250 I4 [.t 2] 1:=Told.of Go.Proofs.Tryz.func250 (by decide+kernel)
def afr:ak Go.Proofs.Tryz.prog 250=true:=by decide+kernel
def aod:Told Go.Proofs.Tryz.prog 251 qg [] 2:=Told.of Go.Proofs.Tryz.func251 (by decide+kernel)
def afs:ak Go.Proofs.Tryz.prog 251=true:=by decide+kernel
def aoe:Told Go.Proofs.Tryz.prog 252 F8 [.t 4] 2:=Told.of Go.Proofs.Tryz.func252 (by decide+kernel)
def aft:ak Go.Proofs.Tryz.prog 252=true:=by decide+kernel
def aof:Told Go.Proofs.Tryz.prog 253 xH [.t 4] 2:=Told.of Go.Proofs.Tryz.func253 (by decide+kernel)
def afu:ak Go.Proofs.Tryz.prog 253=true:=by decide+kernel
def aog:Told Go.Proofs.Tryz.prog 254 D9 [.t 4] 2:=Told.of Go.Proofs.Tryz.func254 (by decide+kernel)
def afv:ak Go.Proofs.Tryz.prog 254=true:=by decide+kernel
def aoi:Told Go.Proofs.Tryz.prog 257 D0 [.t 4] 2:=Told.of Go.Proofs.Tryz.func257 (by decide+kernel)
def afw:ak Go.Proofs.Tryz.prog 257=true:=by decide+kernel
def aoj:Told Go.Proofs.Tryz.prog 258 Gt [.t 3] 2:=Told.of Go.Proofs.Tryz.func258 (by decide+kernel)
def afx:ak Go.Proofs.Tryz.prog 258=true:=by decide+kernel
def aol:Told Go.Proofs.Tryz.prog 268 GB [.t 2] 1:=Told.of Go.Proofs.Tryz.func268 (by decide+kernel)
def afz:ak Go.Proofs.Tryz.prog 268=true:=by decide+kernel
def aom:Told Go.Proofs.Tryz.prog 269 VW [] 5:=Told.of Go.Proofs.Tryz.func269 (by decide+kernel)
def afA:ak Go.Proofs.Tryz.prog 269=true:=by decide+kernel
def aoo:Told Go.Proofs.Tryz.prog 271 GI [.t 2] 1:=Told.of Go.Proofs.Tryz.func271 (by decide+kernel)
def afC:ak Go.Proofs.Tryz.prog 271=true:=by decide+kernel
def aor:Told Go.Proofs.Tryz.prog 294 VZ [] 5:=Told.of Go.Proofs.Tryz.func294 (by decide+kernel)
def afF:ak Go.Proofs.Tryz.prog 294=true:=by decide+kernel
def aoh:Told Go.Proofs.Tryz.prog 255 (wQ 2 32) [.t 2] 1:=Told.of Go.Proofs.Tryz.func255 (by decide+kernel)
def amw:Told Go.Proofs.Tryz.prog 150 (wQ 2 24) [.t 2] 1:=Told.of Go.Proofs.Tryz.func150 (by decide+kernel)
def apo:Told Go.Proofs.Tryz.prog 83 (wQ 1 16) [.t 2] 1:=Told.of Go.Proofs.Tryz.func83 (by decide+kernel)
set_option maxHeartbeats 4000000 in
def aqm:TT.Ok Go.Proofs.Tryz.prog:=by
  refine⟨λf F h=>?_,λf F h=>?_⟩
  · have h:_=_:=h
    rcases Option.or_eq_some_iff.1 h with h|⟨_,h⟩
    · unfold J1 at h
      split at h
      · cases h;exact aoC
      · cases h;exact aoN
      · cases h;exact aoY
      · cases h;exact ao9
      · cases h;exact apk
      · cases h;exact apw
      · cases h;exact alB
      · cases h;exact alM
      · cases h;exact alX
      · cases h;exact al8
      · cases h;exact amj
      · cases h;exact amv
      · cases h;exact amG
      · cases h;exact amR
      · cases h;exact am2
      · cases h;exact ane
      · cases h;exact ann
      · cases h;exact anx
      · cases h;exact anJ
      · cases h;exact anT
      · cases h;exact an2
      · cases h;exact aob
      · cases h;exact aok
      · cases h;exact aon
      · cases h;exact aop
      · cases h;exact aoq
      · cases h;exact aos
      · cases h;exact aot
      · cases h;exact aou
      · cases h;exact aov
      · cases h;exact aow
      · cases h;exact aox
      · cases h;exact aoy
      · cases h;exact aoz
      · cases h;exact aoA
      · cases h;exact aoB
      · cases h;exact aoD
      · cases h;exact aoE
      · cases h;exact aoF
      · cases h;exact aoG
      · cases h;exact aoH
      · cases h;exact aoI
      · cases h;exact aoJ
      · cases h;exact aoK
      · cases h;exact aoL
      · cases h;exact aoM
      · cases h;exact aoO
      · cases h;exact aoP
      · cases h;exact aoQ
      · cases h;exact aoR
      · cases h;exact aoS
      · cases h;exact aoT
      · cases h;exact aoU
      · cases h;exact aoV
      · cases h;exact aoW
      · cases h;exact aoX
      · cases h;exact aoZ
      · cases h;exact ao0
      · cases h;exact ao1
      · cases h;exact ao2
      · cases h;exact ao3
      · cases h;exact ao4
      · cases h;exact ao5
      · cases h;exact ao6
      · cases h;exact ao7
      · cases h;exact ao8
      · cases h;exact apa
      · cases h;exact apb
      · cases h;exact apc
      · cases h;exact apd
      · cases h;exact ape
      · cases h;exact apf
      · cases h;exact apg
      · cases h;exact aph
      · cases h;exact api
      · cases h;exact apj
      · cases h;exact apl
      · cases h;exact apm
      · cases h;exact apn
      · cases h;exact apq
      · cases h;exact apr
      · cases h;exact aps
      · cases h;exact apt
      · cases h;exact apu
      · cases h;exact apv
      · cases h;exact apx
      · cases h;exact apy
      · cases h;exact apz
      · cases h;exact apA
      · cases h;exact apB
      · cases h;exact apC
      · cases h;exact apD
      · cases h;exact apE
      · cases h;exact apF
      · cases h;exact apG
      · cases h;exact alC
      · cases h;exact alD
      · cases h;exact alE
      · cases h;exact alF
      · cases h;exact alG
      · cases h;exact alH
      · cases h;exact alI
      · cases h;exact alJ
      · cases h;exact alK
      · cases h;exact alL
      · cases h;exact alN
      · cases h;exact alO
      · cases h;exact alP
      · cases h;exact alQ
      · cases h;exact alR
      · cases h;exact alS
      · cases h;exact alT
      · cases h;exact alU
      · cases h;exact alV
      · cases h;exact alW
      · cases h;exact alY
      · cases h;exact alZ
      · cases h;exact al0
      · cases h;exact al1
      · cases h;exact al2
      · cases h
    rcases Option.or_eq_some_iff.1 h with h|⟨_,h⟩
    · unfold J2 at h
      split at h
      · cases h;exact al3
      · cases h;exact al4
      · cases h;exact al5
      · cases h;exact al6
      · cases h;exact al7
      · cases h;exact al9
      · cases h;exact ama
      · cases h;exact amb
      · cases h;exact amc
      · cases h;exact amd
      · cases h;exact ame
      · cases h;exact amf
      · cases h;exact amg
      · cases h;exact amh
      · cases h;exact ami
      · cases h;exact amk
      · cases h;exact aml
      · cases h;exact amm
      · cases h;exact amn
      · cases h;exact amo
      · cases h;exact amq
      · cases h;exact amr
      · cases h;exact ams
      · cases h;exact amt
      · cases h;exact amu
      · cases h;exact amx
      · cases h;exact amy
      · cases h;exact amz
      · cases h;exact amA
      · cases h;exact amB
      · cases h;exact amC
      · cases h;exact amD
      · cases h;exact amE
      · cases h;exact amF
      · cases h;exact amH
      · cases h;exact amI
      · cases h;exact amJ
      · cases h;exact amK
      · cases h;exact amL
      · cases h;exact amM
      · cases h;exact amN
      · cases h;exact amO
      · cases h;exact amP
      · cases h;exact amQ
      · cases h;exact amS
      · cases h;exact amT
      · cases h;exact amU
      · cases h;exact amV
      · cases h;exact amW
      · cases h;exact amX
      · cases h;exact amY
      · cases h;exact amZ
      · cases h;exact am0
      · cases h;exact am1
      · cases h;exact am3
      · cases h;exact am4
      · cases h;exact am5
      · cases h;exact am6
      · cases h;exact am7
      · cases h;exact am8
      · cases h;exact am9
      · cases h;exact ana
      · cases h;exact anb
      · cases h;exact anc
      · cases h;exact anf
      · cases h;exact ang
      · cases h;exact anh
      · cases h;exact ani
      · cases h;exact anj
      · cases h;exact ank
      · cases h;exact anl
      · cases h;exact anm
      · cases h;exact ano
      · cases h;exact anp
      · cases h;exact anq
      · cases h;exact anr
      · cases h;exact ans
      · cases h;exact ant
      · cases h;exact anu
      · cases h;exact anv
      · cases h;exact anw
      · cases h;exact anz
      · cases h;exact anA
      · cases h;exact anB
      · cases h;exact anC
      · cases h;exact anD
      · cases h;exact anE
      · cases h;exact anF
      · cases h;exact anG
      · cases h;exact anH
      · cases h;exact anI
      · cases h;exact anK
      · cases h;exact anL
      · cases h;exact anM
      · cases h;exact anN
      · cases h;exact anO
      · cases h;exact anP
      · cases h;exact anQ
      · cases h;exact anR
      · cases h;exact anS
      · cases h;exact anU
      · cases h;exact anV
      · cases h;exact anW
      · cases h;exact anX
      · cases h;exact anY
      · cases h;exact anZ
      · cases h;exact an0
      · cases h;exact an1
      · cases h;exact an3
      · cases h;exact an4
      · cases h;exact an5
      · cases h;exact an6
      · cases h;exact an7
      · cases h;exact an8
      · cases h;exact an9
      · cases h;exact aoa
      · cases h;exact aoc
      · cases h;exact aod
      · cases h;exact aoe
      · cases h;exact aof
      · cases h
    unfold J3 at h
    split at h
    · cases h;exact aog
    · cases h;exact aoi
    · cases h;exact aoj
    · cases h;exact aol
    · cases h;exact aom
    · cases h;exact aoo
    · cases h;exact aor
    · cases h
  · have h:_=_:=h
    rcases Option.or_eq_some_iff.1 h with h|⟨_,h⟩
    · unfold J1 at h
      split at h
      · cases h;exact afQ
      · cases h;exact af1
      · cases h;exact agc
      · cases h;exact agp
      · cases h;exact agA
      · cases h;exact agK
      · cases h;exact acO
      · cases h;exact acZ
      · cases h;exact ada
      · cases h;exact ado
      · cases h;exact adB
      · cases h;exact adM
      · cases h;exact adW
      · cases h;exact ad7
      · cases h;exact aei
      · cases h;exact aeu
      · cases h;exact aeD
      · cases h;exact aeN
      · cases h;exact aeY
      · cases h;exact ae8
      · cases h;exact afh
      · cases h;exact afq
      · cases h;exact afy
      · cases h;exact afB
      · cases h;exact afD
      · cases h;exact afE
      · cases h;exact afG
      · cases h;exact afH
      · cases h;exact afI
      · cases h;exact afJ
      · cases h;exact afK
      · cases h;exact afL
      · cases h;exact afM
      · cases h;exact afN
      · cases h;exact afO
      · cases h;exact afP
      · cases h;exact afR
      · cases h;exact afS
      · cases h;exact afT
      · cases h;exact afU
      · cases h;exact afV
      · cases h;exact afW
      · cases h;exact afX
      · cases h;exact afY
      · cases h;exact afZ
      · cases h;exact af0
      · cases h;exact af2
      · cases h;exact af3
      · cases h;exact af4
      · cases h;exact af5
      · cases h;exact af6
      · cases h;exact af7
      · cases h;exact af8
      · cases h;exact af9
      · cases h;exact aga
      · cases h;exact agb
      · cases h;exact agd
      · cases h;exact agf
      · cases h;exact agh
      · cases h;exact agi
      · cases h;exact agj
      · cases h;exact agk
      · cases h;exact agl
      · cases h;exact agm
      · cases h;exact agn
      · cases h;exact ago
      · cases h;exact agq
      · cases h;exact agr
      · cases h;exact ags
      · cases h;exact agt
      · cases h;exact agu
      · cases h;exact agv
      · cases h;exact agw
      · cases h;exact agx
      · cases h;exact agy
      · cases h;exact agz
      · cases h;exact agB
      · cases h;exact agC
      · cases h;exact agD
      · cases h;exact agE
      · cases h;exact agF
      · cases h;exact agG
      · cases h;exact agH
      · cases h;exact agI
      · cases h;exact agJ
      · cases h;exact agL
      · cases h;exact agM
      · cases h;exact agN
      · cases h;exact agO
      · cases h;exact agP
      · cases h;exact agQ
      · cases h;exact agR
      · cases h;exact agS
      · cases h;exact agT
      · cases h;exact agU
      · cases h;exact acP
      · cases h;exact acQ
      · cases h;exact acR
      · cases h;exact acS
      · cases h;exact acT
      · cases h;exact acU
      · cases h;exact acV
      · cases h;exact acW
      · cases h;exact acX
      · cases h;exact acY
      · cases h;exact ac0
      · cases h;exact ac1
      · cases h;exact ac2
      · cases h;exact ac3
      · cases h;exact ac4
      · cases h;exact ac5
      · cases h;exact ac6
      · cases h;exact ac7
      · cases h;exact ac8
      · cases h;exact ac9
      · cases h;exact adb
      · cases h;exact ade
      · cases h;exact adf
      · cases h;exact adg
      · cases h;exact adh
      · cases h
    rcases Option.or_eq_some_iff.1 h with h|⟨_,h⟩
    · unfold J2 at h
      split at h
      · cases h;exact adi
      · cases h;exact adj
      · cases h;exact adk
      · cases h;exact adl
      · cases h;exact adn
      · cases h;exact adp
      · cases h;exact adq
      · cases h;exact ads
      · cases h;exact adt
      · cases h;exact adu
      · cases h;exact adw
      · cases h;exact adx
      · cases h;exact ady
      · cases h;exact adz
      · cases h;exact adA
      · cases h;exact adC
      · cases h;exact adD
      · cases h;exact adE
      · cases h;exact adF
      · cases h;exact adG
      · cases h;exact adH
      · cases h;exact adI
      · cases h;exact adJ
      · cases h;exact adK
      · cases h;exact adL
      · cases h;exact adN
      · cases h;exact adO
      · cases h;exact adP
      · cases h;exact adQ
      · cases h;exact adR
      · cases h;exact adS
      · cases h;exact adT
      · cases h;exact adU
      · cases h;exact adV
      · cases h;exact adX
      · cases h;exact adY
      · cases h;exact adZ
      · cases h;exact ad0
      · cases h;exact ad1
      · cases h;exact ad2
      · cases h;exact ad3
      · cases h;exact ad4
      · cases h;exact ad5
      · cases h;exact ad6
      · cases h;exact ad8
      · cases h;exact ad9
      · cases h;exact aea
      · cases h;exact aeb
      · cases h;exact aec
      · cases h;exact aed
      · cases h;exact aee
      · cases h;exact aef
      · cases h;exact aeg
      · cases h;exact aeh
      · cases h;exact aej
      · cases h;exact aek
      · cases h;exact ael
      · cases h;exact aem
      · cases h;exact aen
      · cases h;exact aeo
      · cases h;exact aep
      · cases h;exact aer
      · cases h;exact aes
      · cases h;exact aet
      · cases h;exact aev
      · cases h;exact aew
      · cases h;exact aex
      · cases h;exact aey
      · cases h;exact aez
      · cases h;exact aeA
      · cases h;exact aeB
      · cases h;exact aeC
      · cases h;exact aeE
      · cases h;exact aeF
      · cases h;exact aeG
      · cases h;exact aeH
      · cases h;exact aeI
      · cases h;exact aeJ
      · cases h;exact aeK
      · cases h;exact aeL
      · cases h;exact aeM
      · cases h;exact aeO
      · cases h;exact aeP
      · cases h;exact aeQ
      · cases h;exact aeR
      · cases h;exact aeS
      · cases h;exact aeT
      · cases h;exact aeU
      · cases h;exact aeV
      · cases h;exact aeW
      · cases h;exact aeX
      · cases h;exact aeZ
      · cases h;exact ae0
      · cases h;exact ae1
      · cases h;exact ae2
      · cases h;exact ae3
      · cases h;exact ae4
      · cases h;exact ae5
      · cases h;exact ae6
      · cases h;exact ae7
      · cases h;exact ae9
      · cases h;exact afa
      · cases h;exact afb
      · cases h;exact afc
      · cases h;exact afd
      · cases h;exact afe
      · cases h;exact aff
      · cases h;exact afg
      · cases h;exact afi
      · cases h;exact afj
      · cases h;exact afk
      · cases h;exact afl
      · cases h;exact afm
      · cases h;exact afn
      · cases h;exact afo
      · cases h;exact afp
      · cases h;exact afr
      · cases h;exact afs
      · cases h;exact aft
      · cases h;exact afu
      · cases h
    unfold J3 at h
    split at h
    · cases h;exact afv
    · cases h;exact afw
    · cases h;exact afx
    · cases h;exact afz
    · cases h;exact afA
    · cases h;exact afC
    · cases h;exact afF
    · cases h
def aql(htab:Lib.TabIs Go.Proofs.Tryz.prog Bs.W0 "internal/strconv.uint64pow10" .u64 Lib.pow10Tab) (hmax:∃m,Bs.W0.cell? ⟨0,0,none⟩=some (.int .i64 m)) (LM:∃te pe,Bs.W0.var? Go.Proofs.Tryz.prog "strconv.ErrSyntax" =some #[.iface te pe]) (kI:∃te pe,Bs.W0.var? Go.Proofs.Tryz.prog "strconv.ErrRange" =some #[.iface te pe]):LI.Sound Go.Proofs.Tryz.prog:=(oT (acK λA cap fs w h1 h2 h3=>Go.Proofs.agZ A cap fs w h1 h2 h3) (oT (ajo λs w hw hs=>Go.Proofs.ajj htab LM kI s w hw hs) (oT (KY aoh) (oT (KY amw) (oT (KY apo) (oT (aif htab λn h0 h1 w ht=>Go.Proofs.Tryz.strconv_Itoa n h0 h1 w ht) (oT (acg (g1:=0) hmax λs sep m w h1 h2=>Go.Proofs.Tryz.strings_Cut s sep m w h1 h2) (oT (ach λs p w=>Go.Proofs.Tryz.strings_CutPrefix s p w) (oT (ahk λs p w=>Go.Proofs.Tryz.strings_HasPrefix s p w) (oT (alc (g1:=0) (t9:=_) hmax λs sep m w h1 h2 h3=>Go.Proofs.Tryz.strings_Split s sep m w h1 h2 h3) (apH λs c h w hs=>Go.Proofs.Tryz.strings_Trim_one s c h w hs)))))))))))
end M
