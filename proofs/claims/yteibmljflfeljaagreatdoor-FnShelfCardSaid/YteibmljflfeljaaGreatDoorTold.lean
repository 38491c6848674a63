/- Each function of the table is the program's, and the library is as it is said to be; no conditions. -/
import Derived.Test.YteibmljflfeljaaGreatDoorProg
import Derived.Test.YteibmljflfeljaaGreatDoorLay
import Derived.Test.YteibmljflfeljaaGreatDoorTab
import Derived.Test.YteibmljflfeljaaGreatDoorMc
import Derived.WalkKit
import Derived.Lib.FrozenHead
import Derived.Lib.OthersKept
import Derived.Lib.Builder
set_option linter.defProp false
set_option linter.unusedSectionVars false
set_option linter.unusedVariables false
set_option linter.unusedSimpArgs false
set_option linter.unusedVariables false
set_option linter.unusedSectionVars false
set_option maxRecDepth 100000
namespace Go.Proofs
open Go.RowKit
set_option maxHeartbeats 2000000 in
set_option maxRecDepth 100000 in
def Y4(b:Nat)(w:World)(h0:w.cell? ⟨b,0,none⟩=some (.pointer (some ⟨b,0,none⟩))):
    Calls Tryz.prog 141 #[.pointer (some ⟨b,0,none⟩)] w λe w'=>e=.returned (.tuple #[])/\w'=w:=by obtain⟨j,hj,Fw⟩:=lq.1 (show (Tryz.prog.info? 112).map (·.size)=some 2 by kernel_rfl);go_enter Tryz.func141,Tryz.ntmps141;go_wp2;rw[Lib.run_neq_ptr_same w _ Tryz.underlying110 hj];go_wp2;go_end0;exact⟨rfl,rfl⟩
set_option maxHeartbeats 2000000 in
set_option maxRecDepth 100000 in
def Y3(b:Nat)(w:World)(h0:w.cell? ⟨b,0,none⟩=some (.pointer none))(hsh:w.shape? b=some (112,2))(hfz:w.frozen? ⟨b,0,none⟩=false):
    Calls Tryz.prog 141 #[.pointer (some ⟨b,0,none⟩)] w λe w'=>e=.returned (.tuple #[])/\w'=w.setCell ⟨b,0,none⟩ (.pointer (some ⟨b,0,none⟩)):=by obtain⟨j,hj,Fw⟩:=lq.1 (show (Tryz.prog.info? 112).map (·.size)=some 2 by kernel_rfl);go_enter Tryz.func141,Tryz.ntmps141;go_wp2;rw[Lib.run_to_unsafe w ⟨b,0,none⟩ Tryz.underlying110 Tryz.underlying167 hj (by rw[Fw];decide) hsh (Nat.zero_lt_succ 1)];simp only[Result.andThen];rw[Oper.upon_value];go_wp2;rw[run_callFunc_extern Tryz.func174 (by kernel_rfl) (by kernel_rfl) (by kernel_rfl) (e:=Extern.AbiNoEscape.same) (by kernel_rfl)];rw[Lib.run_noEscape];simp only[Result.andThen];rw[Oper.upon_value];go_wp2;rw[Lib.run_from_unsafe w ⟨b,0,none⟩ Tryz.underlying167 Tryz.underlying110 hj hsh (by kernel_rfl)];simp only[Result.andThen];rw[Oper.upon_value];go_wp2;go_end0;exact⟨rfl,rfl⟩
def Y2(B b:Nat)(bs:List Value)(w:World)(h:Lib.IsBuilderF 112 5 B b bs w):
    Calls Tryz.prog 141 #[.pointer (some ⟨b,0,none⟩)] w λe w'=>e=.returned (.tuple #[])/\(Lib.BuilderAtF 112 5 B b (.pointer (some ⟨b,0,none⟩)) bs w'/\Below B w w'):=by
  rcases h with h|h
  · refine(Y3 b w h.cell0 h.shape h.frozen0).mono ?_
    rintro e w' ⟨rfl,rfl⟩
    exact⟨rfl,h.used _,(Below.refl B w).setCell (p:=⟨b,0,none⟩) h.1 _⟩
  · refine(Y4 b w h.cell0).mono ?_
    rintro e w' ⟨rfl,rfl⟩
    exact⟨rfl,h,Below.refl B _⟩
set_option maxHeartbeats 2000000 in
set_option maxRecDepth 100000 in
def Y5(B b:Nat)(bs:List Value)(s:ByteArray)(w:World)(h:Lib.IsBuilderF 112 5 B b bs w)(hlen:bs.length+s.size<=140737488355328)(hBw:B<=w.heap.size):
    Calls Tryz.prog 89 #[.pointer (some ⟨b,0,none⟩),.string s] w λe w'=>e=.returned (.tuple #[.int .i64 s.size,.nilIface])/\(Lib.BuilderAtF 112 5 B b (.pointer (some ⟨b,0,none⟩)) (bs++Lib.strCells s) w'/\Below B w w'):=by
  obtain⟨i0,hi,hz0,hz1,hz2⟩:=info_parts (P:=Tryz.prog) (e:=5) (z:=.int .u8 0) (size:=1) (bytes:=1) (by kernel_rfl);go_enter Tryz.func89,Tryz.ntmps89;go_wp2_with (go_at_call 141;refine(Y2 B b bs _ h).mono ?_);rintro e w1 ⟨rfl,h1,jO⟩;obtain⟨hB,v,hbk,hown,hne⟩:=h1;have c0:w1.cell? ⟨b,0,none⟩=some (.pointer (some ⟨b,0,none⟩)):=by rw[Lib.cell_of_heap hbk];rfl
  have c1:w1.cell? ⟨b,1,none⟩=some v:=by rw[Lib.cell_of_heap hbk];rfl
  go_wp2_with (at_builtin;refine Lib.wpList_append_own_stringF _ rfl _ _ 22 9 rfl B 5 i0 Tryz.underlying22 Tryz.underlying9 hi hz0 hz1 hz2 _ _ _ rfl hown s rfl ?c3 ?c4 ?c5 ?_);case c3=>unfold maxLen;omega
  case c4=>omega
  case c5=>have:=jO.size;omega
  intro v' w2 hown' hgrow _
  have hlt:b<w1.heap.size:=by
    rcases fV b w1.heap.size with h'|h';· exact h'
    · simp[lB h'] at hbk
  have iR:w2.heap[b]?=some (.cells #[.pointer (some ⟨b,0,none⟩),v] 112 (0,0)):=by rw[hgrow.block b hlt (λe=>hne e.symm)];exact hbk
  have d0:w2.cell? ⟨b,0,none⟩=some (.pointer (some ⟨b,0,none⟩)):=by rw[Lib.cell_of_heap iR];rfl
  have d1:w2.cell? ⟨b,1,none⟩=some v:=by rw[Lib.cell_of_heap iR];rfl
  have f1:w2.frozen? ⟨b,1,none⟩=false:=Lib.frozen_of_heap iR 1
  obtain⟨ao,n',cap,rfl⟩:∃ao n' cap,v'=.slice ao n' cap:=by
    rcases hown'.2 with ⟨hv,_⟩|⟨g,cap,cur,fz,hv,_⟩;· exact⟨_,_,_,hv⟩
    · exact⟨_,_,_,hv⟩
  go_wp2;go_ret2;refine⟨rfl,?_,?_⟩;· exact Lib.BuilderAtF.put (T:=112) (e:=5) hB iR (bs':=bs++Lib.strCells s) (by simpa [Lib.strCells_length] using hown') (by decide)
  · exact(jO.grown hgrow (by have:=jO.size;omega) (λk hk=>(hown.lt k hk).1)).setCell (p:=⟨b,1,none⟩) hB _
set_option maxHeartbeats 4000000 in
set_option maxRecDepth 1000000 in
def adY(A:Option Addr)(cap:Nat)(fs:List (ByteArray×ByteArray))(w:World)
    (hc:∀i f,fs[i]?=some f->∃g o,A=some ⟨g,o,none⟩/\g<w.heap.size/\w.cell? ⟨g,o+i*2,none⟩=some (.string f.1)/\w.cell? ⟨g,o+i*2+1,none⟩=some (.string f.2))
    (hb:(M.jK fs).length<=140737488355328)(hl:fs.length<=140737488355328):
    Calls Tryz.prog 116 #[.slice A fs.length cap] w λe w'=>e=.returned (.string ⟨(M.jK fs).toArray⟩)/\Below w.heap.size w w':=by
  go_enter Tryz.func116,Tryz.ntmps116;go_wp2;go_loopw [8] (λvi wr=>∃k:Nat,vi=.int .i64 k/\k<=fs.length/\Lib.IsBuilderF 112 5 w.heap.size w.heap.size (Lib.byteCells (M.jK (fs.take k))) wr/\Below w.heap.size w wr) (λvi _=>fs.length - (intOf vi).toNat);case atStart=>exact⟨0,rfl,oq _,Lib.IsBuilderF.of (Lib.fresh_isBuilder 112 5 w),(Below.refl _ w).alloc (ek _) _⟩
  case round=>
    obtain⟨k,rfl,hk,hI,AP⟩:=hrel;have hsz:w.heap.size<=wr.heap.size:=AP.size;by_cases hlt:k<fs.length
    · obtain⟨g,o,rfl,hg,hk1⟩:=hc k fs[k] (by simp[hlt])
      have c1:wr.cell? ⟨g,o+k*2,none⟩=some (.string fs[k].1):=by rw[AP.cell (p:=⟨g,o+k*2,none⟩) hg];exact hk1.1
      have c2:wr.cell? ⟨g,o+k*2+1,none⟩=some (.string fs[k].2):=by rw[AP.cell (p:=⟨g,o+k*2+1,none⟩) hg];exact hk1.2
      have hlt2:(k:Int)<fs.length:=by omega
      have hle:=M.adZ hlt
      have htk:=M.R8 hlt
      have s1:¬9223372036854775807<fs[k].1.size+2:=by omega
      have s2:¬9223372036854775807<fs[k].1.size+2+fs[k].2.size:=by omega
      have s3:¬9223372036854775807<fs[k].1.size+2+fs[k].2.size+2:=by omega
      go_wp2_with (go_at_call 89;refine(Y5 w.heap.size w.heap.size _ _ _ (hI.alloc _) ?_ ?_).mono ?_)
      · rw[Lib.byteCells_length]
        simp only[ByteArray.size_append]
        have e1:(⟨#[58,32]⟩:ByteArray).size=2:=rfl
        have e2:(⟨#[13,10]⟩:ByteArray).size=2:=rfl
        omega
      · simp only[World.alloc]
        simp
        omega
      rintro e W1 ⟨rfl,h1,b1⟩
      go_wp2
      go_roundw
      case rel=>
        refine⟨k+1,by go_num,by omega,?_,(AP.alloc hsz _).trans b1⟩
        rw[htk,Lib.byteCells_append]
        refine Or.inr ?_
        have e:Lib.strCells (fs[k].1++⟨#[58,32]⟩++fs[k].2++⟨#[13,10]⟩)=Lib.byteCells (fs[k].1.data.toList++[58,32]++fs[k].2.data.toList++[13,10]):=by rw[Lib.strCells_eq];congr 1
        rw[<-e]
        exact h1
      case measure=>
        simp[intOf]
        omega
    · have hlt2:¬(k:Int)<fs.length:=by omega
      go_wp2_with (go_at_call 90;refine(Tryz.Builder_String_any_f w.heap.size w.heap.size _ _ hI hsz).mono ?_)
      rintro e W1 rfl h2 b1
      clear h2
      go_wp2
      go_ret
      have:k=fs.length:=by omega
      subst this
      rw[wA]
      exact⟨rfl,AP.trans b1⟩
end Go.Proofs
namespace Go.Proofs
open Go.RowKit
set_option maxHeartbeats 2000000 in
set_option maxRecDepth 100000 in
def agy(s:ByteArray)(h:7<s.size)(w:World):
    Calls Go.Proofs.Tryz.prog 179 #[.string s] w λe w'=>e=.returned (.tuple #[.int .i64 0,.bool false])/\w'=w:=by go_enter Tryz.func179,Tryz.ntmps179;go_wp2;· go_ret2;exact⟨rfl,rfl⟩
set_option maxHeartbeats 2000000 in
set_option maxRecDepth 100000 in
def agA(s:ByteArray)(h:¬7<s.size)(v:Int)(hv:Lib.atoiAll s.data.toList=.ok v)(w:World)(htab:Lib.TabIs Go.Proofs.Tryz.prog w "internal/strconv.uint64pow10" .u64 Lib.pow10Tab):
    Calls Go.Proofs.Tryz.prog 179 #[.string s] w λe w'=>e=.returned (.tuple #[.int .i64 (yc v s.data.toList),.bool (oS v s.data.toList)])/\Below w.heap.size w w':=by
  have lP:=Lib.atoiAll_bounds hv;go_enter Tryz.func179,Tryz.ntmps179
  go_wp2_with (first
    |(go_at_call 204;refine(Tryz.strconv_Atoi_ok s (by omega) v hv _).mono ?_;rintro e W1 ⟨rfl,SF⟩;have jO:Below w.heap.size w W1:=(by rcases SF with rfl|⟨t,rfl⟩;exact Below.refl _ _;exact Lib.bytesWorld_below _ _ _);clear SF)
    |(go_at_call 55;refine(Tryz.strconv_Itoa v lP.1 lP.2 _ (aiW htab jO)).mono ?_;rintro e W2 ⟨rfl,k,os,SG⟩;have iR:Below w.heap.size w W2:=(by subst SG;exact jO.trans ((ad7 W1 k os).mono jO.size));clear SG)
    |go_in)
  all_goals go_ret2
  all_goals refine⟨?_,by assumption⟩
  all_goals first
    | (have hb : oS v s.data.toList = true := (by
        unfold oS;rw[bp];refine⟨by assumption,by assumption,?_⟩;rw[<-Lib.toList_data];rename_i hz
        simpa using hz)
       rw[yc,ax hb,hb];rfl)
    | (have hb : oS v s.data.toList = false := (by
        unfold oS;rw[DR];rintro ⟨h1,h2,h3⟩;first
        |omega
        | (rw[<-Lib.toList_data] at h3
           rename_i hz
           simp[h3] at hz))
       rw[yc,hb];rfl)
set_option maxHeartbeats 2000000 in
set_option maxRecDepth 100000 in
def agx(s:ByteArray)(h:¬7<s.size)(w:World)
    (hA:Calls Go.Proofs.Tryz.prog 204 #[.string s] w λe w'=>∃n t N,e=.returned (.tuple #[.int .i64 n,.iface t (.pointer (some ⟨N,0,none⟩))])/\Below w.heap.size w w'):
    Calls Go.Proofs.Tryz.prog 179 #[.string s] w λe w'=>e=.returned (.tuple #[.int .i64 0,.bool false])/\Below w.heap.size w w':=by
  go_enter Tryz.func179,Tryz.ntmps179
  go_wp2_with (first
    |(go_at_call 204;refine hA.mono ?_;rintro e W1 ⟨n,t,N,rfl,jO⟩)
    |go_in)
  all_goals go_ret2
  all_goals exact⟨rfl,by assumption⟩
def agw[B:M.Bs](htab:Lib.TabIs Go.Proofs.Tryz.prog B.W0 "internal/strconv.uint64pow10" .u64 Lib.pow10Tab) (Lc:∃te pe,B.W0.var? Go.Proofs.Tryz.prog "strconv.ErrSyntax" =some #[.iface te pe]) (kT:∃te pe,B.W0.var? Go.Proofs.Tryz.prog "strconv.ErrRange" =some #[.iface te pe])
    (s:ByteArray) (w:World) (hw:M.ox w) (hs:s.size<=9223372036854775807):
    Calls Go.Proofs.Tryz.prog 179 #[.string s] w λe w'=>e=.returned (.tuple #[.int .i64 (((M.bz s.data.toList).getD 0:Nat):Int),.bool (M.bz s.data.toList).isSome])/\Below w.heap.size w w':=by
  refine agz (a:=0) hs (λh=>agy s h w) (λh v hv=>agA s h v hv w (M.TabIs.same htab hw)) λh hv=>?_;refine agx s h w ?_;rcases ey:Lib.atoiAll s.data.toList with v|_|_;· exact absurd ey (hv v)
  · obtain⟨te,pe,h1⟩:=Lc
    exact(Any.strconv_Atoi_syntax_var Tryz.laysC172 s (by omega) ey te pe w (VN h1 hw)).mono λe w' ⟨N,he,_,_,hb⟩=>⟨_,_,N,he,hb⟩
  · obtain⟨te,pe,h1⟩:=kT
    exact(Any.strconv_Atoi_range_var Tryz.laysC172 s (by omega) ey te pe w (VN h1 hw)).mono λe w' ⟨N,he,_,_,hb⟩=>⟨_,_,N,he,hb⟩
end Go.Proofs
namespace M
open Go
variable [Bs]
def akP:Told Go.Proofs.Tryz.prog 3 oM [.t 2] 1:=Told.of Go.Proofs.Tryz.func3 (by decide+kernel)
def acI:aA Go.Proofs.Tryz.prog 3=true:=by decide+kernel
def akZ:Told Go.Proofs.Tryz.prog 4 Gu [.t 2] 1:=Told.of Go.Proofs.Tryz.func4 (by decide+kernel)
def acS:aA Go.Proofs.Tryz.prog 4=true:=by decide+kernel
def ala:Told Go.Proofs.Tryz.prog 5 G8 [.c 2 6 true 31,.c 3 7 true 36] 1:=Told.of Go.Proofs.Tryz.func5 (by decide+kernel)
def ac3:aA Go.Proofs.Tryz.prog 5=true:=by decide+kernel
def alj:Told Go.Proofs.Tryz.prog 6 Br [.c 4 6 true 31,.t 5] 2:=Told.of Go.Proofs.Tryz.func6 (by decide+kernel)
def adb:aA Go.Proofs.Tryz.prog 6=true:=by decide+kernel
def alw:Told Go.Proofs.Tryz.prog 7 qN [.c 4 6 true 31,.t 5] 2:=Told.of Go.Proofs.Tryz.func7 (by decide+kernel)
def ado:aA Go.Proofs.Tryz.prog 7=true:=by decide+kernel
def alH:Told Go.Proofs.Tryz.prog 8 sH [.t 2] 1:=Told.of Go.Proofs.Tryz.func8 (by decide+kernel)
def adB:aA Go.Proofs.Tryz.prog 8=true:=by decide+kernel
def alQ:Told Go.Proofs.Tryz.prog 9 tg [.t 2] 1:=Told.of Go.Proofs.Tryz.func9 (by decide+kernel)
def adK:aA Go.Proofs.Tryz.prog 9=true:=by decide+kernel
def ai4:Told Go.Proofs.Tryz.prog 10 nJ [.t 2] 1:=Told.of Go.Proofs.Tryz.func10 (by decide+kernel)
def aaQ:aA Go.Proofs.Tryz.prog 10=true:=by decide+kernel
def ajf:Told Go.Proofs.Tryz.prog 11 pq [.t 2] 1:=Told.of Go.Proofs.Tryz.func11 (by decide+kernel)
def aa0:aA Go.Proofs.Tryz.prog 11=true:=by decide+kernel
def ajn:Told Go.Proofs.Tryz.prog 12 G7 [.c 2 6 true 31,.c 3 4 true 44] 1:=Told.of Go.Proofs.Tryz.func12 (by decide+kernel)
def aa8:aA Go.Proofs.Tryz.prog 12=true:=by decide+kernel
def ajy:Told Go.Proofs.Tryz.prog 13 Bk [.c 4 6 true 31,.t 5] 2:=Told.of Go.Proofs.Tryz.func13 (by decide+kernel)
def abl:aA Go.Proofs.Tryz.prog 13=true:=by decide+kernel
def ajJ:Told Go.Proofs.Tryz.prog 14 s6 [.c 4 6 true 31,.t 5] 2:=Told.of Go.Proofs.Tryz.func14 (by decide+kernel)
def abx:aA Go.Proofs.Tryz.prog 14=true:=by decide+kernel
def ajS:Told Go.Proofs.Tryz.prog 15 Bu [.c 2 6 true 31] 1:=Told.of Go.Proofs.Tryz.func15 (by decide+kernel)
def abG:aA Go.Proofs.Tryz.prog 15=true:=by decide+kernel
def aj2:Told Go.Proofs.Tryz.prog 16 FG [.c 4 2 true 27] 2:=Told.of Go.Proofs.Tryz.func16 (by decide+kernel)
def abQ:aA Go.Proofs.Tryz.prog 16=true:=by decide+kernel
def akd:Told Go.Proofs.Tryz.prog 17 qt [.t 4] 2:=Told.of Go.Proofs.Tryz.func17 (by decide+kernel)
def ab1:aA Go.Proofs.Tryz.prog 17=true:=by decide+kernel
def aki:Told Go.Proofs.Tryz.prog 18 BA [.t 2] 1:=Told.of Go.Proofs.Tryz.func18 (by decide+kernel)
def ab5:aA Go.Proofs.Tryz.prog 18=true:=by decide+kernel
def akp:Told Go.Proofs.Tryz.prog 19 Ib [.t 2] 1:=Told.of Go.Proofs.Tryz.func19 (by decide+kernel)
def acf:aA Go.Proofs.Tryz.prog 19=true:=by decide+kernel
def akv:Told Go.Proofs.Tryz.prog 20 jS [.c 2 6 true 31] 1:=Told.of Go.Proofs.Tryz.func20 (by decide+kernel)
def acm:aA Go.Proofs.Tryz.prog 20=true:=by decide+kernel
def akz:Told Go.Proofs.Tryz.prog 21 ld [.c 2 7 true 36] 1:=Told.of Go.Proofs.Tryz.func21 (by decide+kernel)
def acq:aA Go.Proofs.Tryz.prog 21=true:=by decide+kernel
def akD:Told Go.Proofs.Tryz.prog 22 F9 [.c 2 6 true 31] 1:=Told.of Go.Proofs.Tryz.func22 (by decide+kernel)
def acv:aA Go.Proofs.Tryz.prog 22=true:=by decide+kernel
def akG:Told Go.Proofs.Tryz.prog 23 sI [.t 4] 2:=Told.of Go.Proofs.Tryz.func23 (by decide+kernel)
def acz:aA Go.Proofs.Tryz.prog 23=true:=by decide+kernel
def akI:Told Go.Proofs.Tryz.prog 24 yB [.t 4] 2:=Told.of Go.Proofs.Tryz.func24 (by decide+kernel)
def acB:aA Go.Proofs.Tryz.prog 24=true:=by decide+kernel
def akK:Told Go.Proofs.Tryz.prog 25 CG [.t 2] 1:=Told.of Go.Proofs.Tryz.func25 (by decide+kernel)
def acD:aA Go.Proofs.Tryz.prog 25=true:=by decide+kernel
def akL:Told Go.Proofs.Tryz.prog 26 mZ [.t 2] 1:=Told.of Go.Proofs.Tryz.func26 (by decide+kernel)
def acE:aA Go.Proofs.Tryz.prog 26=true:=by decide+kernel
def akM:Told Go.Proofs.Tryz.prog 27 Hi [.t 4] 2:=Told.of Go.Proofs.Tryz.func27 (by decide+kernel)
def acF:aA Go.Proofs.Tryz.prog 27=true:=by decide+kernel
def akN:Told Go.Proofs.Tryz.prog 28 HL [.c 2 6 true 31] 1:=Told.of Go.Proofs.Tryz.func28 (by decide+kernel)
def acG:aA Go.Proofs.Tryz.prog 28=true:=by decide+kernel
def akO:Told Go.Proofs.Tryz.prog 29 y6 [.t 4] 2:=Told.of Go.Proofs.Tryz.func29 (by decide+kernel)
def acH:aA Go.Proofs.Tryz.prog 29=true:=by decide+kernel
def akQ:Told Go.Proofs.Tryz.prog 30 HA [.c 2 7 true 36] 1:=Told.of Go.Proofs.Tryz.func30 (by decide+kernel)
def acJ:aA Go.Proofs.Tryz.prog 30=true:=by decide+kernel
def akR:Told Go.Proofs.Tryz.prog 31 C7 [.c 6 6 true 31] 3:=Told.of Go.Proofs.Tryz.func31 (by decide+kernel)
def acK:aA Go.Proofs.Tryz.prog 31=true:=by decide+kernel
def akS:Told Go.Proofs.Tryz.prog 32 HK [.t 2] 1:=Told.of Go.Proofs.Tryz.func32 (by decide+kernel)
def acL:aA Go.Proofs.Tryz.prog 32=true:=by decide+kernel
def akT:Told Go.Proofs.Tryz.prog 33 Bv [.t 2] 1:=Told.of Go.Proofs.Tryz.func33 (by decide+kernel)
def acM:aA Go.Proofs.Tryz.prog 33=true:=by decide+kernel
def akU:Told Go.Proofs.Tryz.prog 35 yz [.t 2] 1:=Told.of Go.Proofs.Tryz.func35 (by decide+kernel)
def acN:aA Go.Proofs.Tryz.prog 35=true:=by decide+kernel
def akV:Told Go.Proofs.Tryz.prog 36 qp [.t 2] 1:=Told.of Go.Proofs.Tryz.func36 (by decide+kernel)
def acO:aA Go.Proofs.Tryz.prog 36=true:=by decide+kernel
def akW:Told Go.Proofs.Tryz.prog 37 Ge [.t 2] 1:=Told.of Go.Proofs.Tryz.func37 (by decide+kernel)
def acP:aA Go.Proofs.Tryz.prog 37=true:=by decide+kernel
def akX:Told Go.Proofs.Tryz.prog 38 Gc [.t 6] 3:=Told.of Go.Proofs.Tryz.func38 (by decide+kernel)
def acQ:aA Go.Proofs.Tryz.prog 38=true:=by decide+kernel
def akY:Told Go.Proofs.Tryz.prog 39 FI [.t 2] 1:=Told.of Go.Proofs.Tryz.func39 (by decide+kernel)
def acR:aA Go.Proofs.Tryz.prog 39=true:=by decide+kernel
def ak0:Told Go.Proofs.Tryz.prog 40 FV [.t 2] 1:=Told.of Go.Proofs.Tryz.func40 (by decide+kernel)
def acT:aA Go.Proofs.Tryz.prog 40=true:=by decide+kernel
def ak1:Told Go.Proofs.Tryz.prog 41 G6 [.t 2] 1:=Told.of Go.Proofs.Tryz.func41 (by decide+kernel)
def acU:aA Go.Proofs.Tryz.prog 41=true:=by decide+kernel
def ak2:Told Go.Proofs.Tryz.prog 42 H7 [.t 6] 3:=Told.of Go.Proofs.Tryz.func42 (by decide+kernel)
def acV:aA Go.Proofs.Tryz.prog 42=true:=by decide+kernel
def ak3:Told Go.Proofs.Tryz.prog 43 qK [.t 2] 1:=Told.of Go.Proofs.Tryz.func43 (by decide+kernel)
def acW:aA Go.Proofs.Tryz.prog 43=true:=by decide+kernel
def ak4:Told Go.Proofs.Tryz.prog 44 ni [.c 2 4 true 44] 1:=Told.of Go.Proofs.Tryz.func44 (by decide+kernel)
def acX:aA Go.Proofs.Tryz.prog 44=true:=by decide+kernel
def ak5:Told Go.Proofs.Tryz.prog 45 uX [.t 4] 2:=Told.of Go.Proofs.Tryz.func45 (by decide+kernel)
def acY:aA Go.Proofs.Tryz.prog 45=true:=by decide+kernel
def ak6:Told Go.Proofs.Tryz.prog 46 Cq [.t 2] 1:=Told.of Go.Proofs.Tryz.func46 (by decide+kernel)
def acZ:aA Go.Proofs.Tryz.prog 46=true:=by decide+kernel
def ak7:Told Go.Proofs.Tryz.prog 47 Hh [.c 2 2 true 27] 1:=Told.of Go.Proofs.Tryz.func47 (by decide+kernel)
def ac0:aA Go.Proofs.Tryz.prog 47=true:=by decide+kernel
def ak8:Told Go.Proofs.Tryz.prog 48 FO [.c 0 6 true 31] 0:=Told.of Go.Proofs.Tryz.func48 (by decide+kernel)
def ac1:aA Go.Proofs.Tryz.prog 48=true:=by decide+kernel
def ak9:Told Go.Proofs.Tryz.prog 49 Gj [.c 2 6 true 31] 1:=Told.of Go.Proofs.Tryz.func49 (by decide+kernel)
def ac2:aA Go.Proofs.Tryz.prog 49=true:=by decide+kernel
def alb:Told Go.Proofs.Tryz.prog 50 F5 [.c 2 2 true 27] 1:=Told.of Go.Proofs.Tryz.func50 (by decide+kernel)
def ac4:aA Go.Proofs.Tryz.prog 50=true:=by decide+kernel
def ald:Told Go.Proofs.Tryz.prog 52 mM [.t 2] 1:=Told.of Go.Proofs.Tryz.func52 (by decide+kernel)
def ac5:aA Go.Proofs.Tryz.prog 52=true:=by decide+kernel
def ale:Told Go.Proofs.Tryz.prog 54 Bp [.t 4,.t 5] 2:=Told.of Go.Proofs.Tryz.func54 (by decide+kernel)
def ac6:aA Go.Proofs.Tryz.prog 54=true:=by decide+kernel
def alf:Told Go.Proofs.Tryz.prog 56 BB [.t 2] 1:=Told.of Go.Proofs.Tryz.func56 (by decide+kernel)
def ac7:aA Go.Proofs.Tryz.prog 56=true:=by decide+kernel
def alg:Told Go.Proofs.Tryz.prog 57 HX [.c 2 6 true 31] 1:=Told.of Go.Proofs.Tryz.func57 (by decide+kernel)
def ac8:aA Go.Proofs.Tryz.prog 57=true:=by decide+kernel
def alh:Told Go.Proofs.Tryz.prog 58 vT [.t 4] 2:=Told.of Go.Proofs.Tryz.func58 (by decide+kernel)
def ac9:aA Go.Proofs.Tryz.prog 58=true:=by decide+kernel
def ali:Told Go.Proofs.Tryz.prog 59 Ie [.t 4] 2:=Told.of Go.Proofs.Tryz.func59 (by decide+kernel)
def ada:aA Go.Proofs.Tryz.prog 59=true:=by decide+kernel
def alk:Told Go.Proofs.Tryz.prog 60 pz [.c 2 2 true 27] 1:=Told.of Go.Proofs.Tryz.func60 (by decide+kernel)
def ade:aA Go.Proofs.Tryz.prog 60=true:=by decide+kernel
def alm:Told Go.Proofs.Tryz.prog 61 yF [.c 4 7 true 36] 2:=Told.of Go.Proofs.Tryz.func61 (by decide+kernel)
def adf:aA Go.Proofs.Tryz.prog 61=true:=by decide+kernel
def aln:Told Go.Proofs.Tryz.prog 62 zh [.t 2] 1:=Told.of Go.Proofs.Tryz.func62 (by decide+kernel)
def adg:aA Go.Proofs.Tryz.prog 62=true:=by decide+kernel
def alo:Told Go.Proofs.Tryz.prog 63 Ig [.t 4] 2:=Told.of Go.Proofs.Tryz.func63 (by decide+kernel)
def adh:aA Go.Proofs.Tryz.prog 63=true:=by decide+kernel
def alp:Told Go.Proofs.Tryz.prog 64 pG [.c 2 3 true 34] 1:=Told.of Go.Proofs.Tryz.func64 (by decide+kernel)
def adi:aA Go.Proofs.Tryz.prog 64=true:=by decide+kernel
def alq:Told Go.Proofs.Tryz.prog 65 F6 [.t 2] 1:=Told.of Go.Proofs.Tryz.func65 (by decide+kernel)
def adj:aA Go.Proofs.Tryz.prog 65=true:=by decide+kernel
def als:Told Go.Proofs.Tryz.prog 67 xG [.t 4] 2:=Told.of Go.Proofs.Tryz.func67 (by decide+kernel)
def adk:aA Go.Proofs.Tryz.prog 67=true:=by decide+kernel
def alu:Told Go.Proofs.Tryz.prog 68 FM [.t 4] 2:=Told.of Go.Proofs.Tryz.func68 (by decide+kernel)
def adl:aA Go.Proofs.Tryz.prog 68=true:=by decide+kernel
def alv:Told Go.Proofs.Tryz.prog 69 tJ [.t 4] 2:=Told.of Go.Proofs.Tryz.func69 (by decide+kernel)
def adn:aA Go.Proofs.Tryz.prog 69=true:=by decide+kernel
def alx:Told Go.Proofs.Tryz.prog 70 FQ [.t 4] 3:=Told.of Go.Proofs.Tryz.func70 (by decide+kernel)
def adp:aA Go.Proofs.Tryz.prog 70=true:=by decide+kernel
def aly:Told Go.Proofs.Tryz.prog 71 xL [.t 4] 2:=Told.of Go.Proofs.Tryz.func71 (by decide+kernel)
def adq:aA Go.Proofs.Tryz.prog 71=true:=by decide+kernel
def alz:Told Go.Proofs.Tryz.prog 72 BG [] 3:=Told.of Go.Proofs.Tryz.func72 (by decide+kernel)
def ads:aA Go.Proofs.Tryz.prog 72=true:=by decide+kernel
def alA:Told Go.Proofs.Tryz.prog 73 F7 [.c 2 7 true 36] 1:=Told.of Go.Proofs.Tryz.func73 (by decide+kernel)
def adt:aA Go.Proofs.Tryz.prog 73=true:=by decide+kernel
def alB:Told Go.Proofs.Tryz.prog 74 BL [.t 2] 1:=Told.of Go.Proofs.Tryz.func74 (by decide+kernel)
def adu:aA Go.Proofs.Tryz.prog 74=true:=by decide+kernel
def alC:Told Go.Proofs.Tryz.prog 75 CW [.t 2] 1:=Told.of Go.Proofs.Tryz.func75 (by decide+kernel)
def adw:aA Go.Proofs.Tryz.prog 75=true:=by decide+kernel
def alD:Told Go.Proofs.Tryz.prog 76 Hv [.t 2] 1:=Told.of Go.Proofs.Tryz.func76 (by decide+kernel)
def adx:aA Go.Proofs.Tryz.prog 76=true:=by decide+kernel
def alE:Told Go.Proofs.Tryz.prog 77 CI [.t 2] 1:=Told.of Go.Proofs.Tryz.func77 (by decide+kernel)
def ady:aA Go.Proofs.Tryz.prog 77=true:=by decide+kernel
def alF:Told Go.Proofs.Tryz.prog 78 vF [.t 2] 1:=Told.of Go.Proofs.Tryz.func78 (by decide+kernel)
def adz:aA Go.Proofs.Tryz.prog 78=true:=by decide+kernel
def alG:Told Go.Proofs.Tryz.prog 79 vW [.t 2] 1:=Told.of Go.Proofs.Tryz.func79 (by decide+kernel)
def adA:aA Go.Proofs.Tryz.prog 79=true:=by decide+kernel
def alI:Told Go.Proofs.Tryz.prog 80 Ip [.t 2] 1:=Told.of Go.Proofs.Tryz.func80 (by decide+kernel)
def adC:aA Go.Proofs.Tryz.prog 80=true:=by decide+kernel
def alJ:Told Go.Proofs.Tryz.prog 81 zj [.t 4] 2:=Told.of Go.Proofs.Tryz.func81 (by decide+kernel)
def adD:aA Go.Proofs.Tryz.prog 81=true:=by decide+kernel
def alK:Told Go.Proofs.Tryz.prog 82 Hz [.t 2] 1:=Told.of Go.Proofs.Tryz.func82 (by decide+kernel)
def adE:aA Go.Proofs.Tryz.prog 82=true:=by decide+kernel
def alL:Told Go.Proofs.Tryz.prog 83 vH [.t 2] 1:=Told.of Go.Proofs.Tryz.func83 (by decide+kernel)
def adF:aA Go.Proofs.Tryz.prog 83=true:=by decide+kernel
def alM:Told Go.Proofs.Tryz.prog 84 nY [.t 4] 2:=Told.of Go.Proofs.Tryz.func84 (by decide+kernel)
def adG:aA Go.Proofs.Tryz.prog 84=true:=by decide+kernel
def alN:Told Go.Proofs.Tryz.prog 85 HC [.c 2 2 true 27] 1:=Told.of Go.Proofs.Tryz.func85 (by decide+kernel)
def adH:aA Go.Proofs.Tryz.prog 85=true:=by decide+kernel
def alO:Told Go.Proofs.Tryz.prog 86 Iq [.c 2 3 true 34] 1:=Told.of Go.Proofs.Tryz.func86 (by decide+kernel)
def adI:aA Go.Proofs.Tryz.prog 86=true:=by decide+kernel
def alP:Told Go.Proofs.Tryz.prog 87 yw [.c 6 2 true 27,.t 7] 3:=Told.of Go.Proofs.Tryz.func87 (by decide+kernel)
def adJ:aA Go.Proofs.Tryz.prog 87=true:=by decide+kernel
def alR:Told Go.Proofs.Tryz.prog 91 Gf [.t 2] 1:=Told.of Go.Proofs.Tryz.func91 (by decide+kernel)
def adL:aA Go.Proofs.Tryz.prog 91=true:=by decide+kernel
def alS:Told Go.Proofs.Tryz.prog 92 xO [.t 2] 1:=Told.of Go.Proofs.Tryz.func92 (by decide+kernel)
def adM:aA Go.Proofs.Tryz.prog 92=true:=by decide+kernel
def alT:Told Go.Proofs.Tryz.prog 93 FZ [.t 2] 1:=Told.of Go.Proofs.Tryz.func93 (by decide+kernel)
def adN:aA Go.Proofs.Tryz.prog 93=true:=by decide+kernel
def alU:Told Go.Proofs.Tryz.prog 94 u0 [.t 2] 1:=Told.of Go.Proofs.Tryz.func94 (by decide+kernel)
def adO:aA Go.Proofs.Tryz.prog 94=true:=by decide+kernel
def alV:Told Go.Proofs.Tryz.prog 95 Gd [.t 2] 1:=Told.of Go.Proofs.Tryz.func95 (by decide+kernel)
def adP:aA Go.Proofs.Tryz.prog 95=true:=by decide+kernel
def alW:Told Go.Proofs.Tryz.prog 96 DC [.t 4] 2:=Told.of Go.Proofs.Tryz.func96 (by decide+kernel)
def adQ:aA Go.Proofs.Tryz.prog 96=true:=by decide+kernel
def alX:Told Go.Proofs.Tryz.prog 97 FU [.t 3] 2:=Told.of Go.Proofs.Tryz.func97 (by decide+kernel)
def adR:aA Go.Proofs.Tryz.prog 97=true:=by decide+kernel
def alY:Told Go.Proofs.Tryz.prog 98 Hw [.t 2] 1:=Told.of Go.Proofs.Tryz.func98 (by decide+kernel)
def adS:aA Go.Proofs.Tryz.prog 98=true:=by decide+kernel
def alZ:Told Go.Proofs.Tryz.prog 99 tj [.c 4 4 true 44] 2:=Told.of Go.Proofs.Tryz.func99 (by decide+kernel)
def adT:aA Go.Proofs.Tryz.prog 99=true:=by decide+kernel
def ai5:Told Go.Proofs.Tryz.prog 100 Bj [.t 2] 1:=Told.of Go.Proofs.Tryz.func100 (by decide+kernel)
def aaR:aA Go.Proofs.Tryz.prog 100=true:=by decide+kernel
def ai6:Told Go.Proofs.Tryz.prog 101 FJ [] 1:=Told.of Go.Proofs.Tryz.func101 (by decide+kernel)
def aaS:aA Go.Proofs.Tryz.prog 101=true:=by decide+kernel
def ai7:Told Go.Proofs.Tryz.prog 102 FP [.t 3] 2:=Told.of Go.Proofs.Tryz.func102 (by decide+kernel)
def aaT:aA Go.Proofs.Tryz.prog 102=true:=by decide+kernel
def ai8:Told Go.Proofs.Tryz.prog 103 HI [.c 6 2 true 27] 3:=Told.of Go.Proofs.Tryz.func103 (by decide+kernel)
def aaU:aA Go.Proofs.Tryz.prog 103=true:=by decide+kernel
def ai9:Told Go.Proofs.Tryz.prog 104 FH [.c 0 2 true 27] 0:=Told.of Go.Proofs.Tryz.func104 (by decide+kernel)
def aaV:aA Go.Proofs.Tryz.prog 104=true:=by decide+kernel
def aja:Told Go.Proofs.Tryz.prog 105 BF [] 1:=Told.of Go.Proofs.Tryz.func105 (by decide+kernel)
def aaW:aA Go.Proofs.Tryz.prog 105=true:=by decide+kernel
def ajb:Told Go.Proofs.Tryz.prog 106 FT [.t 2] 1:=Told.of Go.Proofs.Tryz.func106 (by decide+kernel)
def aaX:aA Go.Proofs.Tryz.prog 106=true:=by decide+kernel
def ajc:Told Go.Proofs.Tryz.prog 107 Gh [.t 3] 2:=Told.of Go.Proofs.Tryz.func107 (by decide+kernel)
def aaY:aA Go.Proofs.Tryz.prog 107=true:=by decide+kernel
def aje:Told Go.Proofs.Tryz.prog 109 Gk [.t 2] 1:=Told.of Go.Proofs.Tryz.func109 (by decide+kernel)
def aaZ:aA Go.Proofs.Tryz.prog 109=true:=by decide+kernel
def ajg:Told Go.Proofs.Tryz.prog 110 uW [.t 2] 1:=Told.of Go.Proofs.Tryz.func110 (by decide+kernel)
def aa1:aA Go.Proofs.Tryz.prog 110=true:=by decide+kernel
def ajh:Told Go.Proofs.Tryz.prog 111 I7 [.t 4] 2:=Told.of Go.Proofs.Tryz.func111 (by decide+kernel)
def aa2:aA Go.Proofs.Tryz.prog 111=true:=by decide+kernel
def aji:Told Go.Proofs.Tryz.prog 112 F2 [.t 2] 1:=Told.of Go.Proofs.Tryz.func112 (by decide+kernel)
def aa3:aA Go.Proofs.Tryz.prog 112=true:=by decide+kernel
def ajj:Told Go.Proofs.Tryz.prog 114 Gb [.t 4] 2:=Told.of Go.Proofs.Tryz.func114 (by decide+kernel)
def aa4:aA Go.Proofs.Tryz.prog 114=true:=by decide+kernel
def ajk:Told Go.Proofs.Tryz.prog 117 Gg [.t 2] 1:=Told.of Go.Proofs.Tryz.func117 (by decide+kernel)
def aa5:aA Go.Proofs.Tryz.prog 117=true:=by decide+kernel
def ajl:Told Go.Proofs.Tryz.prog 118 Hs [.c 0 6 true 31] 0:=Told.of Go.Proofs.Tryz.func118 (by decide+kernel)
def aa6:aA Go.Proofs.Tryz.prog 118=true:=by decide+kernel
def ajm:Told Go.Proofs.Tryz.prog 119 CA [.c 2 6 true 31] 1:=Told.of Go.Proofs.Tryz.func119 (by decide+kernel)
def aa7:aA Go.Proofs.Tryz.prog 119=true:=by decide+kernel
def ajo:Told Go.Proofs.Tryz.prog 120 G0 [.c 4 2 true 27] 2:=Told.of Go.Proofs.Tryz.func120 (by decide+kernel)
def aa9:aA Go.Proofs.Tryz.prog 120=true:=by decide+kernel
def ajp:Told Go.Proofs.Tryz.prog 121 HG [.t 4] 2:=Told.of Go.Proofs.Tryz.func121 (by decide+kernel)
def abb:aA Go.Proofs.Tryz.prog 121=true:=by decide+kernel
def ajq:Told Go.Proofs.Tryz.prog 122 y7 [.t 2] 1:=Told.of Go.Proofs.Tryz.func122 (by decide+kernel)
def abd:aA Go.Proofs.Tryz.prog 122=true:=by decide+kernel
def ajr:Told Go.Proofs.Tryz.prog 123 HH [.c 2 2 true 27] 1:=Told.of Go.Proofs.Tryz.func123 (by decide+kernel)
def abe:aA Go.Proofs.Tryz.prog 123=true:=by decide+kernel
def ajs:Told Go.Proofs.Tryz.prog 124 zc [.c 2 3 true 34] 1:=Told.of Go.Proofs.Tryz.func124 (by decide+kernel)
def abf:aA Go.Proofs.Tryz.prog 124=true:=by decide+kernel
def ajt:Told Go.Proofs.Tryz.prog 125 CH [.t 6] 3:=Told.of Go.Proofs.Tryz.func125 (by decide+kernel)
def abg:aA Go.Proofs.Tryz.prog 125=true:=by decide+kernel
def aju:Told Go.Proofs.Tryz.prog 126 He [.t 4] 2:=Told.of Go.Proofs.Tryz.func126 (by decide+kernel)
def abh:aA Go.Proofs.Tryz.prog 126=true:=by decide+kernel
def ajv:Told Go.Proofs.Tryz.prog 127 za [.c 2 4 true 134] 1:=Told.of Go.Proofs.Tryz.func127 (by decide+kernel)
def abi:aA Go.Proofs.Tryz.prog 127=true:=by decide+kernel
def ajw:Told Go.Proofs.Tryz.prog 128 yA [.c 6 7 true 36,.t 7] 3:=Told.of Go.Proofs.Tryz.func128 (by decide+kernel)
def abj:aA Go.Proofs.Tryz.prog 128=true:=by decide+kernel
def ajx:Told Go.Proofs.Tryz.prog 129 Ic [.t 4] 2:=Told.of Go.Proofs.Tryz.func129 (by decide+kernel)
def abk:aA Go.Proofs.Tryz.prog 129=true:=by decide+kernel
def ajz:Told Go.Proofs.Tryz.prog 130 pF [.t 2] 1:=Told.of Go.Proofs.Tryz.func130 (by decide+kernel)
def abm:aA Go.Proofs.Tryz.prog 130=true:=by decide+kernel
def ajA:Told Go.Proofs.Tryz.prog 131 FY [.t 2] 1:=Told.of Go.Proofs.Tryz.func131 (by decide+kernel)
def abn:aA Go.Proofs.Tryz.prog 131=true:=by decide+kernel
def ajB:Told Go.Proofs.Tryz.prog 132 og [.t 4] 2:=Told.of Go.Proofs.Tryz.func132 (by decide+kernel)
def abo:aA Go.Proofs.Tryz.prog 132=true:=by decide+kernel
def ajC:Told Go.Proofs.Tryz.prog 133 F8 [.c 2 3 true 34] 1:=Told.of Go.Proofs.Tryz.func133 (by decide+kernel)
def abp:aA Go.Proofs.Tryz.prog 133=true:=by decide+kernel
def ajD:Told Go.Proofs.Tryz.prog 134 Hg [.t 2] 1:=Told.of Go.Proofs.Tryz.func134 (by decide+kernel)
def abq:aA Go.Proofs.Tryz.prog 134=true:=by decide+kernel
def ajE:Told Go.Proofs.Tryz.prog 135 Hf [.t 2] 1:=Told.of Go.Proofs.Tryz.func135 (by decide+kernel)
def abr:aA Go.Proofs.Tryz.prog 135=true:=by decide+kernel
def ajF:Told Go.Proofs.Tryz.prog 136 Cw [.t 4,.t 5] 2:=Told.of Go.Proofs.Tryz.func136 (by decide+kernel)
def abt:aA Go.Proofs.Tryz.prog 136=true:=by decide+kernel
def ajG:Told Go.Proofs.Tryz.prog 137 Hu [.t 2] 1:=Told.of Go.Proofs.Tryz.func137 (by decide+kernel)
def abu:aA Go.Proofs.Tryz.prog 137=true:=by decide+kernel
def ajH:Told Go.Proofs.Tryz.prog 138 Hl [.t 2] 1:=Told.of Go.Proofs.Tryz.func138 (by decide+kernel)
def abv:aA Go.Proofs.Tryz.prog 138=true:=by decide+kernel
def ajI:Told Go.Proofs.Tryz.prog 139 Hx [.t 2] 1:=Told.of Go.Proofs.Tryz.func139 (by decide+kernel)
def abw:aA Go.Proofs.Tryz.prog 139=true:=by decide+kernel
def ajK:Told Go.Proofs.Tryz.prog 140 Io [.t 2] 1:=Told.of Go.Proofs.Tryz.func140 (by decide+kernel)
def aby:aA Go.Proofs.Tryz.prog 140=true:=by decide+kernel
def ajL:Told Go.Proofs.Tryz.prog 143 F3 [.t 4] 2:=Told.of Go.Proofs.Tryz.func143 (by decide+kernel)
def abz:aA Go.Proofs.Tryz.prog 143=true:=by decide+kernel
def ajM:Told Go.Proofs.Tryz.prog 144 F1 [.t 2] 1:=Told.of Go.Proofs.Tryz.func144 (by decide+kernel)
def abA:aA Go.Proofs.Tryz.prog 144=true:=by decide+kernel
def ajN:Told Go.Proofs.Tryz.prog 145 F4 [.t 2] 1:=Told.of Go.Proofs.Tryz.func145 (by decide+kernel)
def abB:aA Go.Proofs.Tryz.prog 145=true:=by decide+kernel
def ajO:Told Go.Proofs.Tryz.prog 146 nI [.t 2,.t 3,.t 4] 1:=Told.of Go.Proofs.Tryz.func146 (by decide+kernel)
def abC:aA Go.Proofs.Tryz.prog 146=true:=by decide+kernel
def ajP:Told Go.Proofs.Tryz.prog 147 FK [.t 4] 2:=Told.of Go.Proofs.Tryz.func147 (by decide+kernel)
def abD:aA Go.Proofs.Tryz.prog 147=true:=by decide+kernel
def ajQ:Told Go.Proofs.Tryz.prog 148 uT [.c 2 4 true 44,.t 3] 1:=Told.of Go.Proofs.Tryz.func148 (by decide+kernel)
def abE:aA Go.Proofs.Tryz.prog 148=true:=by decide+kernel
def ajR:Told Go.Proofs.Tryz.prog 149 xJ [] 2:=Told.of Go.Proofs.Tryz.func149 (by decide+kernel)
def abF:aA Go.Proofs.Tryz.prog 149=true:=by decide+kernel
def ajT:Told Go.Proofs.Tryz.prog 150 oI [.c 2 7 true 36,.t 3] 1:=Told.of Go.Proofs.Tryz.func150 (by decide+kernel)
def abH:aA Go.Proofs.Tryz.prog 150=true:=by decide+kernel
def ajU:Told Go.Proofs.Tryz.prog 151 I8 [] 2:=Told.of Go.Proofs.Tryz.func151 (by decide+kernel)
def abI:aA Go.Proofs.Tryz.prog 151=true:=by decide+kernel
def ajV:Told Go.Proofs.Tryz.prog 152 FR [.t 4] 2:=Told.of Go.Proofs.Tryz.func152 (by decide+kernel)
def abJ:aA Go.Proofs.Tryz.prog 152=true:=by decide+kernel
def ajW:Told Go.Proofs.Tryz.prog 153 I3 [.t 4] 2:=Told.of Go.Proofs.Tryz.func153 (by decide+kernel)
def abK:aA Go.Proofs.Tryz.prog 153=true:=by decide+kernel
def ajX:Told Go.Proofs.Tryz.prog 154 FL [.t 2] 1:=Told.of Go.Proofs.Tryz.func154 (by decide+kernel)
def abL:aA Go.Proofs.Tryz.prog 154=true:=by decide+kernel
def ajY:Told Go.Proofs.Tryz.prog 155 FX [.t 2] 1:=Told.of Go.Proofs.Tryz.func155 (by decide+kernel)
def abM:aA Go.Proofs.Tryz.prog 155=true:=by decide+kernel
def ajZ:Told Go.Proofs.Tryz.prog 156 FN [.t 2] 1:=Told.of Go.Proofs.Tryz.func156 (by decide+kernel)
def abN:aA Go.Proofs.Tryz.prog 156=true:=by decide+kernel
def aj0:Told Go.Proofs.Tryz.prog 157 DH [.t 4] 2:=Told.of Go.Proofs.Tryz.func157 (by decide+kernel)
def abO:aA Go.Proofs.Tryz.prog 157=true:=by decide+kernel
def aj1:Told Go.Proofs.Tryz.prog 158 Ga [.t 3] 2:=Told.of Go.Proofs.Tryz.func158 (by decide+kernel)
def abP:aA Go.Proofs.Tryz.prog 158=true:=by decide+kernel
def aj3:Told Go.Proofs.Tryz.prog 160 G5 [.c 0 2 true 27] 0:=Told.of Go.Proofs.Tryz.func160 (by decide+kernel)
def abR:aA Go.Proofs.Tryz.prog 160=true:=by decide+kernel
def aj4:Told Go.Proofs.Tryz.prog 161 CX [.t 2,.t 3] 1:=Told.of Go.Proofs.Tryz.func161 (by decide+kernel)
def abS:aA Go.Proofs.Tryz.prog 161=true:=by decide+kernel
def aj5:Told Go.Proofs.Tryz.prog 162 qP [.t 2,.t 3,.t 4] 1:=Told.of Go.Proofs.Tryz.func162 (by decide+kernel)
def abT:aA Go.Proofs.Tryz.prog 162=true:=by decide+kernel
def aj6:Told Go.Proofs.Tryz.prog 163 G4 [.t 4] 2:=Told.of Go.Proofs.Tryz.func163 (by decide+kernel)
def abU:aA Go.Proofs.Tryz.prog 163=true:=by decide+kernel
def aj7:Told Go.Proofs.Tryz.prog 164 tf [.c 2 7 true 36,.t 3] 1:=Told.of Go.Proofs.Tryz.func164 (by decide+kernel)
def abV:aA Go.Proofs.Tryz.prog 164=true:=by decide+kernel
def aj8:Told Go.Proofs.Tryz.prog 165 H8 [.t 4] 2:=Told.of Go.Proofs.Tryz.func165 (by decide+kernel)
def abW:aA Go.Proofs.Tryz.prog 165=true:=by decide+kernel
def aj9:Told Go.Proofs.Tryz.prog 166 HY [.t 4] 2:=Told.of Go.Proofs.Tryz.func166 (by decide+kernel)
def abX:aA Go.Proofs.Tryz.prog 166=true:=by decide+kernel
def aka:Told Go.Proofs.Tryz.prog 167 Ii [.t 2] 1:=Told.of Go.Proofs.Tryz.func167 (by decide+kernel)
def abY:aA Go.Proofs.Tryz.prog 167=true:=by decide+kernel
def akb:Told Go.Proofs.Tryz.prog 168 y9 [.t 2] 1:=Told.of Go.Proofs.Tryz.func168 (by decide+kernel)
def abZ:aA Go.Proofs.Tryz.prog 168=true:=by decide+kernel
def akc:Told Go.Proofs.Tryz.prog 169 Da [.t 4] 2:=Told.of Go.Proofs.Tryz.func169 (by decide+kernel)
def ab0:aA Go.Proofs.Tryz.prog 169=true:=by decide+kernel
def ake:Told Go.Proofs.Tryz.prog 170 mY [.t 4] 2:=Told.of Go.Proofs.Tryz.func170 (by decide+kernel)
def ab2:aA Go.Proofs.Tryz.prog 170=true:=by decide+kernel
def akf:Told Go.Proofs.Tryz.prog 171 Hy [.t 4] 2:=Told.of Go.Proofs.Tryz.func171 (by decide+kernel)
def ab3:aA Go.Proofs.Tryz.prog 171=true:=by decide+kernel
def akg:Told Go.Proofs.Tryz.prog 172 ja [.c 2 2 true 127] 1:=Told.of Go.Proofs.Tryz.func172 (by decide+kernel)
def ab4:aA Go.Proofs.Tryz.prog 172=true:=by decide+kernel
def akj:Told Go.Proofs.Tryz.prog 180 oJ [.c 2 3 true 34,.t 3] 1:=Told.of Go.Proofs.Tryz.func180 (by decide+kernel)
def ab6:aA Go.Proofs.Tryz.prog 180=true:=by decide+kernel
def akk:Told Go.Proofs.Tryz.prog 181 Jb [] 3:=Told.of Go.Proofs.Tryz.func181 (by decide+kernel)
def ab7:aA Go.Proofs.Tryz.prog 181=true:=by decide+kernel
def akl:Told Go.Proofs.Tryz.prog 182 I4 [.t 2] 1:=Told.of Go.Proofs.Tryz.func182 (by decide+kernel)
def ab8:aA Go.Proofs.Tryz.prog 182=true:=by decide+kernel
def akm:Told Go.Proofs.Tryz.prog 187 qL [.c 2 4 true 44,.t 3] 1:=Told.of Go.Proofs.Tryz.func187 (by decide+kernel)
def ab9:aA Go.Proofs.Tryz.prog 187=true:=by decide+kernel
def akn:Told Go.Proofs.Tryz.prog 188 CU [.t 4,.t 5] 2:=Told.of Go.Proofs.Tryz.func188 (by decide+kernel)
def acd:aA Go.Proofs.Tryz.prog 188=true:=by decide+kernel
def ako:Told Go.Proofs.Tryz.prog 189 Il [.t 2] 1:=Told.of Go.Proofs.Tryz.func189 (by decide+kernel)
def ace:aA Go.Proofs.Tryz.prog 189=true:=by decide+kernel
def akq:Told Go.Proofs.Tryz.prog 190 tc [.t 2,.t 3] 1:=Told.of Go.Proofs.Tryz.func190 (by decide+kernel)
def acg:aA Go.Proofs.Tryz.prog 190=true:=by decide+kernel
def akr:Told Go.Proofs.Tryz.prog 191 pg [.c 2 3 true 34,.t 3] 1:=Told.of Go.Proofs.Tryz.func191 (by decide+kernel)
def ach:aA Go.Proofs.Tryz.prog 191=true:=by decide+kernel
def aks:Told Go.Proofs.Tryz.prog 192 H6 [.t 2] 1:=Told.of Go.Proofs.Tryz.func192 (by decide+kernel)
def aci:aA Go.Proofs.Tryz.prog 192=true:=by decide+kernel
def akt:Told Go.Proofs.Tryz.prog 193 yC [.t 2] 1:=Told.of Go.Proofs.Tryz.func193 (by decide+kernel)
def acj:aA Go.Proofs.Tryz.prog 193=true:=by decide+kernel
def aku:Told Go.Proofs.Tryz.prog 194 GY [.c 2 6 true 190] 1:=Told.of Go.Proofs.Tryz.func194 (by decide+kernel)
def ack:aA Go.Proofs.Tryz.prog 194=true:=by decide+kernel
def akw:Told Go.Proofs.Tryz.prog 205 sK [.t 2,.t 3,.t 4,.t 5] 1:=Told.of Go.Proofs.Tryz.func205 (by decide+kernel)
def acn:aA Go.Proofs.Tryz.prog 205=true:=by decide+kernel
def akx:Told Go.Proofs.Tryz.prog 206 DI [] 4:=Told.of Go.Proofs.Tryz.func206 (by decide+kernel)
def aco:aA Go.Proofs.Tryz.prog 206=true:=by decide+kernel
def aky:Told Go.Proofs.Tryz.prog 207 Wk [] 5:=Told.of Go.Proofs.Tryz.func207 (by decide+kernel)
def acp:aA Go.Proofs.Tryz.prog 207=true:=by decide+kernel
def akA:Told Go.Proofs.Tryz.prog 213 Dg [.t 2,.t 3] 1:=Told.of Go.Proofs.Tryz.func213 (by decide+kernel)
def acr:aA Go.Proofs.Tryz.prog 213=true:=by decide+kernel
def akB:Told Go.Proofs.Tryz.prog 214 Ik [.t 2] 1:=Told.of Go.Proofs.Tryz.func214 (by decide+kernel)
def acs:aA Go.Proofs.Tryz.prog 214=true:=by decide+kernel
def akC:Told Go.Proofs.Tryz.prog 215 GZ [.c 2 6 true 190] 1:=Told.of Go.Proofs.Tryz.func215 (by decide+kernel)
def acu:aA Go.Proofs.Tryz.prog 215=true:=by decide+kernel
def akE:Told Go.Proofs.Tryz.prog 226 Wa [] 5:=Told.of Go.Proofs.Tryz.func226 (by decide+kernel)
def acw:aA Go.Proofs.Tryz.prog 226=true:=by decide+kernel
def akF:Told Go.Proofs.Tryz.prog 229 zg [.t 2,.t 3] 1:=Told.of Go.Proofs.Tryz.func229 (by decide+kernel)
def acy:aA Go.Proofs.Tryz.prog 229=true:=by decide+kernel
def akH:Told Go.Proofs.Tryz.prog 230 H9 [.t 4] 2:=Told.of Go.Proofs.Tryz.func230 (by decide+kernel)
def acA:aA Go.Proofs.Tryz.prog 230=true:=by decide+kernel
def akJ:Told Go.Proofs.Tryz.prog 245 Wd [] 5:=Told.of Go.Proofs.Tryz.func245 (by decide+kernel)
def acC:aA Go.Proofs.Tryz.prog 245=true:=by decide+kernel
def alr:Told Go.Proofs.Tryz.prog 66 (uv 4 48) [.t 2] 1:=Told.of Go.Proofs.Tryz.func66 (by decide+kernel)
def akh:Told Go.Proofs.Tryz.prog 173 (uv 2 32) [.t 2] 1:=Told.of Go.Proofs.Tryz.func173 (by decide+kernel)
def ajd:Told Go.Proofs.Tryz.prog 108 (uv 2 24) [.t 2] 1:=Told.of Go.Proofs.Tryz.func108 (by decide+kernel)
def alc:Told Go.Proofs.Tryz.prog 51 (uv 1 16) [.t 2] 1:=Told.of Go.Proofs.Tryz.func51 (by decide+kernel)
set_option maxHeartbeats 4000000 in
def amT:TT.Ok Go.Proofs.Tryz.prog:=by
  refine⟨λf F h=>?_,λf F h=>?_⟩
  · have h:_=_:=h
    rcases Option.or_eq_some_iff.1 h with h|⟨_,h⟩
    · unfold JF at h
      split at h
      · cases h;exact akP
      · cases h;exact akZ
      · cases h;exact ala
      · cases h;exact alj
      · cases h;exact alw
      · cases h;exact alH
      · cases h;exact alQ
      · cases h;exact ai4
      · cases h;exact ajf
      · cases h;exact ajn
      · cases h;exact ajy
      · cases h;exact ajJ
      · cases h;exact ajS
      · cases h;exact aj2
      · cases h;exact akd
      · cases h;exact aki
      · cases h;exact akp
      · cases h;exact akv
      · cases h;exact akz
      · cases h;exact akD
      · cases h;exact akG
      · cases h;exact akI
      · cases h;exact akK
      · cases h;exact akL
      · cases h;exact akM
      · cases h;exact akN
      · cases h;exact akO
      · cases h;exact akQ
      · cases h;exact akR
      · cases h;exact akS
      · cases h;exact akT
      · cases h;exact akU
      · cases h;exact akV
      · cases h;exact akW
      · cases h;exact akX
      · cases h;exact akY
      · cases h;exact ak0
      · cases h;exact ak1
      · cases h;exact ak2
      · cases h;exact ak3
      · cases h;exact ak4
      · cases h;exact ak5
      · cases h;exact ak6
      · cases h;exact ak7
      · cases h;exact ak8
      · cases h;exact ak9
      · cases h;exact alb
      · cases h;exact ald
      · cases h;exact ale
      · cases h;exact alf
      · cases h;exact alg
      · cases h;exact alh
      · cases h;exact ali
      · cases h;exact alk
      · cases h;exact alm
      · cases h;exact aln
      · cases h;exact alo
      · cases h;exact alp
      · cases h;exact alq
      · cases h;exact als
      · cases h;exact alu
      · cases h;exact alv
      · cases h;exact alx
      · cases h;exact aly
      · cases h;exact alz
      · cases h;exact alA
      · cases h;exact alB
      · cases h;exact alC
      · cases h;exact alD
      · cases h;exact alE
      · cases h;exact alF
      · cases h;exact alG
      · cases h;exact alI
      · cases h;exact alJ
      · cases h;exact alK
      · cases h;exact alL
      · cases h;exact alM
      · cases h;exact alN
      · cases h;exact alO
      · cases h;exact alP
      · cases h;exact alR
      · cases h;exact alS
      · cases h;exact alT
      · cases h;exact alU
      · cases h;exact alV
      · cases h;exact alW
      · cases h;exact alX
      · cases h;exact alY
      · cases h;exact alZ
      · cases h;exact ai5
      · cases h;exact ai6
      · cases h;exact ai7
      · cases h;exact ai8
      · cases h;exact ai9
      · cases h;exact aja
      · cases h;exact ajb
      · cases h;exact ajc
      · cases h;exact aje
      · cases h;exact ajg
      · cases h;exact ajh
      · cases h;exact aji
      · cases h;exact ajj
      · cases h;exact ajk
      · cases h;exact ajl
      · cases h;exact ajm
      · cases h;exact ajo
      · cases h;exact ajp
      · cases h;exact ajq
      · cases h;exact ajr
      · cases h;exact ajs
      · cases h;exact ajt
      · cases h;exact aju
      · cases h;exact ajv
      · cases h;exact ajw
      · cases h;exact ajx
      · cases h;exact ajz
      · cases h;exact ajA
      · cases h;exact ajB
      · cases h;exact ajC
      · cases h;exact ajD
      · cases h
    unfold JG at h
    split at h
    · cases h;exact ajE
    · cases h;exact ajF
    · cases h;exact ajG
    · cases h;exact ajH
    · cases h;exact ajI
    · cases h;exact ajK
    · cases h;exact ajL
    · cases h;exact ajM
    · cases h;exact ajN
    · cases h;exact ajO
    · cases h;exact ajP
    · cases h;exact ajQ
    · cases h;exact ajR
    · cases h;exact ajT
    · cases h;exact ajU
    · cases h;exact ajV
    · cases h;exact ajW
    · cases h;exact ajX
    · cases h;exact ajY
    · cases h;exact ajZ
    · cases h;exact aj0
    · cases h;exact aj1
    · cases h;exact aj3
    · cases h;exact aj4
    · cases h;exact aj5
    · cases h;exact aj6
    · cases h;exact aj7
    · cases h;exact aj8
    · cases h;exact aj9
    · cases h;exact aka
    · cases h;exact akb
    · cases h;exact akc
    · cases h;exact ake
    · cases h;exact akf
    · cases h;exact akg
    · cases h;exact akj
    · cases h;exact akk
    · cases h;exact akl
    · cases h;exact akm
    · cases h;exact akn
    · cases h;exact ako
    · cases h;exact akq
    · cases h;exact akr
    · cases h;exact aks
    · cases h;exact akt
    · cases h;exact aku
    · cases h;exact akw
    · cases h;exact akx
    · cases h;exact aky
    · cases h;exact akA
    · cases h;exact akB
    · cases h;exact akC
    · cases h;exact akE
    · cases h;exact akF
    · cases h;exact akH
    · cases h;exact akJ
    · cases h
  · have h:_=_:=h
    rcases Option.or_eq_some_iff.1 h with h|⟨_,h⟩
    · unfold JF at h
      split at h
      · cases h;exact acI
      · cases h;exact acS
      · cases h;exact ac3
      · cases h;exact adb
      · cases h;exact ado
      · cases h;exact adB
      · cases h;exact adK
      · cases h;exact aaQ
      · cases h;exact aa0
      · cases h;exact aa8
      · cases h;exact abl
      · cases h;exact abx
      · cases h;exact abG
      · cases h;exact abQ
      · cases h;exact ab1
      · cases h;exact ab5
      · cases h;exact acf
      · cases h;exact acm
      · cases h;exact acq
      · cases h;exact acv
      · cases h;exact acz
      · cases h;exact acB
      · cases h;exact acD
      · cases h;exact acE
      · cases h;exact acF
      · cases h;exact acG
      · cases h;exact acH
      · cases h;exact acJ
      · cases h;exact acK
      · cases h;exact acL
      · cases h;exact acM
      · cases h;exact acN
      · cases h;exact acO
      · cases h;exact acP
      · cases h;exact acQ
      · cases h;exact acR
      · cases h;exact acT
      · cases h;exact acU
      · cases h;exact acV
      · cases h;exact acW
      · cases h;exact acX
      · cases h;exact acY
      · cases h;exact acZ
      · cases h;exact ac0
      · cases h;exact ac1
      · cases h;exact ac2
      · cases h;exact ac4
      · cases h;exact ac5
      · cases h;exact ac6
      · cases h;exact ac7
      · cases h;exact ac8
      · cases h;exact ac9
      · cases h;exact ada
      · cases h;exact ade
      · cases h;exact adf
      · cases h;exact adg
      · cases h;exact adh
      · cases h;exact adi
      · cases h;exact adj
      · cases h;exact adk
      · cases h;exact adl
      · cases h;exact adn
      · cases h;exact adp
      · cases h;exact adq
      · cases h;exact ads
      · cases h;exact adt
      · cases h;exact adu
      · cases h;exact adw
      · cases h;exact adx
      · cases h;exact ady
      · cases h;exact adz
      · cases h;exact adA
      · cases h;exact adC
      · cases h;exact adD
      · cases h;exact adE
      · cases h;exact adF
      · cases h;exact adG
      · cases h;exact adH
      · cases h;exact adI
      · cases h;exact adJ
      · cases h;exact adL
      · cases h;exact adM
      · cases h;exact adN
      · cases h;exact adO
      · cases h;exact adP
      · cases h;exact adQ
      · cases h;exact adR
      · cases h;exact adS
      · cases h;exact adT
      · cases h;exact aaR
      · cases h;exact aaS
      · cases h;exact aaT
      · cases h;exact aaU
      · cases h;exact aaV
      · cases h;exact aaW
      · cases h;exact aaX
      · cases h;exact aaY
      · cases h;exact aaZ
      · cases h;exact aa1
      · cases h;exact aa2
      · cases h;exact aa3
      · cases h;exact aa4
      · cases h;exact aa5
      · cases h;exact aa6
      · cases h;exact aa7
      · cases h;exact aa9
      · cases h;exact abb
      · cases h;exact abd
      · cases h;exact abe
      · cases h;exact abf
      · cases h;exact abg
      · cases h;exact abh
      · cases h;exact abi
      · cases h;exact abj
      · cases h;exact abk
      · cases h;exact abm
      · cases h;exact abn
      · cases h;exact abo
      · cases h;exact abp
      · cases h;exact abq
      · cases h
    unfold JG at h
    split at h
    · cases h;exact abr
    · cases h;exact abt
    · cases h;exact abu
    · cases h;exact abv
    · cases h;exact abw
    · cases h;exact aby
    · cases h;exact abz
    · cases h;exact abA
    · cases h;exact abB
    · cases h;exact abC
    · cases h;exact abD
    · cases h;exact abE
    · cases h;exact abF
    · cases h;exact abH
    · cases h;exact abI
    · cases h;exact abJ
    · cases h;exact abK
    · cases h;exact abL
    · cases h;exact abM
    · cases h;exact abN
    · cases h;exact abO
    · cases h;exact abP
    · cases h;exact abR
    · cases h;exact abS
    · cases h;exact abT
    · cases h;exact abU
    · cases h;exact abV
    · cases h;exact abW
    · cases h;exact abX
    · cases h;exact abY
    · cases h;exact abZ
    · cases h;exact ab0
    · cases h;exact ab2
    · cases h;exact ab3
    · cases h;exact ab4
    · cases h;exact ab6
    · cases h;exact ab7
    · cases h;exact ab8
    · cases h;exact ab9
    · cases h;exact acd
    · cases h;exact ace
    · cases h;exact acg
    · cases h;exact ach
    · cases h;exact aci
    · cases h;exact acj
    · cases h;exact ack
    · cases h;exact acn
    · cases h;exact aco
    · cases h;exact acp
    · cases h;exact acr
    · cases h;exact acs
    · cases h;exact acu
    · cases h;exact acw
    · cases h;exact acy
    · cases h;exact acA
    · cases h;exact acC
    · cases h
def amS(htab:Lib.TabIs Go.Proofs.Tryz.prog Bs.W0 "internal/strconv.uint64pow10" .u64 Lib.pow10Tab) (hmax:∃m,Bs.W0.cell? ⟨0,0,none⟩=some (.int .i64 m)) (Lc:∃te pe,Bs.W0.var? Go.Proofs.Tryz.prog "strconv.ErrSyntax" =some #[.iface te pe]) (kT:∃te pe,Bs.W0.var? Go.Proofs.Tryz.prog "strconv.ErrRange" =some #[.iface te pe]):LI.Sound Go.Proofs.Tryz.prog:=(nW (aaL λA cap fs w h1 h2 h3=>Go.Proofs.adY A cap fs w h1 h2 h3) (nW (agB λs w hw hs=>Go.Proofs.agw htab Lc kT s w hw hs) (nW (EG alr) (nW (EG akh) (nW (EG ajd) (nW (EG alc) (nW (afp htab λn h0 h1 w ht=>Go.Proofs.Tryz.strconv_Itoa n h0 h1 w ht) (nW (aav (g1:=0) hmax λs sep m w h1 h2=>Go.Proofs.Tryz.strings_Cut s sep m w h1 h2) (nW (aem λs p w=>Go.Proofs.Tryz.strings_HasPrefix s p w) (nW (afq (λa c sep w=>Go.Proofs.Tryz.strings_Join_none a c sep w) λbk o c xs sep w h1 h2 h3 h4 h5=>Go.Proofs.Tryz.strings_Join bk o c xs sep w h1 h2 h3 h4 h5) (nW (aiG (g1:=0) (t9:=_) hmax λs sep m w h1 h2 h3=>Go.Proofs.Tryz.strings_Split s sep m w h1 h2 h3) (al0 λs c h w hs=>Go.Proofs.Tryz.strings_Trim_one s c h w hs))))))))))))
end M
