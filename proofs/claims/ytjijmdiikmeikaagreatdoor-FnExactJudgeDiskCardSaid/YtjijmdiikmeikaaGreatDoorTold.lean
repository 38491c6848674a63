/- Each function of the table is the program's, and the library is as it is said to be; no conditions. -/
import Derived.Test.YtjijmdiikmeikaaGreatDoorProg
import Derived.Test.YtjijmdiikmeikaaGreatDoorLay
import Derived.Test.YtjijmdiikmeikaaGreatDoorTab
import Derived.Test.YtjijmdiikmeikaaGreatDoorMc
import Derived.WalkKit
import Derived.Lib.FrozenHead
import Derived.Lib.OthersKept
import Derived.Lib.Builder
set_option linter.defProp false
set_option linter.unusedSectionVars false
set_option linter.unusedVariables false
set_option linter.unusedSimpArgs false
set_option linter.unusedVariables false
set_option linter.unusedSectionVars false
set_option maxRecDepth 100000
namespace Go.Proofs
open Go.RowKit
set_option maxHeartbeats 2000000 in
set_option maxRecDepth 100000 in
def Wz(b:Nat)(w:World)(h0:w.cell? ⟨b,0,none⟩=some (.pointer (some ⟨b,0,none⟩))):
    Calls Tryz.prog 309 #[.pointer (some ⟨b,0,none⟩)] w λe w'=>e=.returned (.tuple #[])/\w'=w:=by obtain⟨j,hj,DS⟩:=kI.1 (show (Tryz.prog.info? 290).map (·.size)=some 2 by kernel_rfl);go_enter Tryz.func309,Tryz.ntmps309;go_wp2;rw[Lib.run_neq_ptr_same w _ Tryz.underlying288 hj];go_wp2;go_end0;exact⟨rfl,rfl⟩
set_option maxHeartbeats 2000000 in
set_option maxRecDepth 100000 in
def Wy(b:Nat)(w:World)(h0:w.cell? ⟨b,0,none⟩=some (.pointer none))(hsh:w.shape? b=some (290,2))(hfz:w.frozen? ⟨b,0,none⟩=false):
    Calls Tryz.prog 309 #[.pointer (some ⟨b,0,none⟩)] w λe w'=>e=.returned (.tuple #[])/\w'=w.setCell ⟨b,0,none⟩ (.pointer (some ⟨b,0,none⟩)):=by obtain⟨j,hj,DS⟩:=kI.1 (show (Tryz.prog.info? 290).map (·.size)=some 2 by kernel_rfl);go_enter Tryz.func309,Tryz.ntmps309;go_wp2;rw[Lib.run_to_unsafe w ⟨b,0,none⟩ Tryz.underlying288 Tryz.underlying322 hj (by rw[DS];decide) hsh (Nat.zero_lt_succ 1)];simp only[Result.andThen];rw[Oper.upon_value];go_wp2;rw[run_callFunc_extern Tryz.func319 (by kernel_rfl) (by kernel_rfl) (by kernel_rfl) (e:=Extern.AbiNoEscape.same) (by kernel_rfl)];rw[Lib.run_noEscape];simp only[Result.andThen];rw[Oper.upon_value];go_wp2;rw[Lib.run_from_unsafe w ⟨b,0,none⟩ Tryz.underlying322 Tryz.underlying288 hj hsh (by kernel_rfl)];simp only[Result.andThen];rw[Oper.upon_value];go_wp2;go_end0;exact⟨rfl,rfl⟩
def Wx(B b:Nat)(bs:List Value)(w:World)(h:Lib.IsBuilderF 290 5 B b bs w):
    Calls Tryz.prog 309 #[.pointer (some ⟨b,0,none⟩)] w λe w'=>e=.returned (.tuple #[])/\(Lib.BuilderAtF 290 5 B b (.pointer (some ⟨b,0,none⟩)) bs w'/\Below B w w'):=by
  rcases h with h|h
  · refine(Wy b w h.cell0 h.shape h.frozen0).mono ?_
    rintro e w' ⟨rfl,rfl⟩
    exact⟨rfl,h.used _,(Below.refl B w).setCell (p:=⟨b,0,none⟩) h.1 _⟩
  · refine(Wz b w h.cell0).mono ?_
    rintro e w' ⟨rfl,rfl⟩
    exact⟨rfl,h,Below.refl B _⟩
set_option maxHeartbeats 2000000 in
set_option maxRecDepth 100000 in
def WA(B b:Nat)(bs:List Value)(s:ByteArray)(w:World)(h:Lib.IsBuilderF 290 5 B b bs w)(hlen:bs.length+s.size<=140737488355328)(hBw:B<=w.heap.size):
    Calls Tryz.prog 292 #[.pointer (some ⟨b,0,none⟩),.string s] w λe w'=>e=.returned (.tuple #[.int .i64 s.size,.nilIface])/\(Lib.BuilderAtF 290 5 B b (.pointer (some ⟨b,0,none⟩)) (bs++Lib.strCells s) w'/\Below B w w'):=by
  obtain⟨i0,hi,hz0,hz1,hz2⟩:=info_parts (P:=Tryz.prog) (e:=5) (z:=.int .u8 0) (size:=1) (bytes:=1) (by kernel_rfl);go_enter Tryz.func292,Tryz.ntmps292;go_wp2_with (go_at_call 309;refine(Wx B b bs _ h).mono ?_);rintro e w1 ⟨rfl,h1,dQ⟩;obtain⟨hB,v,hbk,hown,hne⟩:=h1;have c0:w1.cell? ⟨b,0,none⟩=some (.pointer (some ⟨b,0,none⟩)):=by rw[Lib.cell_of_heap hbk];rfl
  have c1:w1.cell? ⟨b,1,none⟩=some v:=by rw[Lib.cell_of_heap hbk];rfl
  go_wp2_with (at_builtin;refine Lib.wpList_append_own_stringF _ rfl _ _ 227 9 rfl B 5 i0 Tryz.underlying227 Tryz.underlying9 hi hz0 hz1 hz2 _ _ _ rfl hown s rfl ?c3 ?c4 ?c5 ?_);case c3=>unfold maxLen;omega
  case c4=>omega
  case c5=>have:=dQ.size;omega
  intro v' w2 hown' hgrow _
  have hlt:b<w1.heap.size:=by
    rcases iB b w1.heap.size with h'|h';· exact h'
    · simp[lI h'] at hbk
  have gM:w2.heap[b]?=some (.cells #[.pointer (some ⟨b,0,none⟩),v] 290 (0,0)):=by rw[hgrow.block b hlt (λe=>hne e.symm)];exact hbk
  have d0:w2.cell? ⟨b,0,none⟩=some (.pointer (some ⟨b,0,none⟩)):=by rw[Lib.cell_of_heap gM];rfl
  have d1:w2.cell? ⟨b,1,none⟩=some v:=by rw[Lib.cell_of_heap gM];rfl
  have f1:w2.frozen? ⟨b,1,none⟩=false:=Lib.frozen_of_heap gM 1
  obtain⟨ao,n',cap,rfl⟩:∃ao n' cap,v'=.slice ao n' cap:=by
    rcases hown'.2 with ⟨hv,_⟩|⟨g,cap,cur,fz,hv,_⟩;· exact⟨_,_,_,hv⟩
    · exact⟨_,_,_,hv⟩
  go_wp2;go_ret2;refine⟨rfl,?_,?_⟩;· exact Lib.BuilderAtF.put (T:=290) (e:=5) hB gM (bs':=bs++Lib.strCells s) (by simpa [Lib.strCells_length] using hown') (by decide)
  · exact(dQ.grown hgrow (by have:=dQ.size;omega) (λk hk=>(hown.lt k hk).1)).setCell (p:=⟨b,1,none⟩) hB _
set_option maxHeartbeats 4000000 in
set_option maxRecDepth 1000000 in
def adj(A:Option Addr)(cap:Nat)(fs:List (ByteArray×ByteArray))(w:World)
    (hc:∀i f,fs[i]?=some f->∃g o,A=some ⟨g,o,none⟩/\g<w.heap.size/\w.cell? ⟨g,o+i*2,none⟩=some (.string f.1)/\w.cell? ⟨g,o+i*2+1,none⟩=some (.string f.2))
    (hb:(M.jv fs).length<=140737488355328)(hl:fs.length<=140737488355328):
    Calls Tryz.prog 267 #[.slice A fs.length cap] w λe w'=>e=.returned (.string ⟨(M.jv fs).toArray⟩)/\Below w.heap.size w w':=by
  go_enter Tryz.func267,Tryz.ntmps267;go_wp2;go_loopw [8] (λvi wr=>∃k:Nat,vi=.int .i64 k/\k<=fs.length/\Lib.IsBuilderF 290 5 w.heap.size w.heap.size (Lib.byteCells (M.jv (fs.take k))) wr/\Below w.heap.size w wr) (λvi _=>fs.length - (intOf vi).toNat);case atStart=>exact⟨0,rfl,sB _,Lib.IsBuilderF.of (Lib.fresh_isBuilder 290 5 w),(Below.refl _ w).alloc (e7 _) _⟩
  case round=>
    obtain⟨k,rfl,hk,hI,y9⟩:=hrel;have hsz:w.heap.size<=wr.heap.size:=y9.size;by_cases hlt:k<fs.length
    · obtain⟨g,o,rfl,hg,hk1⟩:=hc k fs[k] (by simp[hlt])
      have c1:wr.cell? ⟨g,o+k*2,none⟩=some (.string fs[k].1):=by rw[y9.cell (p:=⟨g,o+k*2,none⟩) hg];exact hk1.1
      have c2:wr.cell? ⟨g,o+k*2+1,none⟩=some (.string fs[k].2):=by rw[y9.cell (p:=⟨g,o+k*2+1,none⟩) hg];exact hk1.2
      have hlt2:(k:Int)<fs.length:=by omega
      have hle:=M.adk hlt
      have htk:=M.PT hlt
      have s1:¬9223372036854775807<fs[k].1.size+2:=by omega
      have s2:¬9223372036854775807<fs[k].1.size+2+fs[k].2.size:=by omega
      have s3:¬9223372036854775807<fs[k].1.size+2+fs[k].2.size+2:=by omega
      go_wp2_with (go_at_call 292;refine(WA w.heap.size w.heap.size _ _ _ (hI.alloc _) ?_ ?_).mono ?_)
      · rw[Lib.byteCells_length]
        simp only[ByteArray.size_append]
        have e1:(⟨#[58,32]⟩:ByteArray).size=2:=rfl
        have e2:(⟨#[13,10]⟩:ByteArray).size=2:=rfl
        omega
      · simp only[World.alloc]
        simp
        omega
      rintro e W1 ⟨rfl,h1,b1⟩
      go_wp2
      go_roundw
      case rel=>
        refine⟨k+1,by go_num,by omega,?_,(y9.alloc hsz _).trans b1⟩
        rw[htk,Lib.byteCells_append]
        refine Or.inr ?_
        have e:Lib.strCells (fs[k].1++⟨#[58,32]⟩++fs[k].2++⟨#[13,10]⟩)=Lib.byteCells (fs[k].1.data.toList++[58,32]++fs[k].2.data.toList++[13,10]):=by rw[Lib.strCells_eq];congr 1
        rw[<-e]
        exact h1
      case measure=>
        simp[intOf]
        omega
    · have hlt2:¬(k:Int)<fs.length:=by omega
      go_wp2_with (go_at_call 293;refine(Tryz.Builder_String_any_f w.heap.size w.heap.size _ _ hI hsz).mono ?_)
      rintro e W1 rfl h2 b1
      clear h2
      go_wp2
      go_ret
      have:k=fs.length:=by omega
      subst this
      rw[uH]
      exact⟨rfl,y9.trans b1⟩
end Go.Proofs
namespace Go.Proofs
open Go.RowKit
set_option maxHeartbeats 2000000 in
set_option maxRecDepth 100000 in
def afH(s:ByteArray)(h:7<s.size)(w:World):
    Calls Go.Proofs.Tryz.prog 200 #[.string s] w λe w'=>e=.returned (.tuple #[.int .i64 0,.bool false])/\w'=w:=by go_enter Tryz.func200,Tryz.ntmps200;go_wp2;· go_ret2;exact⟨rfl,rfl⟩
set_option maxHeartbeats 2000000 in
set_option maxRecDepth 100000 in
def afJ(s:ByteArray)(h:¬7<s.size)(v:Int)(hv:Lib.atoiAll s.data.toList=.ok v)(w:World)(htab:Lib.TabIs Go.Proofs.Tryz.prog w "internal/strconv.uint64pow10" .u64 Lib.pow10Tab):
    Calls Go.Proofs.Tryz.prog 200 #[.string s] w λe w'=>e=.returned (.tuple #[.int .i64 (w9 v s.data.toList),.bool (og v s.data.toList)])/\Below w.heap.size w w':=by
  have kX:=Lib.atoiAll_bounds hv;go_enter Tryz.func200,Tryz.ntmps200
  go_wp2_with (first
    |(go_at_call 240;refine(Tryz.strconv_Atoi_ok s (by omega) v hv _).mono ?_;rintro e W1 ⟨rfl,Qj⟩;have dQ:Below w.heap.size w W1:=(by rcases Qj with rfl|⟨t,rfl⟩;exact Below.refl _ _;exact Lib.bytesWorld_below _ _ _);clear Qj)
    |(go_at_call 241;refine(Tryz.strconv_Itoa v kX.1 kX.2 _ (ahO htab dQ)).mono ?_;rintro e W2 ⟨rfl,k,os,Qk⟩;have gM:Below w.heap.size w W2:=(by subst Qk;exact dQ.trans ((adq W1 k os).mono dQ.size));clear Qk)
    |go_in)
  all_goals go_ret2
  all_goals refine⟨?_,by assumption⟩
  all_goals first
    | (have hb : og v s.data.toList = true := (by
        unfold og;rw[bz];refine⟨by assumption,by assumption,?_⟩;rw[<-Lib.toList_data];rename_i hz
        simpa using hz)
       rw[w9,ay hb,hb];rfl)
    | (have hb : og v s.data.toList = false := (by
        unfold og;rw[T6];rintro ⟨h1,h2,h3⟩;first
        |omega
        | (rw[<-Lib.toList_data] at h3
           rename_i hz
           simp[h3] at hz))
       rw[w9,hb];rfl)
set_option maxHeartbeats 2000000 in
set_option maxRecDepth 100000 in
def afG(s:ByteArray)(h:¬7<s.size)(w:World)
    (hA:Calls Go.Proofs.Tryz.prog 240 #[.string s] w λe w'=>∃n t N,e=.returned (.tuple #[.int .i64 n,.iface t (.pointer (some ⟨N,0,none⟩))])/\Below w.heap.size w w'):
    Calls Go.Proofs.Tryz.prog 200 #[.string s] w λe w'=>e=.returned (.tuple #[.int .i64 0,.bool false])/\Below w.heap.size w w':=by
  go_enter Tryz.func200,Tryz.ntmps200
  go_wp2_with (first
    |(go_at_call 240;refine hA.mono ?_;rintro e W1 ⟨n,t,N,rfl,dQ⟩)
    |go_in)
  all_goals go_ret2
  all_goals exact⟨rfl,by assumption⟩
def afF[B:M.Bs](htab:Lib.TabIs Go.Proofs.Tryz.prog B.W0 "internal/strconv.uint64pow10" .u64 Lib.pow10Tab) (JE:∃te pe,B.W0.var? Go.Proofs.Tryz.prog "strconv.ErrSyntax" =some #[.iface te pe]) (ko:∃te pe,B.W0.var? Go.Proofs.Tryz.prog "strconv.ErrRange" =some #[.iface te pe])
    (s:ByteArray) (w:World) (hw:M.nQ w) (hs:s.size<=9223372036854775807):
    Calls Go.Proofs.Tryz.prog 200 #[.string s] w λe w'=>e=.returned (.tuple #[.int .i64 (((M.bq s.data.toList).getD 0:Nat):Int),.bool (M.bq s.data.toList).isSome])/\Below w.heap.size w w':=by
  refine afI (a:=0) hs (λh=>afH s h w) (λh v hv=>afJ s h v hv w (M.TabIs.same htab hw)) λh hv=>?_;refine afG s h w ?_;rcases ez:Lib.atoiAll s.data.toList with v|_|_;· exact absurd ez (hv v)
  · obtain⟨te,pe,h1⟩:=JE
    exact(Any.strconv_Atoi_syntax_var Tryz.laysC172 s (by omega) ez te pe w (To h1 hw)).mono λe w' ⟨N,he,_,_,hb⟩=>⟨_,_,N,he,hb⟩
  · obtain⟨te,pe,h1⟩:=ko
    exact(Any.strconv_Atoi_range_var Tryz.laysC172 s (by omega) ez te pe w (To h1 hw)).mono λe w' ⟨N,he,_,_,hb⟩=>⟨_,_,N,he,hb⟩
end Go.Proofs
namespace M
open Go
variable [Bs]
def akb:Told Go.Proofs.Tryz.prog 3 Ah [.t 2] 1:=Told.of Go.Proofs.Tryz.func3 (by decide+kernel)
def ab0:ak Go.Proofs.Tryz.prog 3=true:=by decide+kernel
def aks:Told Go.Proofs.Tryz.prog 5 rG [.t 4] 2:=Told.of Go.Proofs.Tryz.func5 (by decide+kernel)
def ack:ak Go.Proofs.Tryz.prog 5=true:=by decide+kernel
def akD:Told Go.Proofs.Tryz.prog 6 xq [.t 2] 1:=Told.of Go.Proofs.Tryz.func6 (by decide+kernel)
def acy:ak Go.Proofs.Tryz.prog 6=true:=by decide+kernel
def akO:Told Go.Proofs.Tryz.prog 7 E8 [.c 2 10 true 48] 1:=Told.of Go.Proofs.Tryz.func7 (by decide+kernel)
def acJ:ak Go.Proofs.Tryz.prog 7=true:=by decide+kernel
def akZ:Told Go.Proofs.Tryz.prog 8 vQ [.t 2] 1:=Told.of Go.Proofs.Tryz.func8 (by decide+kernel)
def acU:ak Go.Proofs.Tryz.prog 8=true:=by decide+kernel
def ala:Told Go.Proofs.Tryz.prog 9 pM [.t 4] 2:=Told.of Go.Proofs.Tryz.func9 (by decide+kernel)
def ac4:ak Go.Proofs.Tryz.prog 9=true:=by decide+kernel
def aif:Told Go.Proofs.Tryz.prog 12 tT [.t 4] 2:=Told.of Go.Proofs.Tryz.func12 (by decide+kernel)
def Z1:ak Go.Proofs.Tryz.prog 12=true:=by decide+kernel
def air:Told Go.Proofs.Tryz.prog 13 wG [.t 4] 2:=Told.of Go.Proofs.Tryz.func13 (by decide+kernel)
def aae:ak Go.Proofs.Tryz.prog 13=true:=by decide+kernel
def aiC:Told Go.Proofs.Tryz.prog 14 wK [.t 4] 2:=Told.of Go.Proofs.Tryz.func14 (by decide+kernel)
def aap:ak Go.Proofs.Tryz.prog 14=true:=by decide+kernel
def aiN:Told Go.Proofs.Tryz.prog 15 wI [.t 4] 2:=Told.of Go.Proofs.Tryz.func15 (by decide+kernel)
def aaA:ak Go.Proofs.Tryz.prog 15=true:=by decide+kernel
def aiY:Told Go.Proofs.Tryz.prog 16 oz [.t 2] 1:=Told.of Go.Proofs.Tryz.func16 (by decide+kernel)
def aaK:ak Go.Proofs.Tryz.prog 16=true:=by decide+kernel
def ai0:Told Go.Proofs.Tryz.prog 17 BB [.c 2 6 true 43] 1:=Told.of Go.Proofs.Tryz.func17 (by decide+kernel)
def aaM:ak Go.Proofs.Tryz.prog 17=true:=by decide+kernel
def ajb:Told Go.Proofs.Tryz.prog 18 Gd [.c 2 2 true 39] 1:=Told.of Go.Proofs.Tryz.func18 (by decide+kernel)
def aaX:ak Go.Proofs.Tryz.prog 18=true:=by decide+kernel
def ajm:Told Go.Proofs.Tryz.prog 19 BV [.t 4] 2:=Told.of Go.Proofs.Tryz.func19 (by decide+kernel)
def aa8:ak Go.Proofs.Tryz.prog 19=true:=by decide+kernel
def ajv:Told Go.Proofs.Tryz.prog 20 xE [.t 4] 2:=Told.of Go.Proofs.Tryz.func20 (by decide+kernel)
def abj:ak Go.Proofs.Tryz.prog 20=true:=by decide+kernel
def ajF:Told Go.Proofs.Tryz.prog 21 F7 [.c 4 2 true 39] 2:=Told.of Go.Proofs.Tryz.func21 (by decide+kernel)
def abu:ak Go.Proofs.Tryz.prog 21=true:=by decide+kernel
def ajI:Told Go.Proofs.Tryz.prog 22 Fs [.c 2 6 true 43] 1:=Told.of Go.Proofs.Tryz.func22 (by decide+kernel)
def abx:ak Go.Proofs.Tryz.prog 22=true:=by decide+kernel
def ajK:Told Go.Proofs.Tryz.prog 23 Fc [.t 2] 1:=Told.of Go.Proofs.Tryz.func23 (by decide+kernel)
def abz:ak Go.Proofs.Tryz.prog 23=true:=by decide+kernel
def ajT:Told Go.Proofs.Tryz.prog 24 Fp [.t 2] 1:=Told.of Go.Proofs.Tryz.func24 (by decide+kernel)
def abI:ak Go.Proofs.Tryz.prog 24=true:=by decide+kernel
def aj0:Told Go.Proofs.Tryz.prog 25 Fj [.t 2] 1:=Told.of Go.Proofs.Tryz.func25 (by decide+kernel)
def abP:ak Go.Proofs.Tryz.prog 25=true:=by decide+kernel
def aj4:Told Go.Proofs.Tryz.prog 26 pE [.t 2] 1:=Told.of Go.Proofs.Tryz.func26 (by decide+kernel)
def abT:ak Go.Proofs.Tryz.prog 26=true:=by decide+kernel
def aj7:Told Go.Proofs.Tryz.prog 27 EM [.c 2 6 true 43] 1:=Told.of Go.Proofs.Tryz.func27 (by decide+kernel)
def abW:ak Go.Proofs.Tryz.prog 27=true:=by decide+kernel
def aj8:Told Go.Proofs.Tryz.prog 28 Eh [.c 2 2 true 39] 1:=Told.of Go.Proofs.Tryz.func28 (by decide+kernel)
def abX:ak Go.Proofs.Tryz.prog 28=true:=by decide+kernel
def aj9:Told Go.Proofs.Tryz.prog 29 Ec [.c 4 2 true 39] 2:=Told.of Go.Proofs.Tryz.func29 (by decide+kernel)
def abY:ak Go.Proofs.Tryz.prog 29=true:=by decide+kernel
def akc:Told Go.Proofs.Tryz.prog 30 El [.t 4] 2:=Told.of Go.Proofs.Tryz.func30 (by decide+kernel)
def ab1:ak Go.Proofs.Tryz.prog 30=true:=by decide+kernel
def akd:Told Go.Proofs.Tryz.prog 31 Hg [.t 4] 2:=Told.of Go.Proofs.Tryz.func31 (by decide+kernel)
def ab2:ak Go.Proofs.Tryz.prog 31=true:=by decide+kernel
def ake:Told Go.Proofs.Tryz.prog 32 pO [.t 4] 2:=Told.of Go.Proofs.Tryz.func32 (by decide+kernel)
def ab3:ak Go.Proofs.Tryz.prog 32=true:=by decide+kernel
def akf:Told Go.Proofs.Tryz.prog 33 EY [.t 4] 2:=Told.of Go.Proofs.Tryz.func33 (by decide+kernel)
def ab4:ak Go.Proofs.Tryz.prog 33=true:=by decide+kernel
def akg:Told Go.Proofs.Tryz.prog 34 E2 [.t 4] 2:=Told.of Go.Proofs.Tryz.func34 (by decide+kernel)
def ab5:ak Go.Proofs.Tryz.prog 34=true:=by decide+kernel
def akh:Told Go.Proofs.Tryz.prog 35 E1 [.t 4] 2:=Told.of Go.Proofs.Tryz.func35 (by decide+kernel)
def ab6:ak Go.Proofs.Tryz.prog 35=true:=by decide+kernel
def aki:Told Go.Proofs.Tryz.prog 40 wD [.t 4] 2:=Told.of Go.Proofs.Tryz.func40 (by decide+kernel)
def ab7:ak Go.Proofs.Tryz.prog 40=true:=by decide+kernel
def akj:Told Go.Proofs.Tryz.prog 41 wH [.t 4] 2:=Told.of Go.Proofs.Tryz.func41 (by decide+kernel)
def ab8:ak Go.Proofs.Tryz.prog 41=true:=by decide+kernel
def akk:Told Go.Proofs.Tryz.prog 42 wB [.t 4] 2:=Told.of Go.Proofs.Tryz.func42 (by decide+kernel)
def ab9:ak Go.Proofs.Tryz.prog 42=true:=by decide+kernel
def akl:Told Go.Proofs.Tryz.prog 43 tQ [.t 4] 2:=Told.of Go.Proofs.Tryz.func43 (by decide+kernel)
def acd:ak Go.Proofs.Tryz.prog 43=true:=by decide+kernel
def akm:Told Go.Proofs.Tryz.prog 44 wM [.t 4] 2:=Told.of Go.Proofs.Tryz.func44 (by decide+kernel)
def ace:ak Go.Proofs.Tryz.prog 44=true:=by decide+kernel
def akn:Told Go.Proofs.Tryz.prog 45 tR [.t 4] 2:=Told.of Go.Proofs.Tryz.func45 (by decide+kernel)
def acf:ak Go.Proofs.Tryz.prog 45=true:=by decide+kernel
def ako:Told Go.Proofs.Tryz.prog 46 oD [.t 2] 1:=Told.of Go.Proofs.Tryz.func46 (by decide+kernel)
def acg:ak Go.Proofs.Tryz.prog 46=true:=by decide+kernel
def akp:Told Go.Proofs.Tryz.prog 47 GA [.t 6] 3:=Told.of Go.Proofs.Tryz.func47 (by decide+kernel)
def ach:ak Go.Proofs.Tryz.prog 47=true:=by decide+kernel
def akq:Told Go.Proofs.Tryz.prog 48 xx [.t 2] 1:=Told.of Go.Proofs.Tryz.func48 (by decide+kernel)
def aci:ak Go.Proofs.Tryz.prog 48=true:=by decide+kernel
def akr:Told Go.Proofs.Tryz.prog 49 mz [.t 2] 1:=Told.of Go.Proofs.Tryz.func49 (by decide+kernel)
def acj:ak Go.Proofs.Tryz.prog 49=true:=by decide+kernel
def akt:Told Go.Proofs.Tryz.prog 50 oy [.t 4] 2:=Told.of Go.Proofs.Tryz.func50 (by decide+kernel)
def acm:ak Go.Proofs.Tryz.prog 50=true:=by decide+kernel
def aku:Told Go.Proofs.Tryz.prog 51 Ga [.t 2] 1:=Told.of Go.Proofs.Tryz.func51 (by decide+kernel)
def acn:ak Go.Proofs.Tryz.prog 51=true:=by decide+kernel
def akv:Told Go.Proofs.Tryz.prog 52 Gk [.c 0 6 true 43] 0:=Told.of Go.Proofs.Tryz.func52 (by decide+kernel)
def aco:ak Go.Proofs.Tryz.prog 52=true:=by decide+kernel
def akw:Told Go.Proofs.Tryz.prog 53 BS [.t 2,.t 3] 1:=Told.of Go.Proofs.Tryz.func53 (by decide+kernel)
def acp:ak Go.Proofs.Tryz.prog 53=true:=by decide+kernel
def akx:Told Go.Proofs.Tryz.prog 54 p7 [.t 2,.t 3,.t 4] 1:=Told.of Go.Proofs.Tryz.func54 (by decide+kernel)
def acq:ak Go.Proofs.Tryz.prog 54=true:=by decide+kernel
def aky:Told Go.Proofs.Tryz.prog 55 F8 [.t 4] 2:=Told.of Go.Proofs.Tryz.func55 (by decide+kernel)
def acr:ak Go.Proofs.Tryz.prog 55=true:=by decide+kernel
def akz:Told Go.Proofs.Tryz.prog 56 rX [.c 2 7 true 63,.t 3] 1:=Told.of Go.Proofs.Tryz.func56 (by decide+kernel)
def acs:ak Go.Proofs.Tryz.prog 56=true:=by decide+kernel
def akA:Told Go.Proofs.Tryz.prog 57 GB [.t 4] 2:=Told.of Go.Proofs.Tryz.func57 (by decide+kernel)
def acu:ak Go.Proofs.Tryz.prog 57=true:=by decide+kernel
def akB:Told Go.Proofs.Tryz.prog 58 Ge [.t 4] 2:=Told.of Go.Proofs.Tryz.func58 (by decide+kernel)
def acv:ak Go.Proofs.Tryz.prog 58=true:=by decide+kernel
def akC:Told Go.Proofs.Tryz.prog 59 Gx [.t 4] 2:=Told.of Go.Proofs.Tryz.func59 (by decide+kernel)
def acw:ak Go.Proofs.Tryz.prog 59=true:=by decide+kernel
def akE:Told Go.Proofs.Tryz.prog 60 Gr [.c 2 2 true 39] 1:=Told.of Go.Proofs.Tryz.func60 (by decide+kernel)
def acz:ak Go.Proofs.Tryz.prog 60=true:=by decide+kernel
def akF:Told Go.Proofs.Tryz.prog 61 xA [.t 4] 2:=Told.of Go.Proofs.Tryz.func61 (by decide+kernel)
def acA:ak Go.Proofs.Tryz.prog 61=true:=by decide+kernel
def akG:Told Go.Proofs.Tryz.prog 62 Gw [.t 2] 1:=Told.of Go.Proofs.Tryz.func62 (by decide+kernel)
def acB:ak Go.Proofs.Tryz.prog 62=true:=by decide+kernel
def akH:Told Go.Proofs.Tryz.prog 63 Gu [.c 6 2 true 39] 3:=Told.of Go.Proofs.Tryz.func63 (by decide+kernel)
def acC:ak Go.Proofs.Tryz.prog 63=true:=by decide+kernel
def akI:Told Go.Proofs.Tryz.prog 64 BE [.t 2] 1:=Told.of Go.Proofs.Tryz.func64 (by decide+kernel)
def acD:ak Go.Proofs.Tryz.prog 64=true:=by decide+kernel
def akJ:Told Go.Proofs.Tryz.prog 65 E9 [.c 2 2 true 39] 1:=Told.of Go.Proofs.Tryz.func65 (by decide+kernel)
def acE:ak Go.Proofs.Tryz.prog 65=true:=by decide+kernel
def akK:Told Go.Proofs.Tryz.prog 66 Fg [.t 2] 1:=Told.of Go.Proofs.Tryz.func66 (by decide+kernel)
def acF:ak Go.Proofs.Tryz.prog 66=true:=by decide+kernel
def akL:Told Go.Proofs.Tryz.prog 67 E6 [.t 2] 1:=Told.of Go.Proofs.Tryz.func67 (by decide+kernel)
def acG:ak Go.Proofs.Tryz.prog 67=true:=by decide+kernel
def akM:Told Go.Proofs.Tryz.prog 68 Fe [.c 2 13 true 105] 1:=Told.of Go.Proofs.Tryz.func68 (by decide+kernel)
def acH:ak Go.Proofs.Tryz.prog 68=true:=by decide+kernel
def akN:Told Go.Proofs.Tryz.prog 69 Fq [.c 2 8 true 131] 1:=Told.of Go.Proofs.Tryz.func69 (by decide+kernel)
def acI:ak Go.Proofs.Tryz.prog 69=true:=by decide+kernel
def akP:Told Go.Proofs.Tryz.prog 70 Fk [.c 2 18 true 134] 1:=Told.of Go.Proofs.Tryz.func70 (by decide+kernel)
def acK:ak Go.Proofs.Tryz.prog 70=true:=by decide+kernel
def akQ:Told Go.Proofs.Tryz.prog 71 EI [.t 2] 1:=Told.of Go.Proofs.Tryz.func71 (by decide+kernel)
def acL:ak Go.Proofs.Tryz.prog 71=true:=by decide+kernel
def akR:Told Go.Proofs.Tryz.prog 72 ED [.t 2] 1:=Told.of Go.Proofs.Tryz.func72 (by decide+kernel)
def acM:ak Go.Proofs.Tryz.prog 72=true:=by decide+kernel
def akS:Told Go.Proofs.Tryz.prog 73 mW [.t 2] 1:=Told.of Go.Proofs.Tryz.func73 (by decide+kernel)
def acN:ak Go.Proofs.Tryz.prog 73=true:=by decide+kernel
def akT:Told Go.Proofs.Tryz.prog 74 zW [] 1:=Told.of Go.Proofs.Tryz.func74 (by decide+kernel)
def acO:ak Go.Proofs.Tryz.prog 74=true:=by decide+kernel
def akU:Told Go.Proofs.Tryz.prog 75 En [.t 2] 1:=Told.of Go.Proofs.Tryz.func75 (by decide+kernel)
def acP:ak Go.Proofs.Tryz.prog 75=true:=by decide+kernel
def akV:Told Go.Proofs.Tryz.prog 76 Co [.t 4] 2:=Told.of Go.Proofs.Tryz.func76 (by decide+kernel)
def acQ:ak Go.Proofs.Tryz.prog 76=true:=by decide+kernel
def akW:Told Go.Proofs.Tryz.prog 77 EK [.t 3] 2:=Told.of Go.Proofs.Tryz.func77 (by decide+kernel)
def acR:ak Go.Proofs.Tryz.prog 77=true:=by decide+kernel
def akX:Told Go.Proofs.Tryz.prog 78 vY [.t 4] 2:=Told.of Go.Proofs.Tryz.func78 (by decide+kernel)
def acS:ak Go.Proofs.Tryz.prog 78=true:=by decide+kernel
def akY:Told Go.Proofs.Tryz.prog 79 z7 [.t 2] 1:=Told.of Go.Proofs.Tryz.func79 (by decide+kernel)
def acT:ak Go.Proofs.Tryz.prog 79=true:=by decide+kernel
def ak0:Told Go.Proofs.Tryz.prog 80 Ed [.t 2] 1:=Told.of Go.Proofs.Tryz.func80 (by decide+kernel)
def acV:ak Go.Proofs.Tryz.prog 80=true:=by decide+kernel
def ak1:Told Go.Proofs.Tryz.prog 81 EA [.c 2 2 true 39] 1:=Told.of Go.Proofs.Tryz.func81 (by decide+kernel)
def acW:ak Go.Proofs.Tryz.prog 81=true:=by decide+kernel
def ak2:Told Go.Proofs.Tryz.prog 82 Ee [] 1:=Told.of Go.Proofs.Tryz.func82 (by decide+kernel)
def acX:ak Go.Proofs.Tryz.prog 82=true:=by decide+kernel
def ak4:Told Go.Proofs.Tryz.prog 84 Ek [.t 3] 2:=Told.of Go.Proofs.Tryz.func84 (by decide+kernel)
def acY:ak Go.Proofs.Tryz.prog 84=true:=by decide+kernel
def ak5:Told Go.Proofs.Tryz.prog 85 Ab [.t 4] 2:=Told.of Go.Proofs.Tryz.func85 (by decide+kernel)
def acZ:ak Go.Proofs.Tryz.prog 85=true:=by decide+kernel
def ak6:Told Go.Proofs.Tryz.prog 86 wv [.t 4] 2:=Told.of Go.Proofs.Tryz.func86 (by decide+kernel)
def ac0:ak Go.Proofs.Tryz.prog 86=true:=by decide+kernel
def ak7:Told Go.Proofs.Tryz.prog 87 E0 [.t 4] 2:=Told.of Go.Proofs.Tryz.func87 (by decide+kernel)
def ac1:ak Go.Proofs.Tryz.prog 87=true:=by decide+kernel
def ak8:Told Go.Proofs.Tryz.prog 88 EW [.t 4] 2:=Told.of Go.Proofs.Tryz.func88 (by decide+kernel)
def ac2:ak Go.Proofs.Tryz.prog 88=true:=by decide+kernel
def ak9:Told Go.Proofs.Tryz.prog 89 rE [.t 4] 2:=Told.of Go.Proofs.Tryz.func89 (by decide+kernel)
def ac3:ak Go.Proofs.Tryz.prog 89=true:=by decide+kernel
def alb:Told Go.Proofs.Tryz.prog 90 tP [.t 4] 2:=Told.of Go.Proofs.Tryz.func90 (by decide+kernel)
def ac5:ak Go.Proofs.Tryz.prog 90=true:=by decide+kernel
def alc:Told Go.Proofs.Tryz.prog 91 ng [.t 4] 2:=Told.of Go.Proofs.Tryz.func91 (by decide+kernel)
def ac6:ak Go.Proofs.Tryz.prog 91=true:=by decide+kernel
def ald:Told Go.Proofs.Tryz.prog 93 GC [.t 4] 2:=Told.of Go.Proofs.Tryz.func93 (by decide+kernel)
def ac7:ak Go.Proofs.Tryz.prog 93=true:=by decide+kernel
def ale:Told Go.Proofs.Tryz.prog 95 Ei [.t 4] 2:=Told.of Go.Proofs.Tryz.func95 (by decide+kernel)
def ac8:ak Go.Proofs.Tryz.prog 95=true:=by decide+kernel
def alf:Told Go.Proofs.Tryz.prog 96 wP [.t 4] 2:=Told.of Go.Proofs.Tryz.func96 (by decide+kernel)
def ac9:ak Go.Proofs.Tryz.prog 96=true:=by decide+kernel
def alg:Told Go.Proofs.Tryz.prog 97 wQ [.t 4] 2:=Told.of Go.Proofs.Tryz.func97 (by decide+kernel)
def ada:ak Go.Proofs.Tryz.prog 97=true:=by decide+kernel
def alh:Told Go.Proofs.Tryz.prog 98 Ay [.t 4] 2:=Told.of Go.Proofs.Tryz.func98 (by decide+kernel)
def adb:ak Go.Proofs.Tryz.prog 98=true:=by decide+kernel
def ali:Told Go.Proofs.Tryz.prog 99 wC [.t 4] 2:=Told.of Go.Proofs.Tryz.func99 (by decide+kernel)
def ade:ak Go.Proofs.Tryz.prog 99=true:=by decide+kernel
def ahV:Told Go.Proofs.Tryz.prog 100 tS [.t 4] 2:=Told.of Go.Proofs.Tryz.func100 (by decide+kernel)
def ZH:ak Go.Proofs.Tryz.prog 100=true:=by decide+kernel
def ahW:Told Go.Proofs.Tryz.prog 101 Av [.t 4] 2:=Told.of Go.Proofs.Tryz.func101 (by decide+kernel)
def ZI:ak Go.Proofs.Tryz.prog 101=true:=by decide+kernel
def ahX:Told Go.Proofs.Tryz.prog 102 rH [.t 4] 2:=Told.of Go.Proofs.Tryz.func102 (by decide+kernel)
def ZJ:ak Go.Proofs.Tryz.prog 102=true:=by decide+kernel
def ahY:Told Go.Proofs.Tryz.prog 103 wJ [.t 4] 2:=Told.of Go.Proofs.Tryz.func103 (by decide+kernel)
def ZK:ak Go.Proofs.Tryz.prog 103=true:=by decide+kernel
def ahZ:Told Go.Proofs.Tryz.prog 104 pX [.t 2] 1:=Told.of Go.Proofs.Tryz.func104 (by decide+kernel)
def ZL:ak Go.Proofs.Tryz.prog 104=true:=by decide+kernel
def ah0:Told Go.Proofs.Tryz.prog 105 uw [.t 2] 1:=Told.of Go.Proofs.Tryz.func105 (by decide+kernel)
def ZM:ak Go.Proofs.Tryz.prog 105=true:=by decide+kernel
def ah1:Told Go.Proofs.Tryz.prog 106 Gb [.t 2] 1:=Told.of Go.Proofs.Tryz.func106 (by decide+kernel)
def ZN:ak Go.Proofs.Tryz.prog 106=true:=by decide+kernel
def ah2:Told Go.Proofs.Tryz.prog 107 uo [.t 2] 1:=Told.of Go.Proofs.Tryz.func107 (by decide+kernel)
def ZO:ak Go.Proofs.Tryz.prog 107=true:=by decide+kernel
def ah3:Told Go.Proofs.Tryz.prog 108 GI [.t 2] 1:=Told.of Go.Proofs.Tryz.func108 (by decide+kernel)
def ZP:ak Go.Proofs.Tryz.prog 108=true:=by decide+kernel
def ah4:Told Go.Proofs.Tryz.prog 109 xJ [.t 4] 2:=Told.of Go.Proofs.Tryz.func109 (by decide+kernel)
def ZQ:ak Go.Proofs.Tryz.prog 109=true:=by decide+kernel
def ah5:Told Go.Proofs.Tryz.prog 110 Gq [.t 2] 1:=Told.of Go.Proofs.Tryz.func110 (by decide+kernel)
def ZR:ak Go.Proofs.Tryz.prog 110=true:=by decide+kernel
def ah6:Told Go.Proofs.Tryz.prog 111 ur [.t 2] 1:=Told.of Go.Proofs.Tryz.func111 (by decide+kernel)
def ZS:ak Go.Proofs.Tryz.prog 111=true:=by decide+kernel
def ah7:Told Go.Proofs.Tryz.prog 112 xC [.t 4] 2:=Told.of Go.Proofs.Tryz.func112 (by decide+kernel)
def ZT:ak Go.Proofs.Tryz.prog 112=true:=by decide+kernel
def ah8:Told Go.Proofs.Tryz.prog 113 F5 [.c 2 6 true 171] 1:=Told.of Go.Proofs.Tryz.func113 (by decide+kernel)
def ZU:ak Go.Proofs.Tryz.prog 113=true:=by decide+kernel
def ah9:Told Go.Proofs.Tryz.prog 114 F9 [.c 0 2 true 39] 0:=Told.of Go.Proofs.Tryz.func114 (by decide+kernel)
def ZV:ak Go.Proofs.Tryz.prog 114=true:=by decide+kernel
def aia:Told Go.Proofs.Tryz.prog 115 pY [.c 2 4 true 75,.t 3] 1:=Told.of Go.Proofs.Tryz.func115 (by decide+kernel)
def ZW:ak Go.Proofs.Tryz.prog 115=true:=by decide+kernel
def aib:Told Go.Proofs.Tryz.prog 116 BP [.t 4,.t 5] 2:=Told.of Go.Proofs.Tryz.func116 (by decide+kernel)
def ZX:ak Go.Proofs.Tryz.prog 116=true:=by decide+kernel
def aic:Told Go.Proofs.Tryz.prog 117 GG [.t 2] 1:=Told.of Go.Proofs.Tryz.func117 (by decide+kernel)
def ZY:ak Go.Proofs.Tryz.prog 117=true:=by decide+kernel
def aid:Told Go.Proofs.Tryz.prog 118 rV [.t 2,.t 3] 1:=Told.of Go.Proofs.Tryz.func118 (by decide+kernel)
def ZZ:ak Go.Proofs.Tryz.prog 118=true:=by decide+kernel
def aie:Told Go.Proofs.Tryz.prog 119 xw [.t 4] 2:=Told.of Go.Proofs.Tryz.func119 (by decide+kernel)
def Z0:ak Go.Proofs.Tryz.prog 119=true:=by decide+kernel
def aih:Told Go.Proofs.Tryz.prog 120 oB [.c 2 3 true 61,.t 3] 1:=Told.of Go.Proofs.Tryz.func120 (by decide+kernel)
def Z2:ak Go.Proofs.Tryz.prog 120=true:=by decide+kernel
def aii:Told Go.Proofs.Tryz.prog 121 nD [.t 4] 2:=Told.of Go.Proofs.Tryz.func121 (by decide+kernel)
def Z3:ak Go.Proofs.Tryz.prog 121=true:=by decide+kernel
def aij:Told Go.Proofs.Tryz.prog 122 xu [.t 2] 1:=Told.of Go.Proofs.Tryz.func122 (by decide+kernel)
def Z4:ak Go.Proofs.Tryz.prog 122=true:=by decide+kernel
def aik:Told Go.Proofs.Tryz.prog 123 BF [.t 2] 1:=Told.of Go.Proofs.Tryz.func123 (by decide+kernel)
def Z5:ak Go.Proofs.Tryz.prog 123=true:=by decide+kernel
def ail:Told Go.Proofs.Tryz.prog 124 Ft [.t 2] 1:=Told.of Go.Proofs.Tryz.func124 (by decide+kernel)
def Z6:ak Go.Proofs.Tryz.prog 124=true:=by decide+kernel
def aim:Told Go.Proofs.Tryz.prog 125 Fu [.t 2] 1:=Told.of Go.Proofs.Tryz.func125 (by decide+kernel)
def Z7:ak Go.Proofs.Tryz.prog 125=true:=by decide+kernel
def ain:Told Go.Proofs.Tryz.prog 126 Fh [.c 2 9 true 65] 1:=Told.of Go.Proofs.Tryz.func126 (by decide+kernel)
def Z8:ak Go.Proofs.Tryz.prog 126=true:=by decide+kernel
def aio:Told Go.Proofs.Tryz.prog 127 E7 [.c 2 4 true 75] 1:=Told.of Go.Proofs.Tryz.func127 (by decide+kernel)
def Z9:ak Go.Proofs.Tryz.prog 127=true:=by decide+kernel
def aip:Told Go.Proofs.Tryz.prog 128 Fm [.c 2 4 true 103] 1:=Told.of Go.Proofs.Tryz.func128 (by decide+kernel)
def aac:ak Go.Proofs.Tryz.prog 128=true:=by decide+kernel
def aiq:Told Go.Proofs.Tryz.prog 129 Ff [.t 2] 1:=Told.of Go.Proofs.Tryz.func129 (by decide+kernel)
def aad:ak Go.Proofs.Tryz.prog 129=true:=by decide+kernel
def ais:Told Go.Proofs.Tryz.prog 130 Fi [.c 2 7 true 63] 1:=Told.of Go.Proofs.Tryz.func130 (by decide+kernel)
def aaf:ak Go.Proofs.Tryz.prog 130=true:=by decide+kernel
def ait:Told Go.Proofs.Tryz.prog 131 Fo [.c 2 3 true 61] 1:=Told.of Go.Proofs.Tryz.func131 (by decide+kernel)
def aag:ak Go.Proofs.Tryz.prog 131=true:=by decide+kernel
def aiu:Told Go.Proofs.Tryz.prog 132 EE [.t 6] 3:=Told.of Go.Proofs.Tryz.func132 (by decide+kernel)
def aah:ak Go.Proofs.Tryz.prog 132=true:=by decide+kernel
def aiv:Told Go.Proofs.Tryz.prog 133 vS [.t 2] 1:=Told.of Go.Proofs.Tryz.func133 (by decide+kernel)
def aai:ak Go.Proofs.Tryz.prog 133=true:=by decide+kernel
def aiw:Told Go.Proofs.Tryz.prog 134 l6 [.t 2] 1:=Told.of Go.Proofs.Tryz.func134 (by decide+kernel)
def aaj:ak Go.Proofs.Tryz.prog 134=true:=by decide+kernel
def aix:Told Go.Proofs.Tryz.prog 135 tC [.t 4] 2:=Told.of Go.Proofs.Tryz.func135 (by decide+kernel)
def aak:ak Go.Proofs.Tryz.prog 135=true:=by decide+kernel
def aiy:Told Go.Proofs.Tryz.prog 136 pz [.t 2] 1:=Told.of Go.Proofs.Tryz.func136 (by decide+kernel)
def aal:ak Go.Proofs.Tryz.prog 136=true:=by decide+kernel
def aiz:Told Go.Proofs.Tryz.prog 137 EH [.t 2] 1:=Told.of Go.Proofs.Tryz.func137 (by decide+kernel)
def aam:ak Go.Proofs.Tryz.prog 137=true:=by decide+kernel
def aiA:Told Go.Proofs.Tryz.prog 138 Ep [.t 2] 1:=Told.of Go.Proofs.Tryz.func138 (by decide+kernel)
def aan:ak Go.Proofs.Tryz.prog 138=true:=by decide+kernel
def aiB:Told Go.Proofs.Tryz.prog 139 mV [.t 2,.t 3,.t 4] 1:=Told.of Go.Proofs.Tryz.func139 (by decide+kernel)
def aao:ak Go.Proofs.Tryz.prog 139=true:=by decide+kernel
def aiD:Told Go.Proofs.Tryz.prog 140 Ef [.t 4] 2:=Told.of Go.Proofs.Tryz.func140 (by decide+kernel)
def aaq:ak Go.Proofs.Tryz.prog 140=true:=by decide+kernel
def aiE:Told Go.Proofs.Tryz.prog 141 tD [.c 2 4 true 75,.t 3] 1:=Told.of Go.Proofs.Tryz.func141 (by decide+kernel)
def aar:ak Go.Proofs.Tryz.prog 141=true:=by decide+kernel
def aiF:Told Go.Proofs.Tryz.prog 142 vV [] 2:=Told.of Go.Proofs.Tryz.func142 (by decide+kernel)
def aas:ak Go.Proofs.Tryz.prog 142=true:=by decide+kernel
def aiG:Told Go.Proofs.Tryz.prog 143 n6 [.c 2 7 true 63,.t 3] 1:=Told.of Go.Proofs.Tryz.func143 (by decide+kernel)
def aat:ak Go.Proofs.Tryz.prog 143=true:=by decide+kernel
def aiH:Told Go.Proofs.Tryz.prog 144 Hj [] 2:=Told.of Go.Proofs.Tryz.func144 (by decide+kernel)
def aau:ak Go.Proofs.Tryz.prog 144=true:=by decide+kernel
def aiI:Told Go.Proofs.Tryz.prog 145 Em [.t 4] 2:=Told.of Go.Proofs.Tryz.func145 (by decide+kernel)
def aav:ak Go.Proofs.Tryz.prog 145=true:=by decide+kernel
def aiJ:Told Go.Proofs.Tryz.prog 146 He [.t 4] 2:=Told.of Go.Proofs.Tryz.func146 (by decide+kernel)
def aaw:ak Go.Proofs.Tryz.prog 146=true:=by decide+kernel
def aiK:Told Go.Proofs.Tryz.prog 147 Cw [.t 4] 2:=Told.of Go.Proofs.Tryz.func147 (by decide+kernel)
def aax:ak Go.Proofs.Tryz.prog 147=true:=by decide+kernel
def aiL:Told Go.Proofs.Tryz.prog 148 Hi [.t 4] 2:=Told.of Go.Proofs.Tryz.func148 (by decide+kernel)
def aay:ak Go.Proofs.Tryz.prog 148=true:=by decide+kernel
def aiM:Told Go.Proofs.Tryz.prog 149 EG [.t 2] 1:=Told.of Go.Proofs.Tryz.func149 (by decide+kernel)
def aaz:ak Go.Proofs.Tryz.prog 149=true:=by decide+kernel
def aiP:Told Go.Proofs.Tryz.prog 151 EO [.t 4] 2:=Told.of Go.Proofs.Tryz.func151 (by decide+kernel)
def aaB:ak Go.Proofs.Tryz.prog 151=true:=by decide+kernel
def aiQ:Told Go.Proofs.Tryz.prog 152 E3 [.t 4] 2:=Told.of Go.Proofs.Tryz.func152 (by decide+kernel)
def aaC:ak Go.Proofs.Tryz.prog 152=true:=by decide+kernel
def aiR:Told Go.Proofs.Tryz.prog 153 E4 [.t 4] 2:=Told.of Go.Proofs.Tryz.func153 (by decide+kernel)
def aaD:ak Go.Proofs.Tryz.prog 153=true:=by decide+kernel
def aiS:Told Go.Proofs.Tryz.prog 154 tN [.t 4] 2:=Told.of Go.Proofs.Tryz.func154 (by decide+kernel)
def aaE:ak Go.Proofs.Tryz.prog 154=true:=by decide+kernel
def aiT:Told Go.Proofs.Tryz.prog 155 rD [.t 4] 2:=Told.of Go.Proofs.Tryz.func155 (by decide+kernel)
def aaF:ak Go.Proofs.Tryz.prog 155=true:=by decide+kernel
def aiU:Told Go.Proofs.Tryz.prog 156 rF [.t 4] 2:=Told.of Go.Proofs.Tryz.func156 (by decide+kernel)
def aaG:ak Go.Proofs.Tryz.prog 156=true:=by decide+kernel
def aiV:Told Go.Proofs.Tryz.prog 157 EZ [.t 4] 2:=Told.of Go.Proofs.Tryz.func157 (by decide+kernel)
def aaH:ak Go.Proofs.Tryz.prog 157=true:=by decide+kernel
def aiW:Told Go.Proofs.Tryz.prog 158 pN [.t 4] 2:=Told.of Go.Proofs.Tryz.func158 (by decide+kernel)
def aaI:ak Go.Proofs.Tryz.prog 158=true:=by decide+kernel
def aiX:Told Go.Proofs.Tryz.prog 159 tO [.t 4] 2:=Told.of Go.Proofs.Tryz.func159 (by decide+kernel)
def aaJ:ak Go.Proofs.Tryz.prog 159=true:=by decide+kernel
def aiZ:Told Go.Proofs.Tryz.prog 165 D9 [.c 2 6 true 171] 1:=Told.of Go.Proofs.Tryz.func165 (by decide+kernel)
def aaL:ak Go.Proofs.Tryz.prog 165=true:=by decide+kernel
def ai1:Told Go.Proofs.Tryz.prog 170 pH [.t 4] 2:=Told.of Go.Proofs.Tryz.func170 (by decide+kernel)
def aaN:ak Go.Proofs.Tryz.prog 170=true:=by decide+kernel
def ai2:Told Go.Proofs.Tryz.prog 171 AD [.t 4] 2:=Told.of Go.Proofs.Tryz.func171 (by decide+kernel)
def aaO:ak Go.Proofs.Tryz.prog 171=true:=by decide+kernel
def ai3:Told Go.Proofs.Tryz.prog 172 wE [.t 4] 2:=Told.of Go.Proofs.Tryz.func172 (by decide+kernel)
def aaP:ak Go.Proofs.Tryz.prog 172=true:=by decide+kernel
def ai4:Told Go.Proofs.Tryz.prog 173 Gn [.t 2] 1:=Told.of Go.Proofs.Tryz.func173 (by decide+kernel)
def aaQ:ak Go.Proofs.Tryz.prog 173=true:=by decide+kernel
def ai5:Told Go.Proofs.Tryz.prog 174 BX [.t 4] 2:=Told.of Go.Proofs.Tryz.func174 (by decide+kernel)
def aaR:ak Go.Proofs.Tryz.prog 174=true:=by decide+kernel
def ai6:Told Go.Proofs.Tryz.prog 175 Bv [.t 4,.t 5] 2:=Told.of Go.Proofs.Tryz.func175 (by decide+kernel)
def aaS:ak Go.Proofs.Tryz.prog 175=true:=by decide+kernel
def ai7:Told Go.Proofs.Tryz.prog 176 Gl [.t 2] 1:=Told.of Go.Proofs.Tryz.func176 (by decide+kernel)
def aaT:ak Go.Proofs.Tryz.prog 176=true:=by decide+kernel
def ai8:Told Go.Proofs.Tryz.prog 177 Gf [.t 2] 1:=Told.of Go.Proofs.Tryz.func177 (by decide+kernel)
def aaU:ak Go.Proofs.Tryz.prog 177=true:=by decide+kernel
def ai9:Told Go.Proofs.Tryz.prog 178 Gp [.t 2] 1:=Told.of Go.Proofs.Tryz.func178 (by decide+kernel)
def aaV:ak Go.Proofs.Tryz.prog 178=true:=by decide+kernel
def aja:Told Go.Proofs.Tryz.prog 179 F6 [.c 2 6 true 171] 1:=Told.of Go.Proofs.Tryz.func179 (by decide+kernel)
def aaW:ak Go.Proofs.Tryz.prog 179=true:=by decide+kernel
def ajc:Told Go.Proofs.Tryz.prog 180 Bp [.t 2] 1:=Told.of Go.Proofs.Tryz.func180 (by decide+kernel)
def aaY:ak Go.Proofs.Tryz.prog 180=true:=by decide+kernel
def ajd:Told Go.Proofs.Tryz.prog 181 BR [.t 2] 1:=Told.of Go.Proofs.Tryz.func181 (by decide+kernel)
def aaZ:ak Go.Proofs.Tryz.prog 181=true:=by decide+kernel
def aje:Told Go.Proofs.Tryz.prog 182 Gm [.t 2] 1:=Told.of Go.Proofs.Tryz.func182 (by decide+kernel)
def aa0:ak Go.Proofs.Tryz.prog 182=true:=by decide+kernel
def ajf:Told Go.Proofs.Tryz.prog 183 B0 [.t 2,.t 3] 1:=Told.of Go.Proofs.Tryz.func183 (by decide+kernel)
def aa1:ak Go.Proofs.Tryz.prog 183=true:=by decide+kernel
def ajg:Told Go.Proofs.Tryz.prog 184 GF [.t 2] 1:=Told.of Go.Proofs.Tryz.func184 (by decide+kernel)
def aa2:ak Go.Proofs.Tryz.prog 184=true:=by decide+kernel
def ajh:Told Go.Proofs.Tryz.prog 185 Gc [.t 2] 1:=Told.of Go.Proofs.Tryz.func185 (by decide+kernel)
def aa3:ak Go.Proofs.Tryz.prog 185=true:=by decide+kernel
def aji:Told Go.Proofs.Tryz.prog 186 Fv [.c 2 2 true 143] 1:=Told.of Go.Proofs.Tryz.func186 (by decide+kernel)
def aa4:ak Go.Proofs.Tryz.prog 186=true:=by decide+kernel
def ajj:Told Go.Proofs.Tryz.prog 187 Fa [.t 2] 1:=Told.of Go.Proofs.Tryz.func187 (by decide+kernel)
def aa5:ak Go.Proofs.Tryz.prog 187=true:=by decide+kernel
def ajk:Told Go.Proofs.Tryz.prog 188 wg [.t 2] 1:=Told.of Go.Proofs.Tryz.func188 (by decide+kernel)
def aa6:ak Go.Proofs.Tryz.prog 188=true:=by decide+kernel
def ajl:Told Go.Proofs.Tryz.prog 189 Eg [.t 2] 1:=Told.of Go.Proofs.Tryz.func189 (by decide+kernel)
def aa7:ak Go.Proofs.Tryz.prog 189=true:=by decide+kernel
def ajn:Told Go.Proofs.Tryz.prog 190 tJ [.t 2] 1:=Told.of Go.Proofs.Tryz.func190 (by decide+kernel)
def aa9:ak Go.Proofs.Tryz.prog 190=true:=by decide+kernel
def ajo:Told Go.Proofs.Tryz.prog 191 EN [.t 2] 1:=Told.of Go.Proofs.Tryz.func191 (by decide+kernel)
def abb:ak Go.Proofs.Tryz.prog 191=true:=by decide+kernel
def ajp:Told Go.Proofs.Tryz.prog 192 tG [.t 2] 1:=Told.of Go.Proofs.Tryz.func192 (by decide+kernel)
def abd:ak Go.Proofs.Tryz.prog 192=true:=by decide+kernel
def ajq:Told Go.Proofs.Tryz.prog 193 Ew [.t 2] 1:=Told.of Go.Proofs.Tryz.func193 (by decide+kernel)
def abe:ak Go.Proofs.Tryz.prog 193=true:=by decide+kernel
def ajr:Told Go.Proofs.Tryz.prog 194 EF [.t 2] 1:=Told.of Go.Proofs.Tryz.func194 (by decide+kernel)
def abf:ak Go.Proofs.Tryz.prog 194=true:=by decide+kernel
def ajs:Told Go.Proofs.Tryz.prog 195 Hh [.t 4] 2:=Told.of Go.Proofs.Tryz.func195 (by decide+kernel)
def abg:ak Go.Proofs.Tryz.prog 195=true:=by decide+kernel
def ajt:Told Go.Proofs.Tryz.prog 196 Eu [.t 2] 1:=Told.of Go.Proofs.Tryz.func196 (by decide+kernel)
def abh:ak Go.Proofs.Tryz.prog 196=true:=by decide+kernel
def aju:Told Go.Proofs.Tryz.prog 197 Eo [.t 3] 2:=Told.of Go.Proofs.Tryz.func197 (by decide+kernel)
def abi:ak Go.Proofs.Tryz.prog 197=true:=by decide+kernel
def ajw:Told Go.Proofs.Tryz.prog 201 vR [.t 4] 2:=Told.of Go.Proofs.Tryz.func201 (by decide+kernel)
def abk:ak Go.Proofs.Tryz.prog 201=true:=by decide+kernel
def ajx:Told Go.Proofs.Tryz.prog 202 Ez [.t 2] 1:=Told.of Go.Proofs.Tryz.func202 (by decide+kernel)
def abl:ak Go.Proofs.Tryz.prog 202=true:=by decide+kernel
def ajy:Told Go.Proofs.Tryz.prog 203 zF [.t 2] 1:=Told.of Go.Proofs.Tryz.func203 (by decide+kernel)
def abm:ak Go.Proofs.Tryz.prog 203=true:=by decide+kernel
def ajz:Told Go.Proofs.Tryz.prog 204 n7 [.c 2 3 true 61,.t 3] 1:=Told.of Go.Proofs.Tryz.func204 (by decide+kernel)
def abn:ak Go.Proofs.Tryz.prog 204=true:=by decide+kernel
def ajA:Told Go.Proofs.Tryz.prog 205 zR [.t 2] 1:=Told.of Go.Proofs.Tryz.func205 (by decide+kernel)
def abo:ak Go.Proofs.Tryz.prog 205=true:=by decide+kernel
def ajB:Told Go.Proofs.Tryz.prog 206 Hp [] 3:=Told.of Go.Proofs.Tryz.func206 (by decide+kernel)
def abp:ak Go.Proofs.Tryz.prog 206=true:=by decide+kernel
def ajC:Told Go.Proofs.Tryz.prog 207 Hf [.t 2] 1:=Told.of Go.Proofs.Tryz.func207 (by decide+kernel)
def abq:ak Go.Proofs.Tryz.prog 207=true:=by decide+kernel
def ajD:Told Go.Proofs.Tryz.prog 208 wA [.t 4] 2:=Told.of Go.Proofs.Tryz.func208 (by decide+kernel)
def abr:ak Go.Proofs.Tryz.prog 208=true:=by decide+kernel
def ajE:Told Go.Proofs.Tryz.prog 209 EX [.t 4] 2:=Told.of Go.Proofs.Tryz.func209 (by decide+kernel)
def abt:ak Go.Proofs.Tryz.prog 209=true:=by decide+kernel
def ajG:Told Go.Proofs.Tryz.prog 218 zK [.t 4,.t 5] 2:=Told.of Go.Proofs.Tryz.func218 (by decide+kernel)
def abv:ak Go.Proofs.Tryz.prog 218=true:=by decide+kernel
def ajH:Told Go.Proofs.Tryz.prog 219 Ea [.c 2 6 true 171] 1:=Told.of Go.Proofs.Tryz.func219 (by decide+kernel)
def abw:ak Go.Proofs.Tryz.prog 219=true:=by decide+kernel
def ajJ:Told Go.Proofs.Tryz.prog 228 zN [.t 2] 1:=Told.of Go.Proofs.Tryz.func228 (by decide+kernel)
def aby:ak Go.Proofs.Tryz.prog 228=true:=by decide+kernel
def ajL:Told Go.Proofs.Tryz.prog 230 wF [.t 4] 2:=Told.of Go.Proofs.Tryz.func230 (by decide+kernel)
def abA:ak Go.Proofs.Tryz.prog 230=true:=by decide+kernel
def ajM:Told Go.Proofs.Tryz.prog 231 xH [.t 2,.t 3] 1:=Told.of Go.Proofs.Tryz.func231 (by decide+kernel)
def abB:ak Go.Proofs.Tryz.prog 231=true:=by decide+kernel
def ajN:Told Go.Proofs.Tryz.prog 232 Fb [.c 2 2 true 216] 1:=Told.of Go.Proofs.Tryz.func232 (by decide+kernel)
def abC:ak Go.Proofs.Tryz.prog 232=true:=by decide+kernel
def ajO:Told Go.Proofs.Tryz.prog 233 Ey [.t 4] 2:=Told.of Go.Proofs.Tryz.func233 (by decide+kernel)
def abD:ak Go.Proofs.Tryz.prog 233=true:=by decide+kernel
def ajP:Told Go.Proofs.Tryz.prog 234 EC [.t 4] 2:=Told.of Go.Proofs.Tryz.func234 (by decide+kernel)
def abE:ak Go.Proofs.Tryz.prog 234=true:=by decide+kernel
def ajQ:Told Go.Proofs.Tryz.prog 235 Ev [.t 2] 1:=Told.of Go.Proofs.Tryz.func235 (by decide+kernel)
def abF:ak Go.Proofs.Tryz.prog 235=true:=by decide+kernel
def ajR:Told Go.Proofs.Tryz.prog 236 Es [.t 2] 1:=Told.of Go.Proofs.Tryz.func236 (by decide+kernel)
def abG:ak Go.Proofs.Tryz.prog 236=true:=by decide+kernel
def ajS:Told Go.Proofs.Tryz.prog 237 Ej [.t 2] 1:=Told.of Go.Proofs.Tryz.func237 (by decide+kernel)
def abH:ak Go.Proofs.Tryz.prog 237=true:=by decide+kernel
def ajU:Told Go.Proofs.Tryz.prog 242 Et [.t 2] 1:=Told.of Go.Proofs.Tryz.func242 (by decide+kernel)
def abJ:ak Go.Proofs.Tryz.prog 242=true:=by decide+kernel
def ajV:Told Go.Proofs.Tryz.prog 243 ru [.t 2,.t 3,.t 4,.t 5] 1:=Told.of Go.Proofs.Tryz.func243 (by decide+kernel)
def abK:ak Go.Proofs.Tryz.prog 243=true:=by decide+kernel
def ajW:Told Go.Proofs.Tryz.prog 244 zS [.t 2] 1:=Told.of Go.Proofs.Tryz.func244 (by decide+kernel)
def abL:ak Go.Proofs.Tryz.prog 244=true:=by decide+kernel
def ajX:Told Go.Proofs.Tryz.prog 245 Cx [] 4:=Told.of Go.Proofs.Tryz.func245 (by decide+kernel)
def abM:ak Go.Proofs.Tryz.prog 245=true:=by decide+kernel
def ajY:Told Go.Proofs.Tryz.prog 246 TJ [] 5:=Told.of Go.Proofs.Tryz.func246 (by decide+kernel)
def abN:ak Go.Proofs.Tryz.prog 246=true:=by decide+kernel
def ajZ:Told Go.Proofs.Tryz.prog 247 wz [.t 4] 2:=Told.of Go.Proofs.Tryz.func247 (by decide+kernel)
def abO:ak Go.Proofs.Tryz.prog 247=true:=by decide+kernel
def aj1:Told Go.Proofs.Tryz.prog 251 pF [] 2:=Told.of Go.Proofs.Tryz.func251 (by decide+kernel)
def abQ:ak Go.Proofs.Tryz.prog 251=true:=by decide+kernel
def aj2:Told Go.Proofs.Tryz.prog 257 Cu [.t 4] 2:=Told.of Go.Proofs.Tryz.func257 (by decide+kernel)
def abR:ak Go.Proofs.Tryz.prog 257=true:=by decide+kernel
def aj3:Told Go.Proofs.Tryz.prog 258 EB [.t 3] 2:=Told.of Go.Proofs.Tryz.func258 (by decide+kernel)
def abS:ak Go.Proofs.Tryz.prog 258=true:=by decide+kernel
def aj5:Told Go.Proofs.Tryz.prog 268 EJ [.t 2] 1:=Told.of Go.Proofs.Tryz.func268 (by decide+kernel)
def abU:ak Go.Proofs.Tryz.prog 268=true:=by decide+kernel
def aj6:Told Go.Proofs.Tryz.prog 269 Tz [] 5:=Told.of Go.Proofs.Tryz.func269 (by decide+kernel)
def abV:ak Go.Proofs.Tryz.prog 269=true:=by decide+kernel
def aka:Told Go.Proofs.Tryz.prog 294 TC [] 5:=Told.of Go.Proofs.Tryz.func294 (by decide+kernel)
def abZ:ak Go.Proofs.Tryz.prog 294=true:=by decide+kernel
def aiO:Told Go.Proofs.Tryz.prog 150 (yJ 2 24) [.t 2] 1:=Told.of Go.Proofs.Tryz.func150 (by decide+kernel)
def ak3:Told Go.Proofs.Tryz.prog 83 (yJ 1 16) [.t 2] 1:=Told.of Go.Proofs.Tryz.func83 (by decide+kernel)
set_option maxHeartbeats 4000000 in
def alZ:TT.Ok Go.Proofs.Tryz.prog:=by
  refine⟨λf F h=>?_,λf F h=>?_⟩
  · have h:_=_:=h
    rcases Option.or_eq_some_iff.1 h with h|⟨_,h⟩
    · unfold HN at h
      split at h
      · cases h;exact akb
      · cases h;exact aks
      · cases h;exact akD
      · cases h;exact akO
      · cases h;exact akZ
      · cases h;exact ala
      · cases h;exact aif
      · cases h;exact air
      · cases h;exact aiC
      · cases h;exact aiN
      · cases h;exact aiY
      · cases h;exact ai0
      · cases h;exact ajb
      · cases h;exact ajm
      · cases h;exact ajv
      · cases h;exact ajF
      · cases h;exact ajI
      · cases h;exact ajK
      · cases h;exact ajT
      · cases h;exact aj0
      · cases h;exact aj4
      · cases h;exact aj7
      · cases h;exact aj8
      · cases h;exact aj9
      · cases h;exact akc
      · cases h;exact akd
      · cases h;exact ake
      · cases h;exact akf
      · cases h;exact akg
      · cases h;exact akh
      · cases h;exact aki
      · cases h;exact akj
      · cases h;exact akk
      · cases h;exact akl
      · cases h;exact akm
      · cases h;exact akn
      · cases h;exact ako
      · cases h;exact akp
      · cases h;exact akq
      · cases h;exact akr
      · cases h;exact akt
      · cases h;exact aku
      · cases h;exact akv
      · cases h;exact akw
      · cases h;exact akx
      · cases h;exact aky
      · cases h;exact akz
      · cases h;exact akA
      · cases h;exact akB
      · cases h;exact akC
      · cases h;exact akE
      · cases h;exact akF
      · cases h;exact akG
      · cases h;exact akH
      · cases h;exact akI
      · cases h;exact akJ
      · cases h;exact akK
      · cases h;exact akL
      · cases h;exact akM
      · cases h;exact akN
      · cases h;exact akP
      · cases h;exact akQ
      · cases h;exact akR
      · cases h;exact akS
      · cases h;exact akT
      · cases h;exact akU
      · cases h;exact akV
      · cases h;exact akW
      · cases h;exact akX
      · cases h;exact akY
      · cases h;exact ak0
      · cases h;exact ak1
      · cases h;exact ak2
      · cases h;exact ak4
      · cases h;exact ak5
      · cases h;exact ak6
      · cases h;exact ak7
      · cases h;exact ak8
      · cases h;exact ak9
      · cases h;exact alb
      · cases h;exact alc
      · cases h;exact ald
      · cases h;exact ale
      · cases h;exact alf
      · cases h;exact alg
      · cases h;exact alh
      · cases h;exact ali
      · cases h;exact ahV
      · cases h;exact ahW
      · cases h;exact ahX
      · cases h;exact ahY
      · cases h;exact ahZ
      · cases h;exact ah0
      · cases h;exact ah1
      · cases h;exact ah2
      · cases h;exact ah3
      · cases h;exact ah4
      · cases h;exact ah5
      · cases h;exact ah6
      · cases h;exact ah7
      · cases h;exact ah8
      · cases h;exact ah9
      · cases h;exact aia
      · cases h;exact aib
      · cases h;exact aic
      · cases h;exact aid
      · cases h;exact aie
      · cases h;exact aih
      · cases h;exact aii
      · cases h;exact aij
      · cases h;exact aik
      · cases h;exact ail
      · cases h;exact aim
      · cases h;exact ain
      · cases h;exact aio
      · cases h;exact aip
      · cases h;exact aiq
      · cases h;exact ais
      · cases h;exact ait
      · cases h;exact aiu
      · cases h
    unfold HO at h
    split at h
    · cases h;exact aiv
    · cases h;exact aiw
    · cases h;exact aix
    · cases h;exact aiy
    · cases h;exact aiz
    · cases h;exact aiA
    · cases h;exact aiB
    · cases h;exact aiD
    · cases h;exact aiE
    · cases h;exact aiF
    · cases h;exact aiG
    · cases h;exact aiH
    · cases h;exact aiI
    · cases h;exact aiJ
    · cases h;exact aiK
    · cases h;exact aiL
    · cases h;exact aiM
    · cases h;exact aiP
    · cases h;exact aiQ
    · cases h;exact aiR
    · cases h;exact aiS
    · cases h;exact aiT
    · cases h;exact aiU
    · cases h;exact aiV
    · cases h;exact aiW
    · cases h;exact aiX
    · cases h;exact aiZ
    · cases h;exact ai1
    · cases h;exact ai2
    · cases h;exact ai3
    · cases h;exact ai4
    · cases h;exact ai5
    · cases h;exact ai6
    · cases h;exact ai7
    · cases h;exact ai8
    · cases h;exact ai9
    · cases h;exact aja
    · cases h;exact ajc
    · cases h;exact ajd
    · cases h;exact aje
    · cases h;exact ajf
    · cases h;exact ajg
    · cases h;exact ajh
    · cases h;exact aji
    · cases h;exact ajj
    · cases h;exact ajk
    · cases h;exact ajl
    · cases h;exact ajn
    · cases h;exact ajo
    · cases h;exact ajp
    · cases h;exact ajq
    · cases h;exact ajr
    · cases h;exact ajs
    · cases h;exact ajt
    · cases h;exact aju
    · cases h;exact ajw
    · cases h;exact ajx
    · cases h;exact ajy
    · cases h;exact ajz
    · cases h;exact ajA
    · cases h;exact ajB
    · cases h;exact ajC
    · cases h;exact ajD
    · cases h;exact ajE
    · cases h;exact ajG
    · cases h;exact ajH
    · cases h;exact ajJ
    · cases h;exact ajL
    · cases h;exact ajM
    · cases h;exact ajN
    · cases h;exact ajO
    · cases h;exact ajP
    · cases h;exact ajQ
    · cases h;exact ajR
    · cases h;exact ajS
    · cases h;exact ajU
    · cases h;exact ajV
    · cases h;exact ajW
    · cases h;exact ajX
    · cases h;exact ajY
    · cases h;exact ajZ
    · cases h;exact aj1
    · cases h;exact aj2
    · cases h;exact aj3
    · cases h;exact aj5
    · cases h;exact aj6
    · cases h;exact aka
    · cases h
  · have h:_=_:=h
    rcases Option.or_eq_some_iff.1 h with h|⟨_,h⟩
    · unfold HN at h
      split at h
      · cases h;exact ab0
      · cases h;exact ack
      · cases h;exact acy
      · cases h;exact acJ
      · cases h;exact acU
      · cases h;exact ac4
      · cases h;exact Z1
      · cases h;exact aae
      · cases h;exact aap
      · cases h;exact aaA
      · cases h;exact aaK
      · cases h;exact aaM
      · cases h;exact aaX
      · cases h;exact aa8
      · cases h;exact abj
      · cases h;exact abu
      · cases h;exact abx
      · cases h;exact abz
      · cases h;exact abI
      · cases h;exact abP
      · cases h;exact abT
      · cases h;exact abW
      · cases h;exact abX
      · cases h;exact abY
      · cases h;exact ab1
      · cases h;exact ab2
      · cases h;exact ab3
      · cases h;exact ab4
      · cases h;exact ab5
      · cases h;exact ab6
      · cases h;exact ab7
      · cases h;exact ab8
      · cases h;exact ab9
      · cases h;exact acd
      · cases h;exact ace
      · cases h;exact acf
      · cases h;exact acg
      · cases h;exact ach
      · cases h;exact aci
      · cases h;exact acj
      · cases h;exact acm
      · cases h;exact acn
      · cases h;exact aco
      · cases h;exact acp
      · cases h;exact acq
      · cases h;exact acr
      · cases h;exact acs
      · cases h;exact acu
      · cases h;exact acv
      · cases h;exact acw
      · cases h;exact acz
      · cases h;exact acA
      · cases h;exact acB
      · cases h;exact acC
      · cases h;exact acD
      · cases h;exact acE
      · cases h;exact acF
      · cases h;exact acG
      · cases h;exact acH
      · cases h;exact acI
      · cases h;exact acK
      · cases h;exact acL
      · cases h;exact acM
      · cases h;exact acN
      · cases h;exact acO
      · cases h;exact acP
      · cases h;exact acQ
      · cases h;exact acR
      · cases h;exact acS
      · cases h;exact acT
      · cases h;exact acV
      · cases h;exact acW
      · cases h;exact acX
      · cases h;exact acY
      · cases h;exact acZ
      · cases h;exact ac0
      · cases h;exact ac1
      · cases h;exact ac2
      · cases h;exact ac3
      · cases h;exact ac5
      · cases h;exact ac6
      · cases h;exact ac7
      · cases h;exact ac8
      · cases h;exact ac9
      · cases h;exact ada
      · cases h;exact adb
      · cases h;exact ade
      · cases h;exact ZH
      · cases h;exact ZI
      · cases h;exact ZJ
      · cases h;exact ZK
      · cases h;exact ZL
      · cases h;exact ZM
      · cases h;exact ZN
      · cases h;exact ZO
      · cases h;exact ZP
      · cases h;exact ZQ
      · cases h;exact ZR
      · cases h;exact ZS
      · cases h;exact ZT
      · cases h;exact ZU
      · cases h;exact ZV
      · cases h;exact ZW
      · cases h;exact ZX
      · cases h;exact ZY
      · cases h;exact ZZ
      · cases h;exact Z0
      · cases h;exact Z2
      · cases h;exact Z3
      · cases h;exact Z4
      · cases h;exact Z5
      · cases h;exact Z6
      · cases h;exact Z7
      · cases h;exact Z8
      · cases h;exact Z9
      · cases h;exact aac
      · cases h;exact aad
      · cases h;exact aaf
      · cases h;exact aag
      · cases h;exact aah
      · cases h
    unfold HO at h
    split at h
    · cases h;exact aai
    · cases h;exact aaj
    · cases h;exact aak
    · cases h;exact aal
    · cases h;exact aam
    · cases h;exact aan
    · cases h;exact aao
    · cases h;exact aaq
    · cases h;exact aar
    · cases h;exact aas
    · cases h;exact aat
    · cases h;exact aau
    · cases h;exact aav
    · cases h;exact aaw
    · cases h;exact aax
    · cases h;exact aay
    · cases h;exact aaz
    · cases h;exact aaB
    · cases h;exact aaC
    · cases h;exact aaD
    · cases h;exact aaE
    · cases h;exact aaF
    · cases h;exact aaG
    · cases h;exact aaH
    · cases h;exact aaI
    · cases h;exact aaJ
    · cases h;exact aaL
    · cases h;exact aaN
    · cases h;exact aaO
    · cases h;exact aaP
    · cases h;exact aaQ
    · cases h;exact aaR
    · cases h;exact aaS
    · cases h;exact aaT
    · cases h;exact aaU
    · cases h;exact aaV
    · cases h;exact aaW
    · cases h;exact aaY
    · cases h;exact aaZ
    · cases h;exact aa0
    · cases h;exact aa1
    · cases h;exact aa2
    · cases h;exact aa3
    · cases h;exact aa4
    · cases h;exact aa5
    · cases h;exact aa6
    · cases h;exact aa7
    · cases h;exact aa9
    · cases h;exact abb
    · cases h;exact abd
    · cases h;exact abe
    · cases h;exact abf
    · cases h;exact abg
    · cases h;exact abh
    · cases h;exact abi
    · cases h;exact abk
    · cases h;exact abl
    · cases h;exact abm
    · cases h;exact abn
    · cases h;exact abo
    · cases h;exact abp
    · cases h;exact abq
    · cases h;exact abr
    · cases h;exact abt
    · cases h;exact abv
    · cases h;exact abw
    · cases h;exact aby
    · cases h;exact abA
    · cases h;exact abB
    · cases h;exact abC
    · cases h;exact abD
    · cases h;exact abE
    · cases h;exact abF
    · cases h;exact abG
    · cases h;exact abH
    · cases h;exact abJ
    · cases h;exact abK
    · cases h;exact abL
    · cases h;exact abM
    · cases h;exact abN
    · cases h;exact abO
    · cases h;exact abQ
    · cases h;exact abR
    · cases h;exact abS
    · cases h;exact abU
    · cases h;exact abV
    · cases h;exact abZ
    · cases h
def alY(htab:Lib.TabIs Go.Proofs.Tryz.prog Bs.W0 "internal/strconv.uint64pow10" .u64 Lib.pow10Tab) (hmax:∃m,Bs.W0.cell? ⟨0,0,none⟩=some (.int .i64 m)) (JE:∃te pe,Bs.W0.var? Go.Proofs.Tryz.prog "strconv.ErrSyntax" =some #[.iface te pe]) (ko:∃te pe,Bs.W0.var? Go.Proofs.Tryz.prog "strconv.ErrRange" =some #[.iface te pe]):LI.Sound Go.Proofs.Tryz.prog:=(pS (ZD λA cap fs w h1 h2 h3=>Go.Proofs.adj A cap fs w h1 h2 h3) (pS (afK λs w hw hs=>Go.Proofs.afF htab JE ko s w hw hs) (pS (OO aiO) (pS (OO ak3) (pS (aeC htab λn h0 h1 w ht=>Go.Proofs.Tryz.strconv_Itoa n h0 h1 w ht) (pS (Zb (g1:=0) hmax λs sep m w h1 h2=>Go.Proofs.Tryz.strings_Cut s sep m w h1 h2) (pS (Zc λs p w=>Go.Proofs.Tryz.strings_CutPrefix s p w) (pS (adG λs p w=>Go.Proofs.Tryz.strings_HasPrefix s p w) (pS (ahy (g1:=0) (t9:=_) hmax λs sep m w h1 h2 h3=>Go.Proofs.Tryz.strings_Split s sep m w h1 h2 h3) (alj λs c h w hs=>Go.Proofs.Tryz.strings_Trim_one s c h w hs))))))))))
end M
