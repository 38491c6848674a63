/- Each function of the table is the program's, and the library is as it is said to be; no conditions. -/
import Derived.Test.YtaaeoialiegmeaaGreatDoorProg
import Derived.Test.YtaaeoialiegmeaaGreatDoorLay
import Derived.Test.YtaaeoialiegmeaaGreatDoorTab
import Derived.Test.YtaaeoialiegmeaaGreatDoorMc
import Derived.WalkKit
import Derived.Lib.FrozenHead
import Derived.Lib.OthersKept
import Derived.Lib.Builder
set_option linter.defProp false
set_option linter.unusedSectionVars false
set_option linter.unusedVariables false
set_option linter.unusedSimpArgs false
set_option linter.unusedVariables false
set_option linter.unusedSectionVars false
set_option maxRecDepth 100000
namespace Go.Proofs
open Go.RowKit
set_option maxHeartbeats 2000000 in
set_option maxRecDepth 100000 in
def Xs(b:Nat)(w:World)(h0:w.cell? ⟨b,0,none⟩=some (.pointer (some ⟨b,0,none⟩))):
    Calls Tryz.prog 226 #[.pointer (some ⟨b,0,none⟩)] w λe w'=>e=.returned (.tuple #[])/\w'=w:=by obtain⟨j,hj,EF⟩:=kN.1 (show (Tryz.prog.info? 166).map (·.size)=some 2 by kernel_rfl);go_enter Tryz.func226,Tryz.ntmps226;go_wp2;rw[Lib.run_neq_ptr_same w _ Tryz.underlying164 hj];go_wp2;go_end0;exact⟨rfl,rfl⟩
set_option maxHeartbeats 2000000 in
set_option maxRecDepth 100000 in
def Xr(b:Nat)(w:World)(h0:w.cell? ⟨b,0,none⟩=some (.pointer none))(hsh:w.shape? b=some (166,2))(hfz:w.frozen? ⟨b,0,none⟩=false):
    Calls Tryz.prog 226 #[.pointer (some ⟨b,0,none⟩)] w λe w'=>e=.returned (.tuple #[])/\w'=w.setCell ⟨b,0,none⟩ (.pointer (some ⟨b,0,none⟩)):=by obtain⟨j,hj,EF⟩:=kN.1 (show (Tryz.prog.info? 166).map (·.size)=some 2 by kernel_rfl);go_enter Tryz.func226,Tryz.ntmps226;go_wp2;rw[Lib.run_to_unsafe w ⟨b,0,none⟩ Tryz.underlying164 Tryz.underlying230 hj (by rw[EF];decide) hsh (Nat.zero_lt_succ 1)];simp only[Result.andThen];rw[Oper.upon_value];go_wp2;rw[run_callFunc_extern Tryz.func258 (by kernel_rfl) (by kernel_rfl) (by kernel_rfl) (e:=Extern.AbiNoEscape.same) (by kernel_rfl)];rw[Lib.run_noEscape];simp only[Result.andThen];rw[Oper.upon_value];go_wp2;rw[Lib.run_from_unsafe w ⟨b,0,none⟩ Tryz.underlying230 Tryz.underlying164 hj hsh (by kernel_rfl)];simp only[Result.andThen];rw[Oper.upon_value];go_wp2;go_end0;exact⟨rfl,rfl⟩
def Xq(B b:Nat)(bs:List Value)(w:World)(h:Lib.IsBuilderF 166 5 B b bs w):
    Calls Tryz.prog 226 #[.pointer (some ⟨b,0,none⟩)] w λe w'=>e=.returned (.tuple #[])/\(Lib.BuilderAtF 166 5 B b (.pointer (some ⟨b,0,none⟩)) bs w'/\Below B w w'):=by
  rcases h with h|h
  · refine(Xr b w h.cell0 h.shape h.frozen0).mono ?_
    rintro e w' ⟨rfl,rfl⟩
    exact⟨rfl,h.used _,(Below.refl B w).setCell (p:=⟨b,0,none⟩) h.1 _⟩
  · refine(Xs b w h.cell0).mono ?_
    rintro e w' ⟨rfl,rfl⟩
    exact⟨rfl,h,Below.refl B _⟩
set_option maxHeartbeats 2000000 in
set_option maxRecDepth 100000 in
def Xt(B b:Nat)(bs:List Value)(s:ByteArray)(w:World)(h:Lib.IsBuilderF 166 5 B b bs w)(hlen:bs.length+s.size<=140737488355328)(hBw:B<=w.heap.size):
    Calls Tryz.prog 156 #[.pointer (some ⟨b,0,none⟩),.string s] w λe w'=>e=.returned (.tuple #[.int .i64 s.size,.nilIface])/\(Lib.BuilderAtF 166 5 B b (.pointer (some ⟨b,0,none⟩)) (bs++Lib.strCells s) w'/\Below B w w'):=by
  obtain⟨i0,hi,hz0,hz1,hz2⟩:=info_parts (P:=Tryz.prog) (e:=5) (z:=.int .u8 0) (size:=1) (bytes:=1) (by kernel_rfl);go_enter Tryz.func156,Tryz.ntmps156;go_wp2_with (go_at_call 226;refine(Xq B b bs _ h).mono ?_);rintro e w1 ⟨rfl,h1,jx⟩;obtain⟨hB,v,hbk,hown,hne⟩:=h1;have c0:w1.cell? ⟨b,0,none⟩=some (.pointer (some ⟨b,0,none⟩)):=by rw[Lib.cell_of_heap hbk];rfl
  have c1:w1.cell? ⟨b,1,none⟩=some v:=by rw[Lib.cell_of_heap hbk];rfl
  go_wp2_with (at_builtin;refine Lib.wpList_append_own_stringF _ rfl _ _ 22 9 rfl B 5 i0 Tryz.underlying22 Tryz.underlying9 hi hz0 hz1 hz2 _ _ _ rfl hown s rfl ?c3 ?c4 ?c5 ?_);case c3=>unfold maxLen;omega
  case c4=>omega
  case c5=>have:=jx.size;omega
  intro v' w2 hown' hgrow _
  have hlt:b<w1.heap.size:=by
    rcases gI b w1.heap.size with h'|h';· exact h'
    · simp[kP h'] at hbk
  have kn:w2.heap[b]?=some (.cells #[.pointer (some ⟨b,0,none⟩),v] 166 (0,0)):=by rw[hgrow.block b hlt (λe=>hne e.symm)];exact hbk
  have d0:w2.cell? ⟨b,0,none⟩=some (.pointer (some ⟨b,0,none⟩)):=by rw[Lib.cell_of_heap kn];rfl
  have d1:w2.cell? ⟨b,1,none⟩=some v:=by rw[Lib.cell_of_heap kn];rfl
  have f1:w2.frozen? ⟨b,1,none⟩=false:=Lib.frozen_of_heap kn 1
  obtain⟨ao,n',cap,rfl⟩:∃ao n' cap,v'=.slice ao n' cap:=by
    rcases hown'.2 with ⟨hv,_⟩|⟨g,cap,cur,fz,hv,_⟩;· exact⟨_,_,_,hv⟩
    · exact⟨_,_,_,hv⟩
  go_wp2;go_ret2;refine⟨rfl,?_,?_⟩;· exact Lib.BuilderAtF.put (T:=166) (e:=5) hB kn (bs':=bs++Lib.strCells s) (by simpa [Lib.strCells_length] using hown') (by decide)
  · exact(jx.grown hgrow (by have:=jx.size;omega) (λk hk=>(hown.lt k hk).1)).setCell (p:=⟨b,1,none⟩) hB _
set_option maxHeartbeats 4000000 in
set_option maxRecDepth 1000000 in
def abO(A:Option Addr)(cap:Nat)(fs:List (ByteArray×ByteArray))(w:World)
    (hc:∀i f,fs[i]?=some f->∃g o,A=some ⟨g,o,none⟩/\g<w.heap.size/\w.cell? ⟨g,o+i*2,none⟩=some (.string f.1)/\w.cell? ⟨g,o+i*2+1,none⟩=some (.string f.2))
    (hb:(M.jt fs).length<=140737488355328)(hl:fs.length<=140737488355328):
    Calls Tryz.prog 63 #[.slice A fs.length cap] w λe w'=>e=.returned (.string ⟨(M.jt fs).toArray⟩)/\Below w.heap.size w w':=by
  go_enter Tryz.func63,Tryz.ntmps63;go_wp2;go_loopw [8] (λvi wr=>∃k:Nat,vi=.int .i64 k/\k<=fs.length/\Lib.IsBuilderF 166 5 w.heap.size w.heap.size (Lib.byteCells (M.jt (fs.take k))) wr/\Below w.heap.size w wr) (λvi _=>fs.length - (intOf vi).toNat);case atStart=>exact⟨0,rfl,oQ _,Lib.IsBuilderF.of (Lib.fresh_isBuilder 166 5 w),(Below.refl _ w).alloc (eC _) _⟩
  case round=>
    obtain⟨k,rfl,hk,hI,Ae⟩:=hrel;have hsz:w.heap.size<=wr.heap.size:=Ae.size;by_cases hlt:k<fs.length
    · obtain⟨g,o,rfl,hg,hk1⟩:=hc k fs[k] (by simp[hlt])
      have c1:wr.cell? ⟨g,o+k*2,none⟩=some (.string fs[k].1):=by rw[Ae.cell (p:=⟨g,o+k*2,none⟩) hg];exact hk1.1
      have c2:wr.cell? ⟨g,o+k*2+1,none⟩=some (.string fs[k].2):=by rw[Ae.cell (p:=⟨g,o+k*2+1,none⟩) hg];exact hk1.2
      have hlt2:(k:Int)<fs.length:=by omega
      have hle:=M.abP hlt
      have htk:=M.Qy hlt
      have s1:¬9223372036854775807<fs[k].1.size+2:=by omega
      have s2:¬9223372036854775807<fs[k].1.size+2+fs[k].2.size:=by omega
      have s3:¬9223372036854775807<fs[k].1.size+2+fs[k].2.size+2:=by omega
      go_wp2_with (go_at_call 156;refine(Xt w.heap.size w.heap.size _ _ _ (hI.alloc _) ?_ ?_).mono ?_)
      · rw[Lib.byteCells_length]
        simp only[ByteArray.size_append]
        have e1:(⟨#[58,32]⟩:ByteArray).size=2:=rfl
        have e2:(⟨#[13,10]⟩:ByteArray).size=2:=rfl
        omega
      · simp only[World.alloc]
        simp
        omega
      rintro e W1 ⟨rfl,h1,b1⟩
      go_wp2
      go_roundw
      case rel=>
        refine⟨k+1,by go_num,by omega,?_,(Ae.alloc hsz _).trans b1⟩
        rw[htk,Lib.byteCells_append]
        refine Or.inr ?_
        have e:Lib.strCells (fs[k].1++⟨#[58,32]⟩++fs[k].2++⟨#[13,10]⟩)=Lib.byteCells (fs[k].1.data.toList++[58,32]++fs[k].2.data.toList++[13,10]):=by rw[Lib.strCells_eq];congr 1
        rw[<-e]
        exact h1
      case measure=>
        simp[intOf]
        omega
    · have hlt2:¬(k:Int)<fs.length:=by omega
      go_wp2_with (go_at_call 157;refine(Tryz.Builder_String_any_f w.heap.size w.heap.size _ _ hI hsz).mono ?_)
      rintro e W1 rfl h2 b1
      clear h2
      go_wp2
      go_ret
      have:k=fs.length:=by omega
      subst this
      rw[vF]
      exact⟨rfl,Ae.trans b1⟩
end Go.Proofs
namespace Go.Proofs
open Go.RowKit
set_option maxHeartbeats 2000000 in
set_option maxRecDepth 100000 in
def aev(s:ByteArray)(h:7<s.size)(w:World):
    Calls Go.Proofs.Tryz.prog 20 #[.string s] w λe w'=>e=.returned (.tuple #[.int .i64 0,.bool false])/\w'=w:=by go_enter Tryz.func20,Tryz.ntmps20;go_wp2;· go_ret2;exact⟨rfl,rfl⟩
set_option maxHeartbeats 2000000 in
set_option maxRecDepth 100000 in
def aex(s:ByteArray)(h:¬7<s.size)(v:Int)(hv:Lib.atoiAll s.data.toList=.ok v)(w:World)(htab:Lib.TabIs Go.Proofs.Tryz.prog w "internal/strconv.uint64pow10" .u64 Lib.pow10Tab):
    Calls Go.Proofs.Tryz.prog 20 #[.string s] w λe w'=>e=.returned (.tuple #[.int .i64 (xB v s.data.toList),.bool (n8 v s.data.toList)])/\Below w.heap.size w w':=by
  have kZ:=Lib.atoiAll_bounds hv;go_enter Tryz.func20,Tryz.ntmps20
  go_wp2_with (first
    |(go_at_call 90;refine(Tryz.strconv_Atoi_ok s (by omega) v hv _).mono ?_;rintro e W1 ⟨rfl,Q1⟩;have jx:Below w.heap.size w W1:=(by rcases Q1 with rfl|⟨t,rfl⟩;exact Below.refl _ _;exact Lib.bytesWorld_below _ _ _);clear Q1)
    |(go_at_call 62;refine(Tryz.strconv_Itoa v kZ.1 kZ.2 _ (agK htab jx)).mono ?_;rintro e W2 ⟨rfl,k,os,Q2⟩;have kn:Below w.heap.size w W2:=(by subst Q2;exact jx.trans ((abV W1 k os).mono jx.size));clear Q2)
    |go_in)
  all_goals go_ret2
  all_goals refine⟨?_,by assumption⟩
  all_goals first
    | (have hb : n8 v s.data.toList = true := (by
        unfold n8;rw[aY];refine⟨by assumption,by assumption,?_⟩;rw[<-Lib.toList_data];rename_i hz
        simpa using hz)
       rw[xB,au hb,hb];rfl)
    | (have hb : n8 v s.data.toList = false := (by
        unfold n8;rw[Ik];rintro ⟨h1,h2,h3⟩;first
        |omega
        | (rw[<-Lib.toList_data] at h3
           rename_i hz
           simp[h3] at hz))
       rw[xB,hb];rfl)
set_option maxHeartbeats 2000000 in
set_option maxRecDepth 100000 in
def aeu(s:ByteArray)(h:¬7<s.size)(w:World)
    (hA:Calls Go.Proofs.Tryz.prog 90 #[.string s] w λe w'=>∃n t N,e=.returned (.tuple #[.int .i64 n,.iface t (.pointer (some ⟨N,0,none⟩))])/\Below w.heap.size w w'):
    Calls Go.Proofs.Tryz.prog 20 #[.string s] w λe w'=>e=.returned (.tuple #[.int .i64 0,.bool false])/\Below w.heap.size w w':=by
  go_enter Tryz.func20,Tryz.ntmps20
  go_wp2_with (first
    |(go_at_call 90;refine hA.mono ?_;rintro e W1 ⟨n,t,N,rfl,jx⟩)
    |go_in)
  all_goals go_ret2
  all_goals exact⟨rfl,by assumption⟩
def aet[B:M.Bs](htab:Lib.TabIs Go.Proofs.Tryz.prog B.W0 "internal/strconv.uint64pow10" .u64 Lib.pow10Tab) (Ka:∃te pe,B.W0.var? Go.Proofs.Tryz.prog "strconv.ErrSyntax" =some #[.iface te pe]) (kq:∃te pe,B.W0.var? Go.Proofs.Tryz.prog "strconv.ErrRange" =some #[.iface te pe])
    (s:ByteArray) (w:World) (hw:M.nH w) (hs:s.size<=9223372036854775807):
    Calls Go.Proofs.Tryz.prog 20 #[.string s] w λe w'=>e=.returned (.tuple #[.int .i64 (((M.bx s.data.toList).getD 0:Nat):Int),.bool (M.bx s.data.toList).isSome])/\Below w.heap.size w w':=by
  refine aew (a:=0) hs (λh=>aev s h w) (λh v hv=>aex s h v hv w (M.TabIs.same htab hw)) λh hv=>?_;refine aeu s h w ?_;rcases ey:Lib.atoiAll s.data.toList with v|_|_;· exact absurd ey (hv v)
  · obtain⟨te,pe,h1⟩:=Ka
    exact(Any.strconv_Atoi_syntax_var Tryz.laysC172 s (by omega) ey te pe w (Um h1 hw)).mono λe w' ⟨N,he,_,_,hb⟩=>⟨_,_,N,he,hb⟩
  · obtain⟨te,pe,h1⟩:=kq
    exact(Any.strconv_Atoi_range_var Tryz.laysC172 s (by omega) ey te pe w (Um h1 hw)).mono λe w' ⟨N,he,_,_,hb⟩=>⟨_,_,N,he,hb⟩
end Go.Proofs
namespace M
open Go
variable [Bs]
def ai4:Told Go.Proofs.Tryz.prog 6 Be [.t 2] 1:=Told.of Go.Proofs.Tryz.func6 (by decide+kernel)
def abl:aB Go.Proofs.Tryz.prog 6=true:=by decide+kernel
def ajf:Told Go.Proofs.Tryz.prog 8 Fx [.t 2] 1:=Told.of Go.Proofs.Tryz.func8 (by decide+kernel)
def abx:aB Go.Proofs.Tryz.prog 8=true:=by decide+kernel
def ag0:Told Go.Proofs.Tryz.prog 11 AU [.t 2] 1:=Told.of Go.Proofs.Tryz.func11 (by decide+kernel)
def Zg:aB Go.Proofs.Tryz.prog 11=true:=by decide+kernel
def ag7:Told Go.Proofs.Tryz.prog 12 B3 [.t 2] 1:=Told.of Go.Proofs.Tryz.func12 (by decide+kernel)
def Zn:aB Go.Proofs.Tryz.prog 12=true:=by decide+kernel
def ahM:Told Go.Proofs.Tryz.prog 18 mj [.t 2] 1:=Told.of Go.Proofs.Tryz.func18 (by decide+kernel)
def Z1:aB Go.Proofs.Tryz.prog 18=true:=by decide+kernel
def ahV:Told Go.Proofs.Tryz.prog 19 AJ [.t 4,.t 5] 2:=Told.of Go.Proofs.Tryz.func19 (by decide+kernel)
def aac:aB Go.Proofs.Tryz.prog 19=true:=by decide+kernel
def aik:Told Go.Proofs.Tryz.prog 22 uu [.t 2] 1:=Told.of Go.Proofs.Tryz.func22 (by decide+kernel)
def aaz:aB Go.Proofs.Tryz.prog 22=true:=by decide+kernel
def aiF:Told Go.Proofs.Tryz.prog 27 AR [.t 2] 1:=Told.of Go.Proofs.Tryz.func27 (by decide+kernel)
def aaU:aB Go.Proofs.Tryz.prog 27=true:=by decide+kernel
def aiJ:Told Go.Proofs.Tryz.prog 28 oC [.t 2] 1:=Told.of Go.Proofs.Tryz.func28 (by decide+kernel)
def aaY:aB Go.Proofs.Tryz.prog 28=true:=by decide+kernel
def aiN:Told Go.Proofs.Tryz.prog 30 EW [.t 4] 2:=Told.of Go.Proofs.Tryz.func30 (by decide+kernel)
def aa2:aB Go.Proofs.Tryz.prog 30=true:=by decide+kernel
def aiQ:Told Go.Proofs.Tryz.prog 31 mS [.t 2] 1:=Told.of Go.Proofs.Tryz.func31 (by decide+kernel)
def aa5:aB Go.Proofs.Tryz.prog 31=true:=by decide+kernel
def aiR:Told Go.Proofs.Tryz.prog 32 EY [.c 0 6 true 54] 0:=Told.of Go.Proofs.Tryz.func32 (by decide+kernel)
def aa6:aB Go.Proofs.Tryz.prog 32=true:=by decide+kernel
def aiS:Told Go.Proofs.Tryz.prog 36 B1 [.t 2] 1:=Told.of Go.Proofs.Tryz.func36 (by decide+kernel)
def aa7:aB Go.Proofs.Tryz.prog 36=true:=by decide+kernel
def aiT:Told Go.Proofs.Tryz.prog 38 lW [.t 2] 1:=Told.of Go.Proofs.Tryz.func38 (by decide+kernel)
def aa8:aB Go.Proofs.Tryz.prog 38=true:=by decide+kernel
def aiU:Told Go.Proofs.Tryz.prog 40 kH [.c 2 2 true 50] 1:=Told.of Go.Proofs.Tryz.func40 (by decide+kernel)
def aa9:aB Go.Proofs.Tryz.prog 40=true:=by decide+kernel
def aiV:Told Go.Proofs.Tryz.prog 41 AM [.c 2 6 true 54] 1:=Told.of Go.Proofs.Tryz.func41 (by decide+kernel)
def abb:aB Go.Proofs.Tryz.prog 41=true:=by decide+kernel
def aiW:Told Go.Proofs.Tryz.prog 42 BU [.c 2 6 true 54] 1:=Told.of Go.Proofs.Tryz.func42 (by decide+kernel)
def abd:aB Go.Proofs.Tryz.prog 42=true:=by decide+kernel
def aiX:Told Go.Proofs.Tryz.prog 43 rQ [.t 2] 1:=Told.of Go.Proofs.Tryz.func43 (by decide+kernel)
def abe:aB Go.Proofs.Tryz.prog 43=true:=by decide+kernel
def aiY:Told Go.Proofs.Tryz.prog 44 sN [.t 2] 1:=Told.of Go.Proofs.Tryz.func44 (by decide+kernel)
def abf:aB Go.Proofs.Tryz.prog 44=true:=by decide+kernel
def aiZ:Told Go.Proofs.Tryz.prog 45 EV [.c 2 2 true 50] 1:=Told.of Go.Proofs.Tryz.func45 (by decide+kernel)
def abg:aB Go.Proofs.Tryz.prog 45=true:=by decide+kernel
def ai0:Told Go.Proofs.Tryz.prog 48 qu [.c 4 6 true 54,.t 5] 2:=Told.of Go.Proofs.Tryz.func48 (by decide+kernel)
def abh:aB Go.Proofs.Tryz.prog 48=true:=by decide+kernel
def ai1:Told Go.Proofs.Tryz.prog 51 si [.c 4 6 true 54,.t 5] 2:=Told.of Go.Proofs.Tryz.func51 (by decide+kernel)
def abi:aB Go.Proofs.Tryz.prog 51=true:=by decide+kernel
def ai2:Told Go.Proofs.Tryz.prog 53 pQ [.t 4] 2:=Told.of Go.Proofs.Tryz.func53 (by decide+kernel)
def abj:aB Go.Proofs.Tryz.prog 53=true:=by decide+kernel
def ai3:Told Go.Proofs.Tryz.prog 54 G4 [.t 2] 1:=Told.of Go.Proofs.Tryz.func54 (by decide+kernel)
def abk:aB Go.Proofs.Tryz.prog 54=true:=by decide+kernel
def ai5:Told Go.Proofs.Tryz.prog 61 AN [.t 2] 1:=Told.of Go.Proofs.Tryz.func61 (by decide+kernel)
def abm:aB Go.Proofs.Tryz.prog 61=true:=by decide+kernel
def ai6:Told Go.Proofs.Tryz.prog 64 Fj [.t 2] 1:=Told.of Go.Proofs.Tryz.func64 (by decide+kernel)
def abn:aB Go.Proofs.Tryz.prog 64=true:=by decide+kernel
def ai7:Told Go.Proofs.Tryz.prog 65 uX [.t 2] 1:=Told.of Go.Proofs.Tryz.func65 (by decide+kernel)
def abo:aB Go.Proofs.Tryz.prog 65=true:=by decide+kernel
def ai8:Told Go.Proofs.Tryz.prog 66 xR [.t 2] 1:=Told.of Go.Proofs.Tryz.func66 (by decide+kernel)
def abp:aB Go.Proofs.Tryz.prog 66=true:=by decide+kernel
def ai9:Told Go.Proofs.Tryz.prog 67 Gc [.t 2] 1:=Told.of Go.Proofs.Tryz.func67 (by decide+kernel)
def abq:aB Go.Proofs.Tryz.prog 67=true:=by decide+kernel
def aja:Told Go.Proofs.Tryz.prog 68 Hl [.c 2 3 true 29] 1:=Told.of Go.Proofs.Tryz.func68 (by decide+kernel)
def abr:aB Go.Proofs.Tryz.prog 68=true:=by decide+kernel
def ajb:Told Go.Proofs.Tryz.prog 71 B2 [.t 6] 3:=Told.of Go.Proofs.Tryz.func71 (by decide+kernel)
def abt:aB Go.Proofs.Tryz.prog 71=true:=by decide+kernel
def ajc:Told Go.Proofs.Tryz.prog 73 G5 [.t 4] 2:=Told.of Go.Proofs.Tryz.func73 (by decide+kernel)
def abu:aB Go.Proofs.Tryz.prog 73=true:=by decide+kernel
def ajd:Told Go.Proofs.Tryz.prog 75 yy [.c 2 4 true 26] 1:=Told.of Go.Proofs.Tryz.func75 (by decide+kernel)
def abv:aB Go.Proofs.Tryz.prog 75=true:=by decide+kernel
def aje:Told Go.Proofs.Tryz.prog 78 xU [.t 2] 1:=Told.of Go.Proofs.Tryz.func78 (by decide+kernel)
def abw:aB Go.Proofs.Tryz.prog 78=true:=by decide+kernel
def ajg:Told Go.Proofs.Tryz.prog 80 F3 [.c 2 6 true 72] 1:=Told.of Go.Proofs.Tryz.func80 (by decide+kernel)
def aby:aB Go.Proofs.Tryz.prog 80=true:=by decide+kernel
def ajh:Told Go.Proofs.Tryz.prog 83 vr [.t 2] 1:=Told.of Go.Proofs.Tryz.func83 (by decide+kernel)
def abz:aB Go.Proofs.Tryz.prog 83=true:=by decide+kernel
def aji:Told Go.Proofs.Tryz.prog 84 GX [.t 6] 3:=Told.of Go.Proofs.Tryz.func84 (by decide+kernel)
def abA:aB Go.Proofs.Tryz.prog 84=true:=by decide+kernel
def ajj:Told Go.Proofs.Tryz.prog 85 Hj [.t 2] 1:=Told.of Go.Proofs.Tryz.func85 (by decide+kernel)
def abB:aB Go.Proofs.Tryz.prog 85=true:=by decide+kernel
def ajk:Told Go.Proofs.Tryz.prog 86 yF [.t 4] 2:=Told.of Go.Proofs.Tryz.func86 (by decide+kernel)
def abC:aB Go.Proofs.Tryz.prog 86=true:=by decide+kernel
def ajl:Told Go.Proofs.Tryz.prog 87 Gt [.t 2] 1:=Told.of Go.Proofs.Tryz.func87 (by decide+kernel)
def abD:aB Go.Proofs.Tryz.prog 87=true:=by decide+kernel
def ajm:Told Go.Proofs.Tryz.prog 88 uZ [.t 2] 1:=Told.of Go.Proofs.Tryz.func88 (by decide+kernel)
def abE:aB Go.Proofs.Tryz.prog 88=true:=by decide+kernel
def ajn:Told Go.Proofs.Tryz.prog 89 Fe [.t 4] 2:=Told.of Go.Proofs.Tryz.func89 (by decide+kernel)
def abF:aB Go.Proofs.Tryz.prog 89=true:=by decide+kernel
def ajo:Told Go.Proofs.Tryz.prog 91 Ff [.t 6] 3:=Told.of Go.Proofs.Tryz.func91 (by decide+kernel)
def abG:aB Go.Proofs.Tryz.prog 91=true:=by decide+kernel
def ajp:Told Go.Proofs.Tryz.prog 94 EU [.t 2] 1:=Told.of Go.Proofs.Tryz.func94 (by decide+kernel)
def abH:aB Go.Proofs.Tryz.prog 94=true:=by decide+kernel
def ajq:Told Go.Proofs.Tryz.prog 98 Ge [.t 4] 2:=Told.of Go.Proofs.Tryz.func98 (by decide+kernel)
def abI:aB Go.Proofs.Tryz.prog 98=true:=by decide+kernel
def ajr:Told Go.Proofs.Tryz.prog 99 Gu [.c 2 7 true 31] 1:=Told.of Go.Proofs.Tryz.func99 (by decide+kernel)
def abJ:aB Go.Proofs.Tryz.prog 99=true:=by decide+kernel
def agS:Told Go.Proofs.Tryz.prog 100 F8 [.t 2] 1:=Told.of Go.Proofs.Tryz.func100 (by decide+kernel)
def Y7:aB Go.Proofs.Tryz.prog 100=true:=by decide+kernel
def agT:Told Go.Proofs.Tryz.prog 101 qg [.t 2] 1:=Told.of Go.Proofs.Tryz.func101 (by decide+kernel)
def Y8:aB Go.Proofs.Tryz.prog 101=true:=by decide+kernel
def agU:Told Go.Proofs.Tryz.prog 103 HZ [.t 4] 2:=Told.of Go.Proofs.Tryz.func103 (by decide+kernel)
def Y9:aB Go.Proofs.Tryz.prog 103=true:=by decide+kernel
def agV:Told Go.Proofs.Tryz.prog 105 pO [.t 2] 1:=Told.of Go.Proofs.Tryz.func105 (by decide+kernel)
def Za:aB Go.Proofs.Tryz.prog 105=true:=by decide+kernel
def agW:Told Go.Proofs.Tryz.prog 106 Fh [.t 2] 1:=Told.of Go.Proofs.Tryz.func106 (by decide+kernel)
def Zb:aB Go.Proofs.Tryz.prog 106=true:=by decide+kernel
def agX:Told Go.Proofs.Tryz.prog 107 ER [.t 2] 1:=Told.of Go.Proofs.Tryz.func107 (by decide+kernel)
def Zc:aB Go.Proofs.Tryz.prog 107=true:=by decide+kernel
def agY:Told Go.Proofs.Tryz.prog 108 E2 [.t 2] 1:=Told.of Go.Proofs.Tryz.func108 (by decide+kernel)
def Zd:aB Go.Proofs.Tryz.prog 108=true:=by decide+kernel
def agZ:Told Go.Proofs.Tryz.prog 109 EP [.c 0 2 true 50] 0:=Told.of Go.Proofs.Tryz.func109 (by decide+kernel)
def Ze:aB Go.Proofs.Tryz.prog 109=true:=by decide+kernel
def ag1:Told Go.Proofs.Tryz.prog 110 vn [.t 4] 2:=Told.of Go.Proofs.Tryz.func110 (by decide+kernel)
def Zh:aB Go.Proofs.Tryz.prog 110=true:=by decide+kernel
def ag2:Told Go.Proofs.Tryz.prog 114 ux [.t 2] 1:=Told.of Go.Proofs.Tryz.func114 (by decide+kernel)
def Zi:aB Go.Proofs.Tryz.prog 114=true:=by decide+kernel
def ag3:Told Go.Proofs.Tryz.prog 115 wZ [.t 2] 1:=Told.of Go.Proofs.Tryz.func115 (by decide+kernel)
def Zj:aB Go.Proofs.Tryz.prog 115=true:=by decide+kernel
def ag4:Told Go.Proofs.Tryz.prog 116 Fi [.t 2] 1:=Told.of Go.Proofs.Tryz.func116 (by decide+kernel)
def Zk:aB Go.Proofs.Tryz.prog 116=true:=by decide+kernel
def ag5:Told Go.Proofs.Tryz.prog 117 Fp [.t 2] 1:=Told.of Go.Proofs.Tryz.func117 (by decide+kernel)
def Zl:aB Go.Proofs.Tryz.prog 117=true:=by decide+kernel
def ag6:Told Go.Proofs.Tryz.prog 118 E8 [.t 2] 1:=Told.of Go.Proofs.Tryz.func118 (by decide+kernel)
def Zm:aB Go.Proofs.Tryz.prog 118=true:=by decide+kernel
def ag8:Told Go.Proofs.Tryz.prog 120 GS [.c 2 6 true 54] 1:=Told.of Go.Proofs.Tryz.func120 (by decide+kernel)
def Zo:aB Go.Proofs.Tryz.prog 120=true:=by decide+kernel
def ag9:Told Go.Proofs.Tryz.prog 121 oD [.c 2 2 true 50] 1:=Told.of Go.Proofs.Tryz.func121 (by decide+kernel)
def Zp:aB Go.Proofs.Tryz.prog 121=true:=by decide+kernel
def aha:Told Go.Proofs.Tryz.prog 122 xO [.c 6 2 true 50,.t 7] 3:=Told.of Go.Proofs.Tryz.func122 (by decide+kernel)
def Zq:aB Go.Proofs.Tryz.prog 122=true:=by decide+kernel
def ahb:Told Go.Proofs.Tryz.prog 123 xT [.t 4] 2:=Told.of Go.Proofs.Tryz.func123 (by decide+kernel)
def Zr:aB Go.Proofs.Tryz.prog 123=true:=by decide+kernel
def ahc:Told Go.Proofs.Tryz.prog 124 G6 [.t 4] 2:=Told.of Go.Proofs.Tryz.func124 (by decide+kernel)
def Zs:aB Go.Proofs.Tryz.prog 124=true:=by decide+kernel
def ahd:Told Go.Proofs.Tryz.prog 125 xW [.c 4 7 true 31] 2:=Told.of Go.Proofs.Tryz.func125 (by decide+kernel)
def Zt:aB Go.Proofs.Tryz.prog 125=true:=by decide+kernel
def ahe:Told Go.Proofs.Tryz.prog 126 BL [.t 2] 1:=Told.of Go.Proofs.Tryz.func126 (by decide+kernel)
def Zu:aB Go.Proofs.Tryz.prog 126=true:=by decide+kernel
def ahf:Told Go.Proofs.Tryz.prog 127 sO [.c 4 4 true 83] 2:=Told.of Go.Proofs.Tryz.func127 (by decide+kernel)
def Zv:aB Go.Proofs.Tryz.prog 127=true:=by decide+kernel
def ahg:Told Go.Proofs.Tryz.prog 128 Fo [.c 2 6 true 54] 1:=Told.of Go.Proofs.Tryz.func128 (by decide+kernel)
def Zw:aB Go.Proofs.Tryz.prog 128=true:=by decide+kernel
def ahh:Told Go.Proofs.Tryz.prog 129 Fb [.c 2 2 true 50] 1:=Told.of Go.Proofs.Tryz.func129 (by decide+kernel)
def Zx:aB Go.Proofs.Tryz.prog 129=true:=by decide+kernel
def ahi:Told Go.Proofs.Tryz.prog 130 Gl [.c 0 6 true 54] 0:=Told.of Go.Proofs.Tryz.func130 (by decide+kernel)
def Zy:aB Go.Proofs.Tryz.prog 130=true:=by decide+kernel
def ahj:Told Go.Proofs.Tryz.prog 131 Ck [.t 2,.t 3] 1:=Told.of Go.Proofs.Tryz.func131 (by decide+kernel)
def Zz:aB Go.Proofs.Tryz.prog 131=true:=by decide+kernel
def ahk:Told Go.Proofs.Tryz.prog 132 qw [.t 2,.t 3,.t 4] 1:=Told.of Go.Proofs.Tryz.func132 (by decide+kernel)
def ZA:aB Go.Proofs.Tryz.prog 132=true:=by decide+kernel
def ahl:Told Go.Proofs.Tryz.prog 133 F6 [.t 4] 2:=Told.of Go.Proofs.Tryz.func133 (by decide+kernel)
def ZB:aB Go.Proofs.Tryz.prog 133=true:=by decide+kernel
def ahm:Told Go.Proofs.Tryz.prog 134 sM [.c 2 7 true 31,.t 3] 1:=Told.of Go.Proofs.Tryz.func134 (by decide+kernel)
def ZC:aB Go.Proofs.Tryz.prog 134=true:=by decide+kernel
def ahn:Told Go.Proofs.Tryz.prog 135 GY [.t 4] 2:=Told.of Go.Proofs.Tryz.func135 (by decide+kernel)
def ZD:aB Go.Proofs.Tryz.prog 135=true:=by decide+kernel
def aho:Told Go.Proofs.Tryz.prog 136 GU [.t 4] 2:=Told.of Go.Proofs.Tryz.func136 (by decide+kernel)
def ZE:aB Go.Proofs.Tryz.prog 136=true:=by decide+kernel
def ahp:Told Go.Proofs.Tryz.prog 137 Gw [.c 2 2 true 50] 1:=Told.of Go.Proofs.Tryz.func137 (by decide+kernel)
def ZF:aB Go.Proofs.Tryz.prog 137=true:=by decide+kernel
def ahq:Told Go.Proofs.Tryz.prog 138 yt [.t 4] 2:=Told.of Go.Proofs.Tryz.func138 (by decide+kernel)
def ZG:aB Go.Proofs.Tryz.prog 138=true:=by decide+kernel
def ahr:Told Go.Proofs.Tryz.prog 139 GF [.t 2] 1:=Told.of Go.Proofs.Tryz.func139 (by decide+kernel)
def ZH:aB Go.Proofs.Tryz.prog 139=true:=by decide+kernel
def ahs:Told Go.Proofs.Tryz.prog 141 ES [] 1:=Told.of Go.Proofs.Tryz.func141 (by decide+kernel)
def ZI:aB Go.Proofs.Tryz.prog 141=true:=by decide+kernel
def aht:Told Go.Proofs.Tryz.prog 144 GG [.c 2 6 true 54] 1:=Told.of Go.Proofs.Tryz.func144 (by decide+kernel)
def ZJ:aB Go.Proofs.Tryz.prog 144=true:=by decide+kernel
def ahu:Told Go.Proofs.Tryz.prog 145 Ct [.c 6 6 true 54] 3:=Told.of Go.Proofs.Tryz.func145 (by decide+kernel)
def ZK:aB Go.Proofs.Tryz.prog 145=true:=by decide+kernel
def ahv:Told Go.Proofs.Tryz.prog 148 Gd [.c 2 2 true 50] 1:=Told.of Go.Proofs.Tryz.func148 (by decide+kernel)
def ZL:aB Go.Proofs.Tryz.prog 148=true:=by decide+kernel
def ahx:Told Go.Proofs.Tryz.prog 151 G7 [.t 4] 2:=Told.of Go.Proofs.Tryz.func151 (by decide+kernel)
def ZM:aB Go.Proofs.Tryz.prog 151=true:=by decide+kernel
def ahy:Told Go.Proofs.Tryz.prog 158 Gb [.t 2] 1:=Told.of Go.Proofs.Tryz.func158 (by decide+kernel)
def ZN:aB Go.Proofs.Tryz.prog 158=true:=by decide+kernel
def ahz:Told Go.Proofs.Tryz.prog 159 Hi [.t 2] 1:=Told.of Go.Proofs.Tryz.func159 (by decide+kernel)
def ZO:aB Go.Proofs.Tryz.prog 159=true:=by decide+kernel
def ahA:Told Go.Proofs.Tryz.prog 160 BQ [.t 4,.t 5] 2:=Told.of Go.Proofs.Tryz.func160 (by decide+kernel)
def ZP:aB Go.Proofs.Tryz.prog 160=true:=by decide+kernel
def ahB:Told Go.Proofs.Tryz.prog 161 Cw [.t 4] 2:=Told.of Go.Proofs.Tryz.func161 (by decide+kernel)
def ZQ:aB Go.Proofs.Tryz.prog 161=true:=by decide+kernel
def ahC:Told Go.Proofs.Tryz.prog 162 sK [.t 2,.t 3] 1:=Told.of Go.Proofs.Tryz.func162 (by decide+kernel)
def ZR:aB Go.Proofs.Tryz.prog 162=true:=by decide+kernel
def ahD:Told Go.Proofs.Tryz.prog 165 yx [.t 2] 1:=Told.of Go.Proofs.Tryz.func165 (by decide+kernel)
def ZS:aB Go.Proofs.Tryz.prog 165=true:=by decide+kernel
def ahE:Told Go.Proofs.Tryz.prog 166 F4 [.c 2 6 true 72] 1:=Told.of Go.Proofs.Tryz.func166 (by decide+kernel)
def ZT:aB Go.Proofs.Tryz.prog 166=true:=by decide+kernel
def ahF:Told Go.Proofs.Tryz.prog 167 Gq [.t 2] 1:=Told.of Go.Proofs.Tryz.func167 (by decide+kernel)
def ZU:aB Go.Proofs.Tryz.prog 167=true:=by decide+kernel
def ahG:Told Go.Proofs.Tryz.prog 168 Gn [.t 2] 1:=Told.of Go.Proofs.Tryz.func168 (by decide+kernel)
def ZV:aB Go.Proofs.Tryz.prog 168=true:=by decide+kernel
def ahH:Told Go.Proofs.Tryz.prog 169 Gg [.t 2] 1:=Told.of Go.Proofs.Tryz.func169 (by decide+kernel)
def ZW:aB Go.Proofs.Tryz.prog 169=true:=by decide+kernel
def ahI:Told Go.Proofs.Tryz.prog 170 Gr [.t 2] 1:=Told.of Go.Proofs.Tryz.func170 (by decide+kernel)
def ZX:aB Go.Proofs.Tryz.prog 170=true:=by decide+kernel
def ahJ:Told Go.Proofs.Tryz.prog 171 CV [.t 4] 2:=Told.of Go.Proofs.Tryz.func171 (by decide+kernel)
def ZY:aB Go.Proofs.Tryz.prog 171=true:=by decide+kernel
def ahK:Told Go.Proofs.Tryz.prog 172 Fc [.t 3] 2:=Told.of Go.Proofs.Tryz.func172 (by decide+kernel)
def ZZ:aB Go.Proofs.Tryz.prog 172=true:=by decide+kernel
def ahL:Told Go.Proofs.Tryz.prog 176 E6 [.t 2] 1:=Told.of Go.Proofs.Tryz.func176 (by decide+kernel)
def Z0:aB Go.Proofs.Tryz.prog 176=true:=by decide+kernel
def ahN:Told Go.Proofs.Tryz.prog 180 Gs [.t 4] 2:=Told.of Go.Proofs.Tryz.func180 (by decide+kernel)
def Z2:aB Go.Proofs.Tryz.prog 180=true:=by decide+kernel
def ahO:Told Go.Proofs.Tryz.prog 181 nr [.t 4] 2:=Told.of Go.Proofs.Tryz.func181 (by decide+kernel)
def Z3:aB Go.Proofs.Tryz.prog 181=true:=by decide+kernel
def ahP:Told Go.Proofs.Tryz.prog 183 Fg [.t 2] 1:=Told.of Go.Proofs.Tryz.func183 (by decide+kernel)
def Z4:aB Go.Proofs.Tryz.prog 183=true:=by decide+kernel
def ahQ:Told Go.Proofs.Tryz.prog 184 CS [.t 4] 2:=Told.of Go.Proofs.Tryz.func184 (by decide+kernel)
def Z5:aB Go.Proofs.Tryz.prog 184=true:=by decide+kernel
def ahR:Told Go.Proofs.Tryz.prog 185 E1 [.t 3] 2:=Told.of Go.Proofs.Tryz.func185 (by decide+kernel)
def Z6:aB Go.Proofs.Tryz.prog 185=true:=by decide+kernel
def ahS:Told Go.Proofs.Tryz.prog 186 yu [.t 2] 1:=Told.of Go.Proofs.Tryz.func186 (by decide+kernel)
def Z7:aB Go.Proofs.Tryz.prog 186=true:=by decide+kernel
def ahT:Told Go.Proofs.Tryz.prog 188 E9 [.t 4] 2:=Told.of Go.Proofs.Tryz.func188 (by decide+kernel)
def Z8:aB Go.Proofs.Tryz.prog 188=true:=by decide+kernel
def ahU:Told Go.Proofs.Tryz.prog 189 E7 [.t 2] 1:=Told.of Go.Proofs.Tryz.func189 (by decide+kernel)
def Z9:aB Go.Proofs.Tryz.prog 189=true:=by decide+kernel
def ahW:Told Go.Proofs.Tryz.prog 190 E4 [.t 2] 1:=Told.of Go.Proofs.Tryz.func190 (by decide+kernel)
def aad:aB Go.Proofs.Tryz.prog 190=true:=by decide+kernel
def ahX:Told Go.Proofs.Tryz.prog 191 EX [.t 2] 1:=Told.of Go.Proofs.Tryz.func191 (by decide+kernel)
def aae:aB Go.Proofs.Tryz.prog 191=true:=by decide+kernel
def ahY:Told Go.Proofs.Tryz.prog 193 F5 [.c 4 2 true 50] 2:=Told.of Go.Proofs.Tryz.func193 (by decide+kernel)
def aaf:aB Go.Proofs.Tryz.prog 193=true:=by decide+kernel
def ahZ:Told Go.Proofs.Tryz.prog 194 GA [.t 4] 2:=Told.of Go.Proofs.Tryz.func194 (by decide+kernel)
def aag:aB Go.Proofs.Tryz.prog 194=true:=by decide+kernel
def ah0:Told Go.Proofs.Tryz.prog 195 GB [.c 2 2 true 50] 1:=Told.of Go.Proofs.Tryz.func195 (by decide+kernel)
def aah:aB Go.Proofs.Tryz.prog 195=true:=by decide+kernel
def ah1:Told Go.Proofs.Tryz.prog 196 Cj [.t 2] 1:=Told.of Go.Proofs.Tryz.func196 (by decide+kernel)
def aai:aB Go.Proofs.Tryz.prog 196=true:=by decide+kernel
def ah2:Told Go.Proofs.Tryz.prog 197 Gp [.t 2] 1:=Told.of Go.Proofs.Tryz.func197 (by decide+kernel)
def aaj:aB Go.Proofs.Tryz.prog 197=true:=by decide+kernel
def ah3:Told Go.Proofs.Tryz.prog 198 yz [.c 2 3 true 29] 1:=Told.of Go.Proofs.Tryz.func198 (by decide+kernel)
def aak:aB Go.Proofs.Tryz.prog 198=true:=by decide+kernel
def ah4:Told Go.Proofs.Tryz.prog 199 Ga [.t 4] 2:=Told.of Go.Proofs.Tryz.func199 (by decide+kernel)
def aal:aB Go.Proofs.Tryz.prog 199=true:=by decide+kernel
def ah5:Told Go.Proofs.Tryz.prog 200 xS [.c 6 7 true 31,.t 7] 3:=Told.of Go.Proofs.Tryz.func200 (by decide+kernel)
def aam:aB Go.Proofs.Tryz.prog 200=true:=by decide+kernel
def ah6:Told Go.Proofs.Tryz.prog 201 AZ [] 1:=Told.of Go.Proofs.Tryz.func201 (by decide+kernel)
def aan:aB Go.Proofs.Tryz.prog 201=true:=by decide+kernel
def ah7:Told Go.Proofs.Tryz.prog 202 E0 [.t 2] 1:=Told.of Go.Proofs.Tryz.func202 (by decide+kernel)
def aao:aB Go.Proofs.Tryz.prog 202=true:=by decide+kernel
def ah8:Told Go.Proofs.Tryz.prog 203 Fk [.t 3] 2:=Told.of Go.Proofs.Tryz.func203 (by decide+kernel)
def aap:aB Go.Proofs.Tryz.prog 203=true:=by decide+kernel
def ah9:Told Go.Proofs.Tryz.prog 204 wW [.t 4] 2:=Told.of Go.Proofs.Tryz.func204 (by decide+kernel)
def aaq:aB Go.Proofs.Tryz.prog 204=true:=by decide+kernel
def aia:Told Go.Proofs.Tryz.prog 205 A6 [.t 2] 1:=Told.of Go.Proofs.Tryz.func205 (by decide+kernel)
def aar:aB Go.Proofs.Tryz.prog 205=true:=by decide+kernel
def aic:Told Go.Proofs.Tryz.prog 207 F7 [.c 0 2 true 50] 0:=Told.of Go.Proofs.Tryz.func207 (by decide+kernel)
def aas:aB Go.Proofs.Tryz.prog 207=true:=by decide+kernel
def aid:Told Go.Proofs.Tryz.prog 208 qh [.c 2 4 true 83,.t 3] 1:=Told.of Go.Proofs.Tryz.func208 (by decide+kernel)
def aat:aB Go.Proofs.Tryz.prog 208=true:=by decide+kernel
def aie:Told Go.Proofs.Tryz.prog 209 Ch [.t 4,.t 5] 2:=Told.of Go.Proofs.Tryz.func209 (by decide+kernel)
def aau:aB Go.Proofs.Tryz.prog 209=true:=by decide+kernel
def aif:Told Go.Proofs.Tryz.prog 210 Hg [.t 2] 1:=Told.of Go.Proofs.Tryz.func210 (by decide+kernel)
def aav:aB Go.Proofs.Tryz.prog 210=true:=by decide+kernel
def aih:Told Go.Proofs.Tryz.prog 211 oA [.c 2 3 true 29,.t 3] 1:=Told.of Go.Proofs.Tryz.func211 (by decide+kernel)
def aaw:aB Go.Proofs.Tryz.prog 211=true:=by decide+kernel
def aii:Told Go.Proofs.Tryz.prog 215 wQ [.t 4] 2:=Told.of Go.Proofs.Tryz.func215 (by decide+kernel)
def aax:aB Go.Proofs.Tryz.prog 215=true:=by decide+kernel
def aij:Told Go.Proofs.Tryz.prog 219 AE [.t 2] 1:=Told.of Go.Proofs.Tryz.func219 (by decide+kernel)
def aay:aB Go.Proofs.Tryz.prog 219=true:=by decide+kernel
def ail:Told Go.Proofs.Tryz.prog 221 GC [.c 6 2 true 50] 3:=Told.of Go.Proofs.Tryz.func221 (by decide+kernel)
def aaA:aB Go.Proofs.Tryz.prog 221=true:=by decide+kernel
def aim:Told Go.Proofs.Tryz.prog 223 G9 [.t 2] 1:=Told.of Go.Proofs.Tryz.func223 (by decide+kernel)
def aaB:aB Go.Proofs.Tryz.prog 223=true:=by decide+kernel
def ain:Told Go.Proofs.Tryz.prog 224 iM [.c 2 2 true 104] 1:=Told.of Go.Proofs.Tryz.func224 (by decide+kernel)
def aaC:aB Go.Proofs.Tryz.prog 224=true:=by decide+kernel
def aio:Told Go.Proofs.Tryz.prog 227 GZ [.t 4] 2:=Told.of Go.Proofs.Tryz.func227 (by decide+kernel)
def aaD:aB Go.Proofs.Tryz.prog 227=true:=by decide+kernel
def aip:Told Go.Proofs.Tryz.prog 228 GW [.t 2] 1:=Told.of Go.Proofs.Tryz.func228 (by decide+kernel)
def aaE:aB Go.Proofs.Tryz.prog 228=true:=by decide+kernel
def aiq:Told Go.Proofs.Tryz.prog 229 yC [.t 2,.t 3] 1:=Told.of Go.Proofs.Tryz.func229 (by decide+kernel)
def aaF:aB Go.Proofs.Tryz.prog 229=true:=by decide+kernel
def air:Told Go.Proofs.Tryz.prog 236 CX [.t 4] 2:=Told.of Go.Proofs.Tryz.func236 (by decide+kernel)
def aaG:aB Go.Proofs.Tryz.prog 236=true:=by decide+kernel
def ais:Told Go.Proofs.Tryz.prog 240 mh [.t 4] 2:=Told.of Go.Proofs.Tryz.func240 (by decide+kernel)
def aaH:aB Go.Proofs.Tryz.prog 240=true:=by decide+kernel
def ait:Told Go.Proofs.Tryz.prog 241 mR [.t 2,.t 3,.t 4] 1:=Told.of Go.Proofs.Tryz.func241 (by decide+kernel)
def aaI:aB Go.Proofs.Tryz.prog 241=true:=by decide+kernel
def aiu:Told Go.Proofs.Tryz.prog 242 ET [.t 4] 2:=Told.of Go.Proofs.Tryz.func242 (by decide+kernel)
def aaJ:aB Go.Proofs.Tryz.prog 242=true:=by decide+kernel
def aiv:Told Go.Proofs.Tryz.prog 243 uo [.c 2 4 true 83,.t 3] 1:=Told.of Go.Proofs.Tryz.func243 (by decide+kernel)
def aaK:aB Go.Proofs.Tryz.prog 243=true:=by decide+kernel
def aiw:Told Go.Proofs.Tryz.prog 244 wU [] 2:=Told.of Go.Proofs.Tryz.func244 (by decide+kernel)
def aaL:aB Go.Proofs.Tryz.prog 244=true:=by decide+kernel
def aix:Told Go.Proofs.Tryz.prog 245 nT [.c 2 7 true 31,.t 3] 1:=Told.of Go.Proofs.Tryz.func245 (by decide+kernel)
def aaM:aB Go.Proofs.Tryz.prog 245=true:=by decide+kernel
def aiy:Told Go.Proofs.Tryz.prog 246 H6 [] 2:=Told.of Go.Proofs.Tryz.func246 (by decide+kernel)
def aaN:aB Go.Proofs.Tryz.prog 246=true:=by decide+kernel
def aiz:Told Go.Proofs.Tryz.prog 247 EZ [.t 4] 2:=Told.of Go.Proofs.Tryz.func247 (by decide+kernel)
def aaO:aB Go.Proofs.Tryz.prog 247=true:=by decide+kernel
def aiA:Told Go.Proofs.Tryz.prog 248 HT [.t 4] 2:=Told.of Go.Proofs.Tryz.func248 (by decide+kernel)
def aaP:aB Go.Proofs.Tryz.prog 248=true:=by decide+kernel
def aiB:Told Go.Proofs.Tryz.prog 249 Cz [.t 2,.t 3] 1:=Told.of Go.Proofs.Tryz.func249 (by decide+kernel)
def aaQ:aB Go.Proofs.Tryz.prog 249=true:=by decide+kernel
def aiC:Told Go.Proofs.Tryz.prog 250 Hf [.t 2] 1:=Told.of Go.Proofs.Tryz.func250 (by decide+kernel)
def aaR:aB Go.Proofs.Tryz.prog 250=true:=by decide+kernel
def aiD:Told Go.Proofs.Tryz.prog 252 E5 [.t 2] 1:=Told.of Go.Proofs.Tryz.func252 (by decide+kernel)
def aaS:aB Go.Proofs.Tryz.prog 252=true:=by decide+kernel
def aiE:Told Go.Proofs.Tryz.prog 253 Fa [.t 2] 1:=Told.of Go.Proofs.Tryz.func253 (by decide+kernel)
def aaT:aB Go.Proofs.Tryz.prog 253=true:=by decide+kernel
def aiG:Told Go.Proofs.Tryz.prog 272 nU [.c 2 3 true 29,.t 3] 1:=Told.of Go.Proofs.Tryz.func272 (by decide+kernel)
def aaV:aB Go.Proofs.Tryz.prog 272=true:=by decide+kernel
def aiH:Told Go.Proofs.Tryz.prog 273 H9 [] 3:=Told.of Go.Proofs.Tryz.func273 (by decide+kernel)
def aaW:aB Go.Proofs.Tryz.prog 273=true:=by decide+kernel
def aiI:Told Go.Proofs.Tryz.prog 274 HU [.t 2] 1:=Told.of Go.Proofs.Tryz.func274 (by decide+kernel)
def aaX:aB Go.Proofs.Tryz.prog 274=true:=by decide+kernel
def aiK:Told Go.Proofs.Tryz.prog 291 rS [.t 2,.t 3,.t 4,.t 5] 1:=Told.of Go.Proofs.Tryz.func291 (by decide+kernel)
def aaZ:aB Go.Proofs.Tryz.prog 291=true:=by decide+kernel
def aiL:Told Go.Proofs.Tryz.prog 292 CY [] 4:=Told.of Go.Proofs.Tryz.func292 (by decide+kernel)
def aa0:aB Go.Proofs.Tryz.prog 292=true:=by decide+kernel
def aiM:Told Go.Proofs.Tryz.prog 293 UO [] 5:=Told.of Go.Proofs.Tryz.func293 (by decide+kernel)
def aa1:aB Go.Proofs.Tryz.prog 293=true:=by decide+kernel
def aiO:Told Go.Proofs.Tryz.prog 302 UE [] 5:=Told.of Go.Proofs.Tryz.func302 (by decide+kernel)
def aa3:aB Go.Proofs.Tryz.prog 302=true:=by decide+kernel
def aiP:Told Go.Proofs.Tryz.prog 309 UH [] 5:=Told.of Go.Proofs.Tryz.func309 (by decide+kernel)
def aa4:aB Go.Proofs.Tryz.prog 309=true:=by decide+kernel
def aib:Told Go.Proofs.Tryz.prog 206 (zL 2 24) [.t 2] 1:=Told.of Go.Proofs.Tryz.func206 (by decide+kernel)
def ahw:Told Go.Proofs.Tryz.prog 149 (zL 1 16) [.t 2] 1:=Told.of Go.Proofs.Tryz.func149 (by decide+kernel)
set_option maxHeartbeats 4000000 in
def akk:TT.Ok Go.Proofs.Tryz.prog:=by
  refine⟨λf F h=>?_,λf F h=>?_⟩
  · have h:_=_:=h
    rcases Option.or_eq_some_iff.1 h with h|⟨_,h⟩
    · unfold IG at h
      split at h
      · cases h;exact ai4
      · cases h;exact ajf
      · cases h;exact ag0
      · cases h;exact ag7
      · cases h;exact ahM
      · cases h;exact ahV
      · cases h;exact aik
      · cases h;exact aiF
      · cases h;exact aiJ
      · cases h;exact aiN
      · cases h;exact aiQ
      · cases h;exact aiR
      · cases h;exact aiS
      · cases h;exact aiT
      · cases h;exact aiU
      · cases h;exact aiV
      · cases h;exact aiW
      · cases h;exact aiX
      · cases h;exact aiY
      · cases h;exact aiZ
      · cases h;exact ai0
      · cases h;exact ai1
      · cases h;exact ai2
      · cases h;exact ai3
      · cases h;exact ai5
      · cases h;exact ai6
      · cases h;exact ai7
      · cases h;exact ai8
      · cases h;exact ai9
      · cases h;exact aja
      · cases h;exact ajb
      · cases h;exact ajc
      · cases h;exact ajd
      · cases h;exact aje
      · cases h;exact ajg
      · cases h;exact ajh
      · cases h;exact aji
      · cases h;exact ajj
      · cases h;exact ajk
      · cases h;exact ajl
      · cases h;exact ajm
      · cases h;exact ajn
      · cases h;exact ajo
      · cases h;exact ajp
      · cases h;exact ajq
      · cases h;exact ajr
      · cases h;exact agS
      · cases h;exact agT
      · cases h;exact agU
      · cases h;exact agV
      · cases h;exact agW
      · cases h;exact agX
      · cases h;exact agY
      · cases h;exact agZ
      · cases h;exact ag1
      · cases h;exact ag2
      · cases h;exact ag3
      · cases h;exact ag4
      · cases h;exact ag5
      · cases h;exact ag6
      · cases h;exact ag8
      · cases h;exact ag9
      · cases h;exact aha
      · cases h;exact ahb
      · cases h;exact ahc
      · cases h;exact ahd
      · cases h;exact ahe
      · cases h;exact ahf
      · cases h;exact ahg
      · cases h;exact ahh
      · cases h;exact ahi
      · cases h;exact ahj
      · cases h;exact ahk
      · cases h;exact ahl
      · cases h;exact ahm
      · cases h;exact ahn
      · cases h;exact aho
      · cases h;exact ahp
      · cases h;exact ahq
      · cases h;exact ahr
      · cases h;exact ahs
      · cases h;exact aht
      · cases h;exact ahu
      · cases h;exact ahv
      · cases h;exact ahx
      · cases h;exact ahy
      · cases h;exact ahz
      · cases h;exact ahA
      · cases h;exact ahB
      · cases h;exact ahC
      · cases h;exact ahD
      · cases h;exact ahE
      · cases h;exact ahF
      · cases h;exact ahG
      · cases h;exact ahH
      · cases h;exact ahI
      · cases h;exact ahJ
      · cases h;exact ahK
      · cases h;exact ahL
      · cases h;exact ahN
      · cases h;exact ahO
      · cases h;exact ahP
      · cases h;exact ahQ
      · cases h;exact ahR
      · cases h;exact ahS
      · cases h;exact ahT
      · cases h;exact ahU
      · cases h;exact ahW
      · cases h;exact ahX
      · cases h;exact ahY
      · cases h;exact ahZ
      · cases h;exact ah0
      · cases h;exact ah1
      · cases h;exact ah2
      · cases h;exact ah3
      · cases h;exact ah4
      · cases h;exact ah5
      · cases h;exact ah6
      · cases h;exact ah7
      · cases h;exact ah8
      · cases h
    unfold II at h
    split at h
    · cases h;exact ah9
    · cases h;exact aia
    · cases h;exact aic
    · cases h;exact aid
    · cases h;exact aie
    · cases h;exact aif
    · cases h;exact aih
    · cases h;exact aii
    · cases h;exact aij
    · cases h;exact ail
    · cases h;exact aim
    · cases h;exact ain
    · cases h;exact aio
    · cases h;exact aip
    · cases h;exact aiq
    · cases h;exact air
    · cases h;exact ais
    · cases h;exact ait
    · cases h;exact aiu
    · cases h;exact aiv
    · cases h;exact aiw
    · cases h;exact aix
    · cases h;exact aiy
    · cases h;exact aiz
    · cases h;exact aiA
    · cases h;exact aiB
    · cases h;exact aiC
    · cases h;exact aiD
    · cases h;exact aiE
    · cases h;exact aiG
    · cases h;exact aiH
    · cases h;exact aiI
    · cases h;exact aiK
    · cases h;exact aiL
    · cases h;exact aiM
    · cases h;exact aiO
    · cases h;exact aiP
    · cases h
  · have h:_=_:=h
    rcases Option.or_eq_some_iff.1 h with h|⟨_,h⟩
    · unfold IG at h
      split at h
      · cases h;exact abl
      · cases h;exact abx
      · cases h;exact Zg
      · cases h;exact Zn
      · cases h;exact Z1
      · cases h;exact aac
      · cases h;exact aaz
      · cases h;exact aaU
      · cases h;exact aaY
      · cases h;exact aa2
      · cases h;exact aa5
      · cases h;exact aa6
      · cases h;exact aa7
      · cases h;exact aa8
      · cases h;exact aa9
      · cases h;exact abb
      · cases h;exact abd
      · cases h;exact abe
      · cases h;exact abf
      · cases h;exact abg
      · cases h;exact abh
      · cases h;exact abi
      · cases h;exact abj
      · cases h;exact abk
      · cases h;exact abm
      · cases h;exact abn
      · cases h;exact abo
      · cases h;exact abp
      · cases h;exact abq
      · cases h;exact abr
      · cases h;exact abt
      · cases h;exact abu
      · cases h;exact abv
      · cases h;exact abw
      · cases h;exact aby
      · cases h;exact abz
      · cases h;exact abA
      · cases h;exact abB
      · cases h;exact abC
      · cases h;exact abD
      · cases h;exact abE
      · cases h;exact abF
      · cases h;exact abG
      · cases h;exact abH
      · cases h;exact abI
      · cases h;exact abJ
      · cases h;exact Y7
      · cases h;exact Y8
      · cases h;exact Y9
      · cases h;exact Za
      · cases h;exact Zb
      · cases h;exact Zc
      · cases h;exact Zd
      · cases h;exact Ze
      · cases h;exact Zh
      · cases h;exact Zi
      · cases h;exact Zj
      · cases h;exact Zk
      · cases h;exact Zl
      · cases h;exact Zm
      · cases h;exact Zo
      · cases h;exact Zp
      · cases h;exact Zq
      · cases h;exact Zr
      · cases h;exact Zs
      · cases h;exact Zt
      · cases h;exact Zu
      · cases h;exact Zv
      · cases h;exact Zw
      · cases h;exact Zx
      · cases h;exact Zy
      · cases h;exact Zz
      · cases h;exact ZA
      · cases h;exact ZB
      · cases h;exact ZC
      · cases h;exact ZD
      · cases h;exact ZE
      · cases h;exact ZF
      · cases h;exact ZG
      · cases h;exact ZH
      · cases h;exact ZI
      · cases h;exact ZJ
      · cases h;exact ZK
      · cases h;exact ZL
      · cases h;exact ZM
      · cases h;exact ZN
      · cases h;exact ZO
      · cases h;exact ZP
      · cases h;exact ZQ
      · cases h;exact ZR
      · cases h;exact ZS
      · cases h;exact ZT
      · cases h;exact ZU
      · cases h;exact ZV
      · cases h;exact ZW
      · cases h;exact ZX
      · cases h;exact ZY
      · cases h;exact ZZ
      · cases h;exact Z0
      · cases h;exact Z2
      · cases h;exact Z3
      · cases h;exact Z4
      · cases h;exact Z5
      · cases h;exact Z6
      · cases h;exact Z7
      · cases h;exact Z8
      · cases h;exact Z9
      · cases h;exact aad
      · cases h;exact aae
      · cases h;exact aaf
      · cases h;exact aag
      · cases h;exact aah
      · cases h;exact aai
      · cases h;exact aaj
      · cases h;exact aak
      · cases h;exact aal
      · cases h;exact aam
      · cases h;exact aan
      · cases h;exact aao
      · cases h;exact aap
      · cases h
    unfold II at h
    split at h
    · cases h;exact aaq
    · cases h;exact aar
    · cases h;exact aas
    · cases h;exact aat
    · cases h;exact aau
    · cases h;exact aav
    · cases h;exact aaw
    · cases h;exact aax
    · cases h;exact aay
    · cases h;exact aaA
    · cases h;exact aaB
    · cases h;exact aaC
    · cases h;exact aaD
    · cases h;exact aaE
    · cases h;exact aaF
    · cases h;exact aaG
    · cases h;exact aaH
    · cases h;exact aaI
    · cases h;exact aaJ
    · cases h;exact aaK
    · cases h;exact aaL
    · cases h;exact aaM
    · cases h;exact aaN
    · cases h;exact aaO
    · cases h;exact aaP
    · cases h;exact aaQ
    · cases h;exact aaR
    · cases h;exact aaS
    · cases h;exact aaT
    · cases h;exact aaV
    · cases h;exact aaW
    · cases h;exact aaX
    · cases h;exact aaZ
    · cases h;exact aa0
    · cases h;exact aa1
    · cases h;exact aa3
    · cases h;exact aa4
    · cases h
def aki(htab:Lib.TabIs Go.Proofs.Tryz.prog Bs.W0 "internal/strconv.uint64pow10" .u64 Lib.pow10Tab) (hmax:∃m,Bs.W0.cell? ⟨3,0,none⟩=some (.int .i64 m)) (Ka:∃te pe,Bs.W0.var? Go.Proofs.Tryz.prog "strconv.ErrSyntax" =some #[.iface te pe]) (kq:∃te pe,Bs.W0.var? Go.Proofs.Tryz.prog "strconv.ErrRange" =some #[.iface te pe]):LI.Sound Go.Proofs.Tryz.prog:=(p8 (Y2 λA cap fs w h1 h2 h3=>Go.Proofs.abO A cap fs w h1 h2 h3) (p8 (aey λs w hw hs=>Go.Proofs.aet htab Ka kq s w hw hs) (p8 (Pv aib) (p8 (Pv ahw) (p8 (adk htab λn h0 h1 w ht=>Go.Proofs.Tryz.strconv_Itoa n h0 h1 w ht) (p8 (YN (g1:=3) hmax λs sep m w h1 h2=>Go.Proofs.Tryz.strings_Cut s sep m w h1 h2) (p8 (acd λs p w=>Go.Proofs.Tryz.strings_HasPrefix s p w) (p8 (adl (λa c sep w=>Go.Proofs.Tryz.strings_Join_none a c sep w) λbk o c xs sep w h1 h2 h3 h4 h5=>Go.Proofs.Tryz.strings_Join bk o c xs sep w h1 h2 h3 h4 h5) (p8 (agu (g1:=3) (t9:=_) hmax λs sep m w h1 h2 h3=>Go.Proofs.Tryz.strings_Split s sep m w h1 h2 h3) (ajs λs c h w hs=>Go.Proofs.Tryz.strings_Trim_one s c h w hs))))))))))
end M
