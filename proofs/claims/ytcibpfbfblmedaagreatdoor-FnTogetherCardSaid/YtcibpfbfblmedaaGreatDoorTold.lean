/- Each function of the table is the program's, and the library is as it is said to be; no conditions. -/
import Derived.Test.YtcibpfbfblmedaaGreatDoorProg
import Derived.Test.YtcibpfbfblmedaaGreatDoorLay
import Derived.Test.YtcibpfbfblmedaaGreatDoorTab
import Derived.Test.YtcibpfbfblmedaaGreatDoorMc
import Derived.WalkKit
import Derived.Lib.FrozenHead
import Derived.Lib.OthersKept
import Derived.Lib.Builder
import Derived.Shelf.RegionOpenPlain
import Derived.Deep.LoopGhost
import Derived.Deep.RegionLaw
import Derived.Lib.Walk
import Derived.Lib.SliceRun
set_option linter.defProp false
set_option linter.unusedSectionVars false
set_option linter.unusedVariables false
set_option linter.unusedSimpArgs false
set_option linter.unusedVariables false
set_option linter.unusedSectionVars false
set_option maxRecDepth 100000
namespace Go.Proofs
open Go.RowKit
set_option maxHeartbeats 2000000 in
set_option maxRecDepth 100000 in
def Vf(b:Nat)(w:World)(h0:w.cell? ⟨b,0,none⟩=some (.pointer (some ⟨b,0,none⟩))):
    Calls Tryz.prog 200 #[.pointer (some ⟨b,0,none⟩)] w λe w'=>e=.returned (.tuple #[])/\w'=w:=by obtain⟨j,hj,DU⟩:=ni.1 (show (Tryz.prog.info? 233).map (·.size)=some 2 by kernel_rfl);go_enter Tryz.func200,Tryz.ntmps200;go_wp2;rw[Lib.run_neq_ptr_same w _ Tryz.underlying231 hj];go_wp2;go_end0;exact⟨rfl,rfl⟩
set_option maxHeartbeats 2000000 in
set_option maxRecDepth 100000 in
def Ve(b:Nat)(w:World)(h0:w.cell? ⟨b,0,none⟩=some (.pointer none))(hsh:w.shape? b=some (233,2))(hfz:w.frozen? ⟨b,0,none⟩=false):
    Calls Tryz.prog 200 #[.pointer (some ⟨b,0,none⟩)] w λe w'=>e=.returned (.tuple #[])/\w'=w.setCell ⟨b,0,none⟩ (.pointer (some ⟨b,0,none⟩)):=by obtain⟨j,hj,DU⟩:=ni.1 (show (Tryz.prog.info? 233).map (·.size)=some 2 by kernel_rfl);go_enter Tryz.func200,Tryz.ntmps200;go_wp2;rw[Lib.run_to_unsafe w ⟨b,0,none⟩ Tryz.underlying231 Tryz.underlying253 hj (by rw[DU];decide) hsh (Nat.zero_lt_succ 1)];simp only[Result.andThen];rw[Oper.upon_value];go_wp2;rw[run_callFunc_extern Tryz.func216 (by kernel_rfl) (by kernel_rfl) (by kernel_rfl) (e:=Extern.AbiNoEscape.same) (by kernel_rfl)];rw[Lib.run_noEscape];simp only[Result.andThen];rw[Oper.upon_value];go_wp2;rw[Lib.run_from_unsafe w ⟨b,0,none⟩ Tryz.underlying253 Tryz.underlying231 hj hsh (by kernel_rfl)];simp only[Result.andThen];rw[Oper.upon_value];go_wp2;go_end0;exact⟨rfl,rfl⟩
def Vd(B b:Nat)(bs:List Value)(w:World)(h:Lib.IsBuilderF 233 5 B b bs w):
    Calls Tryz.prog 200 #[.pointer (some ⟨b,0,none⟩)] w λe w'=>e=.returned (.tuple #[])/\(Lib.BuilderAtF 233 5 B b (.pointer (some ⟨b,0,none⟩)) bs w'/\Below B w w'):=by
  rcases h with h|h
  · refine(Ve b w h.cell0 h.shape h.frozen0).mono ?_
    rintro e w' ⟨rfl,rfl⟩
    exact⟨rfl,h.used _,(Below.refl B w).setCell (p:=⟨b,0,none⟩) h.1 _⟩
  · refine(Vf b w h.cell0).mono ?_
    rintro e w' ⟨rfl,rfl⟩
    exact⟨rfl,h,Below.refl B _⟩
set_option maxHeartbeats 2000000 in
set_option maxRecDepth 100000 in
def Vg(B b:Nat)(bs:List Value)(s:ByteArray)(w:World)(h:Lib.IsBuilderF 233 5 B b bs w)(hlen:bs.length+s.size<=140737488355328)(hBw:B<=w.heap.size):
    Calls Tryz.prog 186 #[.pointer (some ⟨b,0,none⟩),.string s] w λe w'=>e=.returned (.tuple #[.int .i64 s.size,.nilIface])/\(Lib.BuilderAtF 233 5 B b (.pointer (some ⟨b,0,none⟩)) (bs++Lib.strCells s) w'/\Below B w w'):=by
  obtain⟨i0,hi,hz0,hz1,hz2⟩:=info_parts (P:=Tryz.prog) (e:=5) (z:=.int .u8 0) (size:=1) (bytes:=1) (by kernel_rfl);go_enter Tryz.func186,Tryz.ntmps186;go_wp2_with (go_at_call 200;refine(Vd B b bs _ h).mono ?_);rintro e w1 ⟨rfl,h1,fk⟩;obtain⟨hB,v,hbk,hown,hne⟩:=h1;have c0:w1.cell? ⟨b,0,none⟩=some (.pointer (some ⟨b,0,none⟩)):=by rw[Lib.cell_of_heap hbk];rfl
  have c1:w1.cell? ⟨b,1,none⟩=some v:=by rw[Lib.cell_of_heap hbk];rfl
  go_wp2_with (at_builtin;refine Lib.wpList_append_own_stringF _ rfl _ _ 22 9 rfl B 5 i0 Tryz.underlying22 Tryz.underlying9 hi hz0 hz1 hz2 _ _ _ rfl hown s rfl ?c3 ?c4 ?c5 ?_);case c3=>unfold maxLen;omega
  case c4=>omega
  case c5=>have:=fk.size;omega
  intro v' w2 hown' hgrow _
  have hlt:b<w1.heap.size:=by
    rcases fN b w1.heap.size with h'|h';· exact h'
    · simp[jH h'] at hbk
  have fm:w2.heap[b]?=some (.cells #[.pointer (some ⟨b,0,none⟩),v] 233 (0,0)):=by rw[hgrow.block b hlt (λe=>hne e.symm)];exact hbk
  have d0:w2.cell? ⟨b,0,none⟩=some (.pointer (some ⟨b,0,none⟩)):=by rw[Lib.cell_of_heap fm];rfl
  have d1:w2.cell? ⟨b,1,none⟩=some v:=by rw[Lib.cell_of_heap fm];rfl
  have f1:w2.frozen? ⟨b,1,none⟩=false:=Lib.frozen_of_heap fm 1
  obtain⟨ao,n',cap,rfl⟩:∃ao n' cap,v'=.slice ao n' cap:=by
    rcases hown'.2 with ⟨hv,_⟩|⟨g,cap,cur,fz,hv,_⟩;· exact⟨_,_,_,hv⟩
    · exact⟨_,_,_,hv⟩
  go_wp2;go_ret2;refine⟨rfl,?_,?_⟩;· exact Lib.BuilderAtF.put (T:=233) (e:=5) hB fm (bs':=bs++Lib.strCells s) (by simpa [Lib.strCells_length] using hown') (by decide)
  · exact(fk.grown hgrow (by have:=fk.size;omega) (λk hk=>(hown.lt k hk).1)).setCell (p:=⟨b,1,none⟩) hB _
set_option maxHeartbeats 4000000 in
set_option maxRecDepth 1000000 in
def ZW(A:Option Addr)(cap:Nat)(fs:List (ByteArray×ByteArray))(w:World)
    (hc:∀i f,fs[i]?=some f->∃g o,A=some ⟨g,o,none⟩/\g<w.heap.size/\w.cell? ⟨g,o+i*2,none⟩=some (.string f.1)/\w.cell? ⟨g,o+i*2+1,none⟩=some (.string f.2))
    (hb:(M.ju fs).length<=140737488355328)(hl:fs.length<=140737488355328):
    Calls Tryz.prog 167 #[.slice A fs.length cap] w λe w'=>e=.returned (.string ⟨(M.ju fs).toArray⟩)/\Below w.heap.size w w':=by
  go_enter Tryz.func167,Tryz.ntmps167;go_wp2;go_loopw [8] (λvi wr=>∃k:Nat,vi=.int .i64 k/\k<=fs.length/\Lib.IsBuilderF 233 5 w.heap.size w.heap.size (Lib.byteCells (M.ju (fs.take k))) wr/\Below w.heap.size w wr) (λvi _=>fs.length - (intOf vi).toNat);case atStart=>exact⟨0,rfl,tj _,Lib.IsBuilderF.of (Lib.fresh_isBuilder 233 5 w),(Below.refl _ w).alloc (de _) _⟩
  case round=>
    obtain⟨k,rfl,hk,hI,r9⟩:=hrel;have hsz:w.heap.size<=wr.heap.size:=r9.size;by_cases hlt:k<fs.length
    · obtain⟨g,o,rfl,hg,hk1⟩:=hc k fs[k] (by simp[hlt])
      have c1:wr.cell? ⟨g,o+k*2,none⟩=some (.string fs[k].1):=by rw[r9.cell (p:=⟨g,o+k*2,none⟩) hg];exact hk1.1
      have c2:wr.cell? ⟨g,o+k*2+1,none⟩=some (.string fs[k].2):=by rw[r9.cell (p:=⟨g,o+k*2+1,none⟩) hg];exact hk1.2
      have hlt2:(k:Int)<fs.length:=by omega
      have hle:=M.ZX hlt
      have htk:=M.OW hlt
      have s1:¬9223372036854775807<fs[k].1.size+2:=by omega
      have s2:¬9223372036854775807<fs[k].1.size+2+fs[k].2.size:=by omega
      have s3:¬9223372036854775807<fs[k].1.size+2+fs[k].2.size+2:=by omega
      go_wp2_with (go_at_call 186;refine(Vg w.heap.size w.heap.size _ _ _ (hI.alloc _) ?_ ?_).mono ?_)
      · rw[Lib.byteCells_length]
        simp only[ByteArray.size_append]
        have e1:(⟨#[58,32]⟩:ByteArray).size=2:=rfl
        have e2:(⟨#[13,10]⟩:ByteArray).size=2:=rfl
        omega
      · simp only[World.alloc]
        simp
        omega
      rintro e W1 ⟨rfl,h1,b1⟩
      go_wp2
      go_roundw
      case rel=>
        refine⟨k+1,by go_num,by omega,?_,(r9.alloc hsz _).trans b1⟩
        rw[htk,Lib.byteCells_append]
        refine Or.inr ?_
        have e:Lib.strCells (fs[k].1++⟨#[58,32]⟩++fs[k].2++⟨#[13,10]⟩)=Lib.byteCells (fs[k].1.data.toList++[58,32]++fs[k].2.data.toList++[13,10]):=by rw[Lib.strCells_eq];congr 1
        rw[<-e]
        exact h1
      case measure=>
        simp[intOf]
        omega
    · have hlt2:¬(k:Int)<fs.length:=by omega
      go_wp2_with (go_at_call 187;refine(Tryz.Builder_String_any_f w.heap.size w.heap.size _ _ hI hsz).mono ?_)
      rintro e W1 rfl h2 b1
      clear h2
      go_wp2
      go_ret
      have:k=fs.length:=by omega
      subst this
      rw[vw]
      exact⟨rfl,r9.trans b1⟩
end Go.Proofs
namespace Go.Proofs
open Go.RowKit
set_option maxHeartbeats 2000000 in
set_option maxRecDepth 100000 in
def acH(s:ByteArray)(h:7<s.size)(w:World):
    Calls Go.Proofs.Tryz.prog 150 #[.string s] w λe w'=>e=.returned (.tuple #[.int .i64 0,.bool false])/\w'=w:=by go_enter Tryz.func150,Tryz.ntmps150;go_wp2;· go_ret2;exact⟨rfl,rfl⟩
set_option maxHeartbeats 2000000 in
set_option maxRecDepth 100000 in
def acJ(s:ByteArray)(h:¬7<s.size)(v:Int)(hv:Lib.atoiAll s.data.toList=.ok v)(w:World)(htab:Lib.TabIs Go.Proofs.Tryz.prog w "internal/strconv.uint64pow10" .u64 Lib.pow10Tab):
    Calls Go.Proofs.Tryz.prog 150 #[.string s] w λe w'=>e=.returned (.tuple #[.int .i64 (xW v s.data.toList),.bool (pq v s.data.toList)])/\Below w.heap.size w w':=by
  have lz:=Lib.atoiAll_bounds hv;go_enter Tryz.func150,Tryz.ntmps150
  go_wp2_with (first
    |(go_at_call 171;refine(Tryz.strconv_Atoi_ok s (by omega) v hv _).mono ?_;rintro e W1 ⟨rfl,mH⟩;have fk:Below w.heap.size w W1:=(by rcases mH with rfl|⟨t,rfl⟩;exact Below.refl _ _;exact Lib.bytesWorld_below _ _ _);clear mH)
    |(go_at_call 22;refine(Tryz.strconv_Itoa v lz.1 lz.2 _ (afr htab fk)).mono ?_;rintro e W2 ⟨rfl,k,os,Ph⟩;have fm:Below w.heap.size w W2:=(by subst Ph;exact fk.trans ((Z2 W1 k os).mono fk.size));clear Ph)
    |go_in)
  all_goals go_ret2
  all_goals refine⟨?_,by assumption⟩
  all_goals first
    | (have hb : pq v s.data.toList = true := (by
        unfold pq;rw[bx];refine⟨by assumption,by assumption,?_⟩;rw[<-Lib.toList_data];rename_i hz
        simpa using hz)
       rw[xW,aq hb,hb];rfl)
    | (have hb : pq v s.data.toList = false := (by
        unfold pq;rw[Tl];rintro ⟨h1,h2,h3⟩;first
        |omega
        | (rw[<-Lib.toList_data] at h3
           rename_i hz
           simp[h3] at hz))
       rw[xW,hb];rfl)
set_option maxHeartbeats 2000000 in
set_option maxRecDepth 100000 in
def acG(s:ByteArray)(h:¬7<s.size)(w:World)
    (hA:Calls Go.Proofs.Tryz.prog 171 #[.string s] w λe w'=>∃n t N,e=.returned (.tuple #[.int .i64 n,.iface t (.pointer (some ⟨N,0,none⟩))])/\Below w.heap.size w w'):
    Calls Go.Proofs.Tryz.prog 150 #[.string s] w λe w'=>e=.returned (.tuple #[.int .i64 0,.bool false])/\Below w.heap.size w w':=by
  go_enter Tryz.func150,Tryz.ntmps150
  go_wp2_with (first
    |(go_at_call 171;refine hA.mono ?_;rintro e W1 ⟨n,t,N,rfl,fk⟩)
    |go_in)
  all_goals go_ret2
  all_goals exact⟨rfl,by assumption⟩
def acF[B:M.Bs](htab:Lib.TabIs Go.Proofs.Tryz.prog B.W0 "internal/strconv.uint64pow10" .u64 Lib.pow10Tab) (IA:∃te pe,B.W0.var? Go.Proofs.Tryz.prog "strconv.ErrSyntax" =some #[.iface te pe]) (kD:∃te pe,B.W0.var? Go.Proofs.Tryz.prog "strconv.ErrRange" =some #[.iface te pe])
    (s:ByteArray) (w:World) (hw:M.ox w) (hs:s.size<=9223372036854775807):
    Calls Go.Proofs.Tryz.prog 150 #[.string s] w λe w'=>e=.returned (.tuple #[.int .i64 (((M.cy s.data.toList).getD 0:Nat):Int),.bool (M.cy s.data.toList).isSome])/\Below w.heap.size w w':=by
  refine acI (a:=0) hs (λh=>acH s h w) (λh v hv=>acJ s h v hv w (M.TabIs.same htab hw)) λh hv=>?_;refine acG s h w ?_;rcases eO:Lib.atoiAll s.data.toList with v|_|_;· exact absurd eO (hv v)
  · obtain⟨te,pe,h1⟩:=IA
    exact(Any.strconv_Atoi_syntax_var Tryz.laysC172 s (by omega) eO te pe w (SA h1 hw)).mono λe w' ⟨N,he,_,_,hb⟩=>⟨_,_,N,he,hb⟩
  · obtain⟨te,pe,h1⟩:=kD
    exact(Any.strconv_Atoi_range_var Tryz.laysC172 s (by omega) eO te pe w (SA h1 hw)).mono λe w' ⟨N,he,_,_,hb⟩=>⟨_,_,N,he,hb⟩
end Go.Proofs
namespace Go.Proofs
open Go.RowKit Go.Lib
set_option maxHeartbeats 4000000 in
set_option maxRecDepth 1000000 in
def XE(blk off cap len i:Nat)(news:List Value)(w:World)(nM:i<len)(hcap:len<=cap)(hnl:news.length=(len - (i+1))*13)
    (PL:∀t u,news[t]?=some u->w.cell? ⟨blk,off+(i+1)*13+t,none⟩=some u)(h1c:∀u∈news,u.oneCell'=true)
    (hH:∀t,t<len*13->(w.cell? ⟨blk,off+t,none⟩).isSome=true/\w.frozen? ⟨blk,off+t,none⟩=false):
    Calls Tryz.prog 113 #[.slice (some ⟨blk,off,none⟩) len cap,.int .i64 i,.int .i64 ((i:Int)+1)] w λe w'=>e=.returned (.slice (some ⟨blk,off,none⟩) (len - 1) cap)/\∃q,w'=((w.drewN q).setCells blk (off+i*13) news).setCells blk (off+(len - 1)*13) ([.int .i64 0,.string ⟨#[]⟩,.slice none 0 0,.string ⟨#[]⟩,.slice none 0 0,.string ⟨#[]⟩,.slice none 0 0,.slice none 0 0,.int .i64 0,.slice none 0 0,.string ⟨#[]⟩,.int .i64 0,.bool false]:List Value):=by
  obtain⟨i0,hi0,hz0,hz1,hz2⟩:=info_parts (P:=Tryz.prog) (e:=68) (z:=(.agg #[.int .i64 0,.string ⟨#[]⟩,.slice none 0 0,.string ⟨#[]⟩,.slice none 0 0,.string ⟨#[]⟩,.slice none 0 0,.slice none 0 0,.int .i64 0,.slice none 0 0,.string ⟨#[]⟩,.int .i64 0,.bool false])) (size:=13) (bytes:=216) (by kernel_rfl)
  obtain⟨A,hA,hsrc⟩:∃A:Addr,(if cap=i+1 then some (⟨blk,off,none⟩:Addr) else some ⟨blk,off+(i+1)*13,none⟩)=some A/\Hid (∀t u,news[t]?=some u->w.drew.cell? (A.add t)=some u):=by
    by_cases h:cap=i+1
    · refine⟨⟨blk,off,none⟩,by simp[h],λt u hu=>?_⟩
      have h0:news.length=0:=by rw[hnl,show len - (i+1)=0 by omega,Nat.zero_mul]
      rw[GG.1 h0] at hu
      simp at hu
    · refine⟨⟨blk,off+(i+1)*13,none⟩,by simp[h],λt u hu=>?_⟩
      rw[Addr.add_lit]
      exact PL t u hu
  have s1:Hid (news.length=(len - (i+1))*13):=hnl;have s2:Hid (∀u∈news,u.oneCell'=true):=h1c;have s3:Hid (∀t,t<news.length->(w.drew.cell? ⟨blk,off+i*13+t,none⟩).isSome=true/\w.drew.frozen? ⟨blk,off+i*13+t,none⟩=false):=by intro t ht;rw[hnl] at ht;have:=hH (i*13+t) (by omega);rw[ng];exact this
  obtain⟨W1,mH⟩:∃W1,W1=w.drew.setCells blk (off+i*13) news:=⟨_,rfl⟩;haveI:M.Bs:=⟨w⟩;have zE:=M.Ext.setCells blk news (off+i*13) w.drew;rw[<-mH] at zE
  have aaV:blk<w.heap.size:=by
    have:=(hH 0 (by omega)).1;rcases fN blk w.heap.size with h|h;· exact h
    · simp[World.cell?,jH h] at this
  have Io:∀t,t<len*13->(W1.cell? ⟨blk,off+t,none⟩).isSome=true/\W1.frozen? ⟨blk,off+t,none⟩=false:=by
    intro t ht;refine⟨?_,(zE.frozen aaV).trans (hH t ht).2⟩;by_cases hin:i*13<=t/\t<i*13+news.length
    · have hs:∀j,j<news.length->(w.drew.cell? ⟨blk,off+i*13+j,none⟩).isSome=true:=λj hj=>by
        rw[ng]
        exact(hH (i*13+j) (by rw[hnl] at hj;omega)).1
      have:=World.cell?_setCells_in blk news (off+i*13) w.drew hs (t - i*13) (by omega)
      rw[mH,show off+t=off+i*13+(t - i*13) by omega,this]
      rfl
    · rw[mH,World.cell?_setCells_out _ _ _ _ _ (λ_ _=>by simp only;omega)]
      exact(hH t ht).1
  have hcl:∀ty c,(Builtin.clear_ #[38] ty #[.slice (some ⟨blk,off+(len - 1)*13,none⟩) 1 c]).run Tryz.prog W1=.ok (.tuple #[]) (W1.setCells blk (off+(len - 1)*13) ([.int .i64 0,.string ⟨#[]⟩,.slice none 0 0,.string ⟨#[]⟩,.slice none 0 0,.string ⟨#[]⟩,.slice none 0 0,.slice none 0 0,.int .i64 0,.slice none 0 0,.string ⟨#[]⟩,.int .i64 0,.bool false]:List Value)):=by
    intro ty c
    have hst:=run_storeCells_cells (P:=Tryz.prog) blk (off+(len - 1)*13) ([.int .i64 0,.string ⟨#[]⟩,.slice none 0 0,.string ⟨#[]⟩,.slice none 0 0,.string ⟨#[]⟩,.slice none 0 0,.slice none 0 0,.int .i64 0,.slice none 0 0,.string ⟨#[]⟩,.int .i64 0,.bool false]:List Value) 0 W1 (λj hj=>by
      have:=(Io ((len - 1)*13+j) (by simp only[cV,jl] at hj;omega)).1;rw[<-ng] at this;simpa using this) (λj hj=>by
      have:=(Io ((len - 1)*13+j) (by simp only[cV,jl] at hj;omega)).2;rw[<-ng] at this;simpa using this) (by decide)
    simp only[nh] at hst;have I9:∀w,(zeroValue 68).run Tryz.prog w=.ok (.agg #[.int .i64 0,.string ⟨#[]⟩,.slice none 0 0,.string ⟨#[]⟩,.slice none 0 0,.string ⟨#[]⟩,.slice none 0 0,.slice none 0 0,.int .i64 0,.slice none 0 0,.string ⟨#[]⟩,.int .i64 0,.bool false]) w:=by intro w;simp[zeroValue,typeInfo,hi0,hz0]
    have hzc:(Builtin.zeroCells (#[.int .i64 0,.string ⟨#[]⟩,.slice none 0 0,.string ⟨#[]⟩,.slice none 0 0,.string ⟨#[]⟩,.slice none 0 0,.slice none 0 0,.int .i64 0,.slice none 0 0,.string ⟨#[]⟩,.int .i64 0,.bool false]) 1).toList=([.int .i64 0,.string ⟨#[]⟩,.slice none 0 0,.string ⟨#[]⟩,.slice none 0 0,.string ⟨#[]⟩,.slice none 0 0,.slice none 0 0,.int .i64 0,.slice none 0 0,.string ⟨#[]⟩,.int .i64 0,.bool false]:List Value):=by simp[Builtin.zeroCells,l9]
    simp[Builtin.clear_,run_underlying Tryz.underlying38,I9,Value.cells,hzc,hst]
  have hW:Hid (W1=w.drew.setCells blk (off+i*13) news):=mH;clear mH zE Io hH PL h1c hnl;obtain⟨j,hj⟩:∃j,j=i+1:=⟨_,rfl⟩;rw[<-hj] at hA s1;have hji:((i:Int)+1)=((j:Nat):Int):=by omega
  rw[hji];have hic:i<=cap:=by omega
  have hjc:j<=cap:=by omega
  have akB:i<=len:=by omega
  have hjl:j<=len:=by omega
  have hij:i<=j:=by omega
  have hne:¬(i:Int)=(j:Nat):=by omega
  have mixed:Tryz.prog.follows Departure.mixedOrders=true:=by kernel_rfl
  have hjH:Hid (j=i+1):=hj;have akD:(j:Int)<=len:=by omega
  have hj0:(0:Int)<=j:=by omega
  have e1:i+(len - j)=len - 1:=by omega
  have e2:len - (i+(len - j))=1:=by omega
  have Po:∀ty c,(Builtin.clear_ #[38] ty #[.slice (some ⟨blk,off+(i+(len - j))*13,none⟩) (len - (i+(len - j))) c]).run Tryz.prog W1=.ok (.tuple #[]) (W1.setCells blk (off+(i+(len - j))*13) ([.int .i64 0,.string ⟨#[]⟩,.slice none 0 0,.string ⟨#[]⟩,.slice none 0 0,.string ⟨#[]⟩,.slice none 0 0,.slice none 0 0,.int .i64 0,.slice none 0 0,.string ⟨#[]⟩,.int .i64 0,.bool false]:List Value)):=by rw[e2,e1];exact hcl
  have Pt:Hid (i+(len - j)=len - 1):=e1;clear hcl e1 e2;clear hji hj;go_enter Tryz.func113,Tryz.ntmps113;go_wp2_with fail;go_region_law_o (refine step_append_room rfl (.tmp 22) (.tmp 25) 38 rfl 68 i0 13 Tryz.underlying38 hi0 hz1 blk off i cap (by simp[Act.eval,Act.put]) A (len - j) (cap - j) news (by simp[Act.eval,Act.put]) s1.out hsrc.out s2.out (by omega) s3.out ?_;rw[<-hW.out]);go_wp2;go_ret;refine⟨by rw[Pt.out];rfl,1,?_⟩;rw[Pt.out,hW.out];rfl
end Go.Proofs
namespace M
open Go
variable [Bs]
def agI:Told Go.Proofs.Tryz.prog 3 BB [.t 2] 1:=Told.of Go.Proofs.Tryz.func3 (by decide+kernel)
def YS:aC Go.Proofs.Tryz.prog 3=true:=by decide+kernel
def agY:Told Go.Proofs.Tryz.prog 5 Fv [.t 2] 1:=Told.of Go.Proofs.Tryz.func5 (by decide+kernel)
def Y6:aC Go.Proofs.Tryz.prog 5=true:=by decide+kernel
def ag9:Told Go.Proofs.Tryz.prog 6 xJ [.t 4] 2:=Told.of Go.Proofs.Tryz.func6 (by decide+kernel)
def Zh:aC Go.Proofs.Tryz.prog 6=true:=by decide+kernel
def ahj:Told Go.Proofs.Tryz.prog 7 Ed [.c 0 10 true 42] 0:=Told.of Go.Proofs.Tryz.func7 (by decide+kernel)
def Zq:aC Go.Proofs.Tryz.prog 7=true:=by decide+kernel
def aht:Told Go.Proofs.Tryz.prog 8 wY [.c 4 10 true 42,.t 5] 2:=Told.of Go.Proofs.Tryz.func8 (by decide+kernel)
def ZA:aC Go.Proofs.Tryz.prog 8=true:=by decide+kernel
def ahA:Told Go.Proofs.Tryz.prog 9 ET [.t 2] 1:=Told.of Go.Proofs.Tryz.func9 (by decide+kernel)
def ZH:aC Go.Proofs.Tryz.prog 9=true:=by decide+kernel
def afy:Told Go.Proofs.Tryz.prog 10 Ba [.c 4 3 true 47,.t 5] 2:=Told.of Go.Proofs.Tryz.func10 (by decide+kernel)
def XK:aC Go.Proofs.Tryz.prog 10=true:=by decide+kernel
def afI:Told Go.Proofs.Tryz.prog 11 EB [.t 2,.t 3] 1:=Told.of Go.Proofs.Tryz.func11 (by decide+kernel)
def XU:aC Go.Proofs.Tryz.prog 11=true:=by decide+kernel
def afS:Told Go.Proofs.Tryz.prog 12 AU [.t 2] 1:=Told.of Go.Proofs.Tryz.func12 (by decide+kernel)
def X4:aC Go.Proofs.Tryz.prog 12=true:=by decide+kernel
def agh:Told Go.Proofs.Tryz.prog 15 EC [.c 0 6 true 37] 0:=Told.of Go.Proofs.Tryz.func15 (by decide+kernel)
def Yr:aC Go.Proofs.Tryz.prog 15=true:=by decide+kernel
def agm:Told Go.Proofs.Tryz.prog 16 E7 [.t 6] 3:=Told.of Go.Proofs.Tryz.func16 (by decide+kernel)
def Yw:aC Go.Proofs.Tryz.prog 16=true:=by decide+kernel
def agt:Told Go.Proofs.Tryz.prog 17 qv [.t 2] 1:=Told.of Go.Proofs.Tryz.func17 (by decide+kernel)
def YD:aC Go.Proofs.Tryz.prog 17=true:=by decide+kernel
def agy:Told Go.Proofs.Tryz.prog 18 EW [.c 2 10 true 42] 1:=Told.of Go.Proofs.Tryz.func18 (by decide+kernel)
def YI:aC Go.Proofs.Tryz.prog 18=true:=by decide+kernel
def agz:Told Go.Proofs.Tryz.prog 19 oM [.t 4] 2:=Told.of Go.Proofs.Tryz.func19 (by decide+kernel)
def YJ:aC Go.Proofs.Tryz.prog 19=true:=by decide+kernel
def agB:Told Go.Proofs.Tryz.prog 20 Fi [.t 2] 1:=Told.of Go.Proofs.Tryz.func20 (by decide+kernel)
def YL:aC Go.Proofs.Tryz.prog 20=true:=by decide+kernel
def agC:Told Go.Proofs.Tryz.prog 21 E2 [.c 2 3 true 47] 1:=Told.of Go.Proofs.Tryz.func21 (by decide+kernel)
def YM:aC Go.Proofs.Tryz.prog 21=true:=by decide+kernel
def agE:Told Go.Proofs.Tryz.prog 26 Eo [.c 0 2 true 33] 0:=Told.of Go.Proofs.Tryz.func26 (by decide+kernel)
def YO:aC Go.Proofs.Tryz.prog 26=true:=by decide+kernel
def agF:Told Go.Proofs.Tryz.prog 27 Fb [.t 2] 1:=Told.of Go.Proofs.Tryz.func27 (by decide+kernel)
def YP:aC Go.Proofs.Tryz.prog 27=true:=by decide+kernel
def agG:Told Go.Proofs.Tryz.prog 28 E6 [.t 2] 1:=Told.of Go.Proofs.Tryz.func28 (by decide+kernel)
def YQ:aC Go.Proofs.Tryz.prog 28=true:=by decide+kernel
def agH:Told Go.Proofs.Tryz.prog 29 nR [.t 2] 1:=Told.of Go.Proofs.Tryz.func29 (by decide+kernel)
def YR:aC Go.Proofs.Tryz.prog 29=true:=by decide+kernel
def agJ:Told Go.Proofs.Tryz.prog 30 E3 [.c 2 6 true 37] 1:=Told.of Go.Proofs.Tryz.func30 (by decide+kernel)
def YT:aC Go.Proofs.Tryz.prog 30=true:=by decide+kernel
def agK:Told Go.Proofs.Tryz.prog 31 E1 [.c 2 4 true 29] 1:=Told.of Go.Proofs.Tryz.func31 (by decide+kernel)
def YU:aC Go.Proofs.Tryz.prog 31=true:=by decide+kernel
def agM:Told Go.Proofs.Tryz.prog 33 EZ [.c 2 7 true 60] 1:=Told.of Go.Proofs.Tryz.func33 (by decide+kernel)
def YV:aC Go.Proofs.Tryz.prog 33=true:=by decide+kernel
def agN:Told Go.Proofs.Tryz.prog 34 E0 [.c 2 18 true 62] 1:=Told.of Go.Proofs.Tryz.func34 (by decide+kernel)
def YW:aC Go.Proofs.Tryz.prog 34=true:=by decide+kernel
def agO:Told Go.Proofs.Tryz.prog 35 qw [.t 4] 2:=Told.of Go.Proofs.Tryz.func35 (by decide+kernel)
def YX:aC Go.Proofs.Tryz.prog 35=true:=by decide+kernel
def agP:Told Go.Proofs.Tryz.prog 36 nP [.t 4] 2:=Told.of Go.Proofs.Tryz.func36 (by decide+kernel)
def YY:aC Go.Proofs.Tryz.prog 36=true:=by decide+kernel
def agQ:Told Go.Proofs.Tryz.prog 37 wZ [.t 4] 2:=Told.of Go.Proofs.Tryz.func37 (by decide+kernel)
def YZ:aC Go.Proofs.Tryz.prog 37=true:=by decide+kernel
def agR:Told Go.Proofs.Tryz.prog 38 Ar [.t 4] 2:=Told.of Go.Proofs.Tryz.func38 (by decide+kernel)
def Y0:aC Go.Proofs.Tryz.prog 38=true:=by decide+kernel
def agS:Told Go.Proofs.Tryz.prog 39 Ee [.t 4] 2:=Told.of Go.Proofs.Tryz.func39 (by decide+kernel)
def Y1:aC Go.Proofs.Tryz.prog 39=true:=by decide+kernel
def agT:Told Go.Proofs.Tryz.prog 40 Er [] 1:=Told.of Go.Proofs.Tryz.func40 (by decide+kernel)
def Y2:aC Go.Proofs.Tryz.prog 40=true:=by decide+kernel
def agU:Told Go.Proofs.Tryz.prog 41 Fg [.c 2 6 true 37] 1:=Told.of Go.Proofs.Tryz.func41 (by decide+kernel)
def Y3:aC Go.Proofs.Tryz.prog 41=true:=by decide+kernel
def agV:Told Go.Proofs.Tryz.prog 42 En [.c 4 2 true 33] 2:=Told.of Go.Proofs.Tryz.func42 (by decide+kernel)
def Y4:aC Go.Proofs.Tryz.prog 42=true:=by decide+kernel
def agX:Told Go.Proofs.Tryz.prog 46 Ev [.t 4] 2:=Told.of Go.Proofs.Tryz.func46 (by decide+kernel)
def Y5:aC Go.Proofs.Tryz.prog 46=true:=by decide+kernel
def agZ:Told Go.Proofs.Tryz.prog 50 xk [.t 2] 1:=Told.of Go.Proofs.Tryz.func50 (by decide+kernel)
def Y7:aC Go.Proofs.Tryz.prog 50=true:=by decide+kernel
def ag0:Told Go.Proofs.Tryz.prog 51 mO [.t 2] 1:=Told.of Go.Proofs.Tryz.func51 (by decide+kernel)
def Y8:aC Go.Proofs.Tryz.prog 51=true:=by decide+kernel
def ag1:Told Go.Proofs.Tryz.prog 52 ux [.t 4] 2:=Told.of Go.Proofs.Tryz.func52 (by decide+kernel)
def Y9:aC Go.Proofs.Tryz.prog 52=true:=by decide+kernel
def ag2:Told Go.Proofs.Tryz.prog 53 qu [.t 2] 1:=Told.of Go.Proofs.Tryz.func53 (by decide+kernel)
def Za:aC Go.Proofs.Tryz.prog 53=true:=by decide+kernel
def ag3:Told Go.Proofs.Tryz.prog 54 Fa [.t 2] 1:=Told.of Go.Proofs.Tryz.func54 (by decide+kernel)
def Zb:aC Go.Proofs.Tryz.prog 54=true:=by decide+kernel
def ag4:Told Go.Proofs.Tryz.prog 55 Ep [.t 2] 1:=Told.of Go.Proofs.Tryz.func55 (by decide+kernel)
def Zc:aC Go.Proofs.Tryz.prog 55=true:=by decide+kernel
def ag5:Told Go.Proofs.Tryz.prog 56 EI [.t 2] 1:=Told.of Go.Proofs.Tryz.func56 (by decide+kernel)
def Zd:aC Go.Proofs.Tryz.prog 56=true:=by decide+kernel
def ag6:Told Go.Proofs.Tryz.prog 57 EX [.c 2 2 true 33] 1:=Told.of Go.Proofs.Tryz.func57 (by decide+kernel)
def Ze:aC Go.Proofs.Tryz.prog 57=true:=by decide+kernel
def ag7:Told Go.Proofs.Tryz.prog 58 EY [.t 2] 1:=Told.of Go.Proofs.Tryz.func58 (by decide+kernel)
def Zg:aC Go.Proofs.Tryz.prog 58=true:=by decide+kernel
def ahb:Told Go.Proofs.Tryz.prog 61 Am [] 2:=Told.of Go.Proofs.Tryz.func61 (by decide+kernel)
def Zi:aC Go.Proofs.Tryz.prog 61=true:=by decide+kernel
def ahc:Told Go.Proofs.Tryz.prog 63 uH [.t 8] 4:=Told.of Go.Proofs.Tryz.func63 (by decide+kernel)
def Zj:aC Go.Proofs.Tryz.prog 63=true:=by decide+kernel
def ahd:Told Go.Proofs.Tryz.prog 64 Ef [] 3:=Told.of Go.Proofs.Tryz.func64 (by decide+kernel)
def Zk:aC Go.Proofs.Tryz.prog 64=true:=by decide+kernel
def ahe:Told Go.Proofs.Tryz.prog 65 w8 [] 3:=Told.of Go.Proofs.Tryz.func65 (by decide+kernel)
def Zl:aC Go.Proofs.Tryz.prog 65=true:=by decide+kernel
def ahf:Told Go.Proofs.Tryz.prog 66 uC [.t 2] 1:=Told.of Go.Proofs.Tryz.func66 (by decide+kernel)
def Zm:aC Go.Proofs.Tryz.prog 66=true:=by decide+kernel
def ahg:Told Go.Proofs.Tryz.prog 67 Eg [.t 4] 2:=Told.of Go.Proofs.Tryz.func67 (by decide+kernel)
def Zn:aC Go.Proofs.Tryz.prog 67=true:=by decide+kernel
def ahh:Told Go.Proofs.Tryz.prog 68 w6 [] 3:=Told.of Go.Proofs.Tryz.func68 (by decide+kernel)
def Zo:aC Go.Proofs.Tryz.prog 68=true:=by decide+kernel
def ahi:Told Go.Proofs.Tryz.prog 69 xh [.c 6 7 true 60,.t 7] 3:=Told.of Go.Proofs.Tryz.func69 (by decide+kernel)
def Zp:aC Go.Proofs.Tryz.prog 69=true:=by decide+kernel
def ahk:Told Go.Proofs.Tryz.prog 70 sJ [.t 4] 2:=Told.of Go.Proofs.Tryz.func70 (by decide+kernel)
def Zr:aC Go.Proofs.Tryz.prog 70=true:=by decide+kernel
def ahl:Told Go.Proofs.Tryz.prog 71 w5 [] 4:=Told.of Go.Proofs.Tryz.func71 (by decide+kernel)
def Zs:aC Go.Proofs.Tryz.prog 71=true:=by decide+kernel
def ahm:Told Go.Proofs.Tryz.prog 72 uD [.t 4] 2:=Told.of Go.Proofs.Tryz.func72 (by decide+kernel)
def Zt:aC Go.Proofs.Tryz.prog 72=true:=by decide+kernel
def ahn:Told Go.Proofs.Tryz.prog 73 Bd [] 1:=Told.of Go.Proofs.Tryz.func73 (by decide+kernel)
def Zu:aC Go.Proofs.Tryz.prog 73=true:=by decide+kernel
def aho:Told Go.Proofs.Tryz.prog 74 EG [.t 2] 1:=Told.of Go.Proofs.Tryz.func74 (by decide+kernel)
def Zv:aC Go.Proofs.Tryz.prog 74=true:=by decide+kernel
def ahp:Told Go.Proofs.Tryz.prog 75 Ck [.t 4] 2:=Told.of Go.Proofs.Tryz.func75 (by decide+kernel)
def Zw:aC Go.Proofs.Tryz.prog 75=true:=by decide+kernel
def ahq:Told Go.Proofs.Tryz.prog 76 Fe [.t 3] 2:=Told.of Go.Proofs.Tryz.func76 (by decide+kernel)
def Zx:aC Go.Proofs.Tryz.prog 76=true:=by decide+kernel
def ahr:Told Go.Proofs.Tryz.prog 77 xy [.t 4] 2:=Told.of Go.Proofs.Tryz.func77 (by decide+kernel)
def Zy:aC Go.Proofs.Tryz.prog 77=true:=by decide+kernel
def ahs:Told Go.Proofs.Tryz.prog 78 Bk [.t 2] 1:=Told.of Go.Proofs.Tryz.func78 (by decide+kernel)
def Zz:aC Go.Proofs.Tryz.prog 78=true:=by decide+kernel
def ahu:Told Go.Proofs.Tryz.prog 80 Ek [.c 2 6 true 129] 1:=Told.of Go.Proofs.Tryz.func80 (by decide+kernel)
def ZB:aC Go.Proofs.Tryz.prog 80=true:=by decide+kernel
def ahv:Told Go.Proofs.Tryz.prog 81 Eu [.t 6] 3:=Told.of Go.Proofs.Tryz.func81 (by decide+kernel)
def ZC:aC Go.Proofs.Tryz.prog 81=true:=by decide+kernel
def ahw:Told Go.Proofs.Tryz.prog 82 EM [.t 6] 3:=Told.of Go.Proofs.Tryz.func82 (by decide+kernel)
def ZD:aC Go.Proofs.Tryz.prog 82=true:=by decide+kernel
def ahx:Told Go.Proofs.Tryz.prog 84 uy [.c 6 3 true 47] 3:=Told.of Go.Proofs.Tryz.func84 (by decide+kernel)
def ZE:aC Go.Proofs.Tryz.prog 84=true:=by decide+kernel
def ahy:Told Go.Proofs.Tryz.prog 86 qC [.t 4] 2:=Told.of Go.Proofs.Tryz.func86 (by decide+kernel)
def ZF:aC Go.Proofs.Tryz.prog 86=true:=by decide+kernel
def ahz:Told Go.Proofs.Tryz.prog 89 xC [.t 2] 1:=Told.of Go.Proofs.Tryz.func89 (by decide+kernel)
def ZG:aC Go.Proofs.Tryz.prog 89=true:=by decide+kernel
def ahB:Told Go.Proofs.Tryz.prog 90 Et [.t 2] 1:=Told.of Go.Proofs.Tryz.func90 (by decide+kernel)
def ZI:aC Go.Proofs.Tryz.prog 90=true:=by decide+kernel
def ahC:Told Go.Proofs.Tryz.prog 91 uG [.t 2] 1:=Told.of Go.Proofs.Tryz.func91 (by decide+kernel)
def ZJ:aC Go.Proofs.Tryz.prog 91=true:=by decide+kernel
def ahD:Told Go.Proofs.Tryz.prog 92 Fh [.t 2] 1:=Told.of Go.Proofs.Tryz.func92 (by decide+kernel)
def ZK:aC Go.Proofs.Tryz.prog 92=true:=by decide+kernel
def ahE:Told Go.Proofs.Tryz.prog 93 Gm [.t 4] 2:=Told.of Go.Proofs.Tryz.func93 (by decide+kernel)
def ZL:aC Go.Proofs.Tryz.prog 93=true:=by decide+kernel
def ahF:Told Go.Proofs.Tryz.prog 94 ES [.t 2] 1:=Told.of Go.Proofs.Tryz.func94 (by decide+kernel)
def ZM:aC Go.Proofs.Tryz.prog 94=true:=by decide+kernel
def ahG:Told Go.Proofs.Tryz.prog 95 E8 [.t 2] 1:=Told.of Go.Proofs.Tryz.func95 (by decide+kernel)
def ZN:aC Go.Proofs.Tryz.prog 95=true:=by decide+kernel
def ahH:Told Go.Proofs.Tryz.prog 96 Gl [.t 4] 2:=Told.of Go.Proofs.Tryz.func96 (by decide+kernel)
def ZO:aC Go.Proofs.Tryz.prog 96=true:=by decide+kernel
def ahI:Told Go.Proofs.Tryz.prog 97 EO [.t 2] 1:=Told.of Go.Proofs.Tryz.func97 (by decide+kernel)
def ZP:aC Go.Proofs.Tryz.prog 97=true:=by decide+kernel
def ahJ:Told Go.Proofs.Tryz.prog 98 E9 [.t 2] 1:=Told.of Go.Proofs.Tryz.func98 (by decide+kernel)
def ZQ:aC Go.Proofs.Tryz.prog 98=true:=by decide+kernel
def ahK:Told Go.Proofs.Tryz.prog 99 EH [.t 3] 2:=Told.of Go.Proofs.Tryz.func99 (by decide+kernel)
def ZR:aC Go.Proofs.Tryz.prog 99=true:=by decide+kernel
def afA:Told Go.Proofs.Tryz.prog 101 Eh [] 4:=Told.of Go.Proofs.Tryz.func101 (by decide+kernel)
def XL:aC Go.Proofs.Tryz.prog 101=true:=by decide+kernel
def afB:Told Go.Proofs.Tryz.prog 103 Cr [.t 4] 2:=Told.of Go.Proofs.Tryz.func103 (by decide+kernel)
def XM:aC Go.Proofs.Tryz.prog 103=true:=by decide+kernel
def afC:Told Go.Proofs.Tryz.prog 104 Ej [.t 3] 2:=Told.of Go.Proofs.Tryz.func104 (by decide+kernel)
def XO:aC Go.Proofs.Tryz.prog 104=true:=by decide+kernel
def afD:Told Go.Proofs.Tryz.prog 105 Ez [.c 4 3 true 47] 2:=Told.of Go.Proofs.Tryz.func105 (by decide+kernel)
def XP:aC Go.Proofs.Tryz.prog 105=true:=by decide+kernel
def afE:Told Go.Proofs.Tryz.prog 106 mN [.t 4] 2:=Told.of Go.Proofs.Tryz.func106 (by decide+kernel)
def XQ:aC Go.Proofs.Tryz.prog 106=true:=by decide+kernel
def afF:Told Go.Proofs.Tryz.prog 107 ER [.t 4] 2:=Told.of Go.Proofs.Tryz.func107 (by decide+kernel)
def XR:aC Go.Proofs.Tryz.prog 107=true:=by decide+kernel
def afG:Told Go.Proofs.Tryz.prog 108 xj [.t 4] 2:=Told.of Go.Proofs.Tryz.func108 (by decide+kernel)
def XS:aC Go.Proofs.Tryz.prog 108=true:=by decide+kernel
def afH:Told Go.Proofs.Tryz.prog 109 A6 [.t 2] 1:=Told.of Go.Proofs.Tryz.func109 (by decide+kernel)
def XT:aC Go.Proofs.Tryz.prog 109=true:=by decide+kernel
def afJ:Told Go.Proofs.Tryz.prog 110 tf [.t 4] 2:=Told.of Go.Proofs.Tryz.func110 (by decide+kernel)
def XV:aC Go.Proofs.Tryz.prog 110=true:=by decide+kernel
def afK:Told Go.Proofs.Tryz.prog 111 EE [.t 4] 3:=Told.of Go.Proofs.Tryz.func111 (by decide+kernel)
def XW:aC Go.Proofs.Tryz.prog 111=true:=by decide+kernel
def afL:Told Go.Proofs.Tryz.prog 112 Be [] 3:=Told.of Go.Proofs.Tryz.func112 (by decide+kernel)
def XX:aC Go.Proofs.Tryz.prog 112=true:=by decide+kernel
def afM:Told Go.Proofs.Tryz.prog 114 Ei [] 5:=Told.of Go.Proofs.Tryz.func114 (by decide+kernel)
def XY:aC Go.Proofs.Tryz.prog 114=true:=by decide+kernel
def afN:Told Go.Proofs.Tryz.prog 115 Ak [.t 2] 1:=Told.of Go.Proofs.Tryz.func115 (by decide+kernel)
def XZ:aC Go.Proofs.Tryz.prog 115=true:=by decide+kernel
def afO:Told Go.Proofs.Tryz.prog 116 ED [.t 3] 2:=Told.of Go.Proofs.Tryz.func116 (by decide+kernel)
def X0:aC Go.Proofs.Tryz.prog 116=true:=by decide+kernel
def afP:Told Go.Proofs.Tryz.prog 117 nQ [.t 2,.t 3,.t 4] 1:=Told.of Go.Proofs.Tryz.func117 (by decide+kernel)
def X1:aC Go.Proofs.Tryz.prog 117=true:=by decide+kernel
def afQ:Told Go.Proofs.Tryz.prog 118 Es [.t 4] 2:=Told.of Go.Proofs.Tryz.func118 (by decide+kernel)
def X2:aC Go.Proofs.Tryz.prog 118=true:=by decide+kernel
def afR:Told Go.Proofs.Tryz.prog 119 uz [.c 2 4 true 49,.t 3] 1:=Told.of Go.Proofs.Tryz.func119 (by decide+kernel)
def X3:aC Go.Proofs.Tryz.prog 119=true:=by decide+kernel
def afT:Told Go.Proofs.Tryz.prog 120 xq [] 2:=Told.of Go.Proofs.Tryz.func120 (by decide+kernel)
def X5:aC Go.Proofs.Tryz.prog 120=true:=by decide+kernel
def afU:Told Go.Proofs.Tryz.prog 121 oX [.c 2 7 true 60,.t 3] 1:=Told.of Go.Proofs.Tryz.func121 (by decide+kernel)
def X6:aC Go.Proofs.Tryz.prog 121=true:=by decide+kernel
def afV:Told Go.Proofs.Tryz.prog 122 Gn [] 2:=Told.of Go.Proofs.Tryz.func122 (by decide+kernel)
def X7:aC Go.Proofs.Tryz.prog 122=true:=by decide+kernel
def afW:Told Go.Proofs.Tryz.prog 123 EF [.t 4] 2:=Told.of Go.Proofs.Tryz.func123 (by decide+kernel)
def X8:aC Go.Proofs.Tryz.prog 123=true:=by decide+kernel
def afX:Told Go.Proofs.Tryz.prog 124 Gj [.t 4] 2:=Told.of Go.Proofs.Tryz.func124 (by decide+kernel)
def X9:aC Go.Proofs.Tryz.prog 124=true:=by decide+kernel
def afY:Told Go.Proofs.Tryz.prog 125 oa [.t 4] 2:=Told.of Go.Proofs.Tryz.func125 (by decide+kernel)
def Ya:aC Go.Proofs.Tryz.prog 125=true:=by decide+kernel
def afZ:Told Go.Proofs.Tryz.prog 130 AO [.t 4,.t 5] 2:=Told.of Go.Proofs.Tryz.func130 (by decide+kernel)
def Yb:aC Go.Proofs.Tryz.prog 130=true:=by decide+kernel
def af0:Told Go.Proofs.Tryz.prog 131 El [.c 2 6 true 129] 1:=Told.of Go.Proofs.Tryz.func131 (by decide+kernel)
def Yc:aC Go.Proofs.Tryz.prog 131=true:=by decide+kernel
def af1:Told Go.Proofs.Tryz.prog 132 wX [.t 6] 3:=Told.of Go.Proofs.Tryz.func132 (by decide+kernel)
def Yd:aC Go.Proofs.Tryz.prog 132=true:=by decide+kernel
def af2:Told Go.Proofs.Tryz.prog 133 Ew [.t 2] 1:=Told.of Go.Proofs.Tryz.func133 (by decide+kernel)
def Ye:aC Go.Proofs.Tryz.prog 133=true:=by decide+kernel
def af3:Told Go.Proofs.Tryz.prog 134 Cl [.t 4] 2:=Told.of Go.Proofs.Tryz.func134 (by decide+kernel)
def Yf:aC Go.Proofs.Tryz.prog 134=true:=by decide+kernel
def af4:Told Go.Proofs.Tryz.prog 135 xl [.t 4] 2:=Told.of Go.Proofs.Tryz.func135 (by decide+kernel)
def Yg:aC Go.Proofs.Tryz.prog 135=true:=by decide+kernel
def af5:Told Go.Proofs.Tryz.prog 136 EJ [.c 2 3 true 47] 1:=Told.of Go.Proofs.Tryz.func136 (by decide+kernel)
def Yh:aC Go.Proofs.Tryz.prog 136=true:=by decide+kernel
def af6:Told Go.Proofs.Tryz.prog 137 A7 [.t 6] 3:=Told.of Go.Proofs.Tryz.func137 (by decide+kernel)
def Yi:aC Go.Proofs.Tryz.prog 137=true:=by decide+kernel
def af7:Told Go.Proofs.Tryz.prog 139 EU [.t 4] 2:=Told.of Go.Proofs.Tryz.func139 (by decide+kernel)
def Yj:aC Go.Proofs.Tryz.prog 139=true:=by decide+kernel
def af8:Told Go.Proofs.Tryz.prog 140 E5 [.t 4] 2:=Told.of Go.Proofs.Tryz.func140 (by decide+kernel)
def Yk:aC Go.Proofs.Tryz.prog 140=true:=by decide+kernel
def af9:Told Go.Proofs.Tryz.prog 141 EP [.t 2] 1:=Told.of Go.Proofs.Tryz.func141 (by decide+kernel)
def Yl:aC Go.Proofs.Tryz.prog 141=true:=by decide+kernel
def aga:Told Go.Proofs.Tryz.prog 142 EL [.t 2] 1:=Told.of Go.Proofs.Tryz.func142 (by decide+kernel)
def Ym:aC Go.Proofs.Tryz.prog 142=true:=by decide+kernel
def agb:Told Go.Proofs.Tryz.prog 143 Ey [.t 2] 1:=Told.of Go.Proofs.Tryz.func143 (by decide+kernel)
def Yn:aC Go.Proofs.Tryz.prog 143=true:=by decide+kernel
def agc:Told Go.Proofs.Tryz.prog 145 EN [.t 2] 1:=Told.of Go.Proofs.Tryz.func145 (by decide+kernel)
def Yo:aC Go.Proofs.Tryz.prog 145=true:=by decide+kernel
def agd:Told Go.Proofs.Tryz.prog 146 A8 [.t 2] 1:=Told.of Go.Proofs.Tryz.func146 (by decide+kernel)
def Yp:aC Go.Proofs.Tryz.prog 146=true:=by decide+kernel
def agf:Told Go.Proofs.Tryz.prog 147 EV [.t 2] 1:=Told.of Go.Proofs.Tryz.func147 (by decide+kernel)
def Yq:aC Go.Proofs.Tryz.prog 147=true:=by decide+kernel
def agi:Told Go.Proofs.Tryz.prog 151 oY [.c 2 3 true 47,.t 3] 1:=Told.of Go.Proofs.Tryz.func151 (by decide+kernel)
def Ys:aC Go.Proofs.Tryz.prog 151=true:=by decide+kernel
def agj:Told Go.Proofs.Tryz.prog 152 Gr [] 3:=Told.of Go.Proofs.Tryz.func152 (by decide+kernel)
def Yt:aC Go.Proofs.Tryz.prog 152=true:=by decide+kernel
def agk:Told Go.Proofs.Tryz.prog 153 Gk [.t 2] 1:=Told.of Go.Proofs.Tryz.func153 (by decide+kernel)
def Yu:aC Go.Proofs.Tryz.prog 153=true:=by decide+kernel
def agl:Told Go.Proofs.Tryz.prog 159 qA [] 2:=Told.of Go.Proofs.Tryz.func159 (by decide+kernel)
def Yv:aC Go.Proofs.Tryz.prog 159=true:=by decide+kernel
def agn:Told Go.Proofs.Tryz.prog 160 EA [.t 4] 2:=Told.of Go.Proofs.Tryz.func160 (by decide+kernel)
def Yx:aC Go.Proofs.Tryz.prog 160=true:=by decide+kernel
def ago:Told Go.Proofs.Tryz.prog 161 xD [.t 4] 2:=Told.of Go.Proofs.Tryz.func161 (by decide+kernel)
def Yy:aC Go.Proofs.Tryz.prog 161=true:=by decide+kernel
def agp:Told Go.Proofs.Tryz.prog 162 Cu [.t 4] 2:=Told.of Go.Proofs.Tryz.func162 (by decide+kernel)
def Yz:aC Go.Proofs.Tryz.prog 162=true:=by decide+kernel
def agq:Told Go.Proofs.Tryz.prog 164 Cp [.t 4] 2:=Told.of Go.Proofs.Tryz.func164 (by decide+kernel)
def YA:aC Go.Proofs.Tryz.prog 164=true:=by decide+kernel
def agr:Told Go.Proofs.Tryz.prog 165 E4 [.t 3] 2:=Told.of Go.Proofs.Tryz.func165 (by decide+kernel)
def YB:aC Go.Proofs.Tryz.prog 165=true:=by decide+kernel
def ags:Told Go.Proofs.Tryz.prog 168 Fc [.t 2] 1:=Told.of Go.Proofs.Tryz.func168 (by decide+kernel)
def YC:aC Go.Proofs.Tryz.prog 168=true:=by decide+kernel
def agu:Told Go.Proofs.Tryz.prog 172 sM [.t 2,.t 3,.t 4,.t 5] 1:=Told.of Go.Proofs.Tryz.func172 (by decide+kernel)
def YE:aC Go.Proofs.Tryz.prog 172=true:=by decide+kernel
def agv:Told Go.Proofs.Tryz.prog 173 Cv [] 4:=Told.of Go.Proofs.Tryz.func173 (by decide+kernel)
def YF:aC Go.Proofs.Tryz.prog 173=true:=by decide+kernel
def agw:Told Go.Proofs.Tryz.prog 174 S1 [] 5:=Told.of Go.Proofs.Tryz.func174 (by decide+kernel)
def YG:aC Go.Proofs.Tryz.prog 174=true:=by decide+kernel
def agx:Told Go.Proofs.Tryz.prog 178 Fj [.t 2] 1:=Told.of Go.Proofs.Tryz.func178 (by decide+kernel)
def YH:aC Go.Proofs.Tryz.prog 178=true:=by decide+kernel
def agA:Told Go.Proofs.Tryz.prog 194 SQ [] 5:=Told.of Go.Proofs.Tryz.func194 (by decide+kernel)
def YK:aC Go.Proofs.Tryz.prog 194=true:=by decide+kernel
def agD:Told Go.Proofs.Tryz.prog 212 SU [] 5:=Told.of Go.Proofs.Tryz.func212 (by decide+kernel)
def YN:aC Go.Proofs.Tryz.prog 212=true:=by decide+kernel
def ag8:Told Go.Proofs.Tryz.prog 59 (rQ 4 48) [.t 2] 1:=Told.of Go.Proofs.Tryz.func59 (by decide+kernel)
def agW:Told Go.Proofs.Tryz.prog 43 (rQ 2 32) [.t 2] 1:=Told.of Go.Proofs.Tryz.func43 (by decide+kernel)
def afz:Told Go.Proofs.Tryz.prog 100 (rQ 2 24) [.t 2] 1:=Told.of Go.Proofs.Tryz.func100 (by decide+kernel)
def agL:Told Go.Proofs.Tryz.prog 32 (rQ 1 8) [.t 2] 1:=Told.of Go.Proofs.Tryz.func32 (by decide+kernel)
def aha:Told Go.Proofs.Tryz.prog 60 (rQ 1 16) [.t 2] 1:=Told.of Go.Proofs.Tryz.func60 (by decide+kernel)
set_option maxHeartbeats 4000000 in
def aiE:TT.Ok Go.Proofs.Tryz.prog:=by
  refine⟨λf F h=>?_,λf F h=>?_⟩
  · have h:_=_:=h
    rcases Option.or_eq_some_iff.1 h with h|⟨_,h⟩
    · unfold GM at h
      split at h
      · cases h;exact agI
      · cases h;exact agY
      · cases h;exact ag9
      · cases h;exact ahj
      · cases h;exact aht
      · cases h;exact ahA
      · cases h;exact afy
      · cases h;exact afI
      · cases h;exact afS
      · cases h;exact agh
      · cases h;exact agm
      · cases h;exact agt
      · cases h;exact agy
      · cases h;exact agz
      · cases h;exact agB
      · cases h;exact agC
      · cases h;exact agE
      · cases h;exact agF
      · cases h;exact agG
      · cases h;exact agH
      · cases h;exact agJ
      · cases h;exact agK
      · cases h;exact agM
      · cases h;exact agN
      · cases h;exact agO
      · cases h;exact agP
      · cases h;exact agQ
      · cases h;exact agR
      · cases h;exact agS
      · cases h;exact agT
      · cases h;exact agU
      · cases h;exact agV
      · cases h;exact agX
      · cases h;exact agZ
      · cases h;exact ag0
      · cases h;exact ag1
      · cases h;exact ag2
      · cases h;exact ag3
      · cases h;exact ag4
      · cases h;exact ag5
      · cases h;exact ag6
      · cases h;exact ag7
      · cases h;exact ahb
      · cases h;exact ahc
      · cases h;exact ahd
      · cases h;exact ahe
      · cases h;exact ahf
      · cases h;exact ahg
      · cases h;exact ahh
      · cases h;exact ahi
      · cases h;exact ahk
      · cases h;exact ahl
      · cases h;exact ahm
      · cases h;exact ahn
      · cases h;exact aho
      · cases h;exact ahp
      · cases h;exact ahq
      · cases h;exact ahr
      · cases h;exact ahs
      · cases h;exact ahu
      · cases h;exact ahv
      · cases h;exact ahw
      · cases h;exact ahx
      · cases h;exact ahy
      · cases h;exact ahz
      · cases h;exact ahB
      · cases h;exact ahC
      · cases h;exact ahD
      · cases h;exact ahE
      · cases h;exact ahF
      · cases h;exact ahG
      · cases h;exact ahH
      · cases h;exact ahI
      · cases h;exact ahJ
      · cases h;exact ahK
      · cases h;exact afA
      · cases h;exact afB
      · cases h;exact afC
      · cases h;exact afD
      · cases h;exact afE
      · cases h;exact afF
      · cases h;exact afG
      · cases h;exact afH
      · cases h;exact afJ
      · cases h;exact afK
      · cases h;exact afL
      · cases h;exact afM
      · cases h;exact afN
      · cases h;exact afO
      · cases h;exact afP
      · cases h;exact afQ
      · cases h;exact afR
      · cases h;exact afT
      · cases h;exact afU
      · cases h;exact afV
      · cases h;exact afW
      · cases h;exact afX
      · cases h;exact afY
      · cases h;exact afZ
      · cases h;exact af0
      · cases h;exact af1
      · cases h;exact af2
      · cases h;exact af3
      · cases h;exact af4
      · cases h;exact af5
      · cases h;exact af6
      · cases h;exact af7
      · cases h;exact af8
      · cases h;exact af9
      · cases h;exact aga
      · cases h;exact agb
      · cases h;exact agc
      · cases h;exact agd
      · cases h;exact agf
      · cases h;exact agi
      · cases h;exact agj
      · cases h;exact agk
      · cases h;exact agl
      · cases h;exact agn
      · cases h;exact ago
      · cases h
    unfold GN at h
    split at h
    · cases h;exact agp
    · cases h;exact agq
    · cases h;exact agr
    · cases h;exact ags
    · cases h;exact agu
    · cases h;exact agv
    · cases h;exact agw
    · cases h;exact agx
    · cases h;exact agA
    · cases h;exact agD
    · cases h
  · have h:_=_:=h
    rcases Option.or_eq_some_iff.1 h with h|⟨_,h⟩
    · unfold GM at h
      split at h
      · cases h;exact YS
      · cases h;exact Y6
      · cases h;exact Zh
      · cases h;exact Zq
      · cases h;exact ZA
      · cases h;exact ZH
      · cases h;exact XK
      · cases h;exact XU
      · cases h;exact X4
      · cases h;exact Yr
      · cases h;exact Yw
      · cases h;exact YD
      · cases h;exact YI
      · cases h;exact YJ
      · cases h;exact YL
      · cases h;exact YM
      · cases h;exact YO
      · cases h;exact YP
      · cases h;exact YQ
      · cases h;exact YR
      · cases h;exact YT
      · cases h;exact YU
      · cases h;exact YV
      · cases h;exact YW
      · cases h;exact YX
      · cases h;exact YY
      · cases h;exact YZ
      · cases h;exact Y0
      · cases h;exact Y1
      · cases h;exact Y2
      · cases h;exact Y3
      · cases h;exact Y4
      · cases h;exact Y5
      · cases h;exact Y7
      · cases h;exact Y8
      · cases h;exact Y9
      · cases h;exact Za
      · cases h;exact Zb
      · cases h;exact Zc
      · cases h;exact Zd
      · cases h;exact Ze
      · cases h;exact Zg
      · cases h;exact Zi
      · cases h;exact Zj
      · cases h;exact Zk
      · cases h;exact Zl
      · cases h;exact Zm
      · cases h;exact Zn
      · cases h;exact Zo
      · cases h;exact Zp
      · cases h;exact Zr
      · cases h;exact Zs
      · cases h;exact Zt
      · cases h;exact Zu
      · cases h;exact Zv
      · cases h;exact Zw
      · cases h;exact Zx
      · cases h;exact Zy
      · cases h;exact Zz
      · cases h;exact ZB
      · cases h;exact ZC
      · cases h;exact ZD
      · cases h;exact ZE
      · cases h;exact ZF
      · cases h;exact ZG
      · cases h;exact ZI
      · cases h;exact ZJ
      · cases h;exact ZK
      · cases h;exact ZL
      · cases h;exact ZM
      · cases h;exact ZN
      · cases h;exact ZO
      · cases h;exact ZP
      · cases h;exact ZQ
      · cases h;exact ZR
      · cases h;exact XL
      · cases h;exact XM
      · cases h;exact XO
      · cases h;exact XP
      · cases h;exact XQ
      · cases h;exact XR
      · cases h;exact XS
      · cases h;exact XT
      · cases h;exact XV
      · cases h;exact XW
      · cases h;exact XX
      · cases h;exact XY
      · cases h;exact XZ
      · cases h;exact X0
      · cases h;exact X1
      · cases h;exact X2
      · cases h;exact X3
      · cases h;exact X5
      · cases h;exact X6
      · cases h;exact X7
      · cases h;exact X8
      · cases h;exact X9
      · cases h;exact Ya
      · cases h;exact Yb
      · cases h;exact Yc
      · cases h;exact Yd
      · cases h;exact Ye
      · cases h;exact Yf
      · cases h;exact Yg
      · cases h;exact Yh
      · cases h;exact Yi
      · cases h;exact Yj
      · cases h;exact Yk
      · cases h;exact Yl
      · cases h;exact Ym
      · cases h;exact Yn
      · cases h;exact Yo
      · cases h;exact Yp
      · cases h;exact Yq
      · cases h;exact Ys
      · cases h;exact Yt
      · cases h;exact Yu
      · cases h;exact Yv
      · cases h;exact Yx
      · cases h;exact Yy
      · cases h
    unfold GN at h
    split at h
    · cases h;exact Yz
    · cases h;exact YA
    · cases h;exact YB
    · cases h;exact YC
    · cases h;exact YE
    · cases h;exact YF
    · cases h;exact YG
    · cases h;exact YH
    · cases h;exact YK
    · cases h;exact YN
    · cases h
def aiB(htab:Lib.TabIs Go.Proofs.Tryz.prog Bs.W0 "internal/strconv.uint64pow10" .u64 Lib.pow10Tab) (hmax:∃m,Bs.W0.cell? ⟨3,0,none⟩=some (.int .i64 m)) (IA:∃te pe,Bs.W0.var? Go.Proofs.Tryz.prog "strconv.ErrSyntax" =some #[.iface te pe]) (kD:∃te pe,Bs.W0.var? Go.Proofs.Tryz.prog "strconv.ErrRange" =some #[.iface te pe]):fQ.Sound Go.Proofs.Tryz.prog:=(kN (Xu λA cap fs w h1 h2 h3=>Go.Proofs.ZW A cap fs w h1 h2 h3) (kN (acK λs w hw hs=>Go.Proofs.acF htab IA kD s w hw hs) (kN (za ag8) (kN (za agW) (kN (za afz) (kN (za agL) (kN (za aha) (kN (abG htab λn h0 h1 w ht=>Go.Proofs.Tryz.strconv_Itoa n h0 h1 w ht) (kN (WU (g1:=3) hmax λs sep m w h1 h2=>Go.Proofs.Tryz.strings_Cut s sep m w h1 h2) (kN (WV λs p w=>Go.Proofs.Tryz.strings_CutPrefix s p w) (kN (aap λs p w=>Go.Proofs.Tryz.strings_HasPrefix s p w) (kN (ae8 (g1:=3) (t9:=_) hmax λs sep m w h1 h2 h3=>Go.Proofs.Tryz.strings_Split s sep m w h1 h2 h3) (kN (ahL λs c h w hs=>Go.Proofs.Tryz.strings_Trim_one s c h w hs) (WZ (by decide) rfl λblk off cap len i news w h1 h2 h3 h4 h5 h6=>Go.Proofs.XE blk off cap len i news w h1 h2 h3 h4 h5 h6))))))))))))))
end M
