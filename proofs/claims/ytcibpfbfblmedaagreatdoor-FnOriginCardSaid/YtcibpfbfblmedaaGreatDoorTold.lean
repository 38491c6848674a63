/- Each function of the table is the program's, and the library is as it is said to be; no conditions. -/
import Derived.Test.YtcibpfbfblmedaaGreatDoorProg
import Derived.Test.YtcibpfbfblmedaaGreatDoorLay
import Derived.Test.YtcibpfbfblmedaaGreatDoorTab
import Derived.Test.YtcibpfbfblmedaaGreatDoorMc
import Derived.WalkKit
import Derived.Lib.FrozenHead
import Derived.Lib.OthersKept
import Derived.Lib.Builder
import Derived.Shelf.RegionOpenPlain
import Derived.Deep.LoopGhost
import Derived.Deep.RegionLaw
import Derived.Lib.Walk
import Derived.Lib.SliceRun
set_option linter.defProp false
set_option linter.unusedSectionVars false
set_option linter.unusedVariables false
set_option linter.unusedSimpArgs false
set_option linter.unusedVariables false
set_option linter.unusedSectionVars false
set_option maxRecDepth 100000
namespace Go.Proofs
open Go.RowKit
set_option maxHeartbeats 2000000 in
set_option maxRecDepth 100000 in
def Xj(b:Nat)(w:World)(h0:w.cell? ⟨b,0,none⟩=some (.pointer (some ⟨b,0,none⟩))):
    Calls Tryz.prog 200 #[.pointer (some ⟨b,0,none⟩)] w λe w'=>e=.returned (.tuple #[])/\w'=w:=by obtain⟨j,hj,Fe⟩:=lD.1 (show (Tryz.prog.info? 233).map (·.size)=some 2 by kernel_rfl);go_enter Tryz.func200,Tryz.ntmps200;go_wp2;rw[Lib.run_neq_ptr_same w _ Tryz.underlying231 hj];go_wp2;go_end0;exact⟨rfl,rfl⟩
set_option maxHeartbeats 2000000 in
set_option maxRecDepth 100000 in
def Xi(b:Nat)(w:World)(h0:w.cell? ⟨b,0,none⟩=some (.pointer none))(hsh:w.shape? b=some (233,2))(hfz:w.frozen? ⟨b,0,none⟩=false):
    Calls Tryz.prog 200 #[.pointer (some ⟨b,0,none⟩)] w λe w'=>e=.returned (.tuple #[])/\w'=w.setCell ⟨b,0,none⟩ (.pointer (some ⟨b,0,none⟩)):=by obtain⟨j,hj,Fe⟩:=lD.1 (show (Tryz.prog.info? 233).map (·.size)=some 2 by kernel_rfl);go_enter Tryz.func200,Tryz.ntmps200;go_wp2;rw[Lib.run_to_unsafe w ⟨b,0,none⟩ Tryz.underlying231 Tryz.underlying253 hj (by rw[Fe];decide) hsh (Nat.zero_lt_succ 1)];simp only[Result.andThen];rw[Oper.upon_value];go_wp2;rw[run_callFunc_extern Tryz.func216 (by kernel_rfl) (by kernel_rfl) (by kernel_rfl) (e:=Extern.AbiNoEscape.same) (by kernel_rfl)];rw[Lib.run_noEscape];simp only[Result.andThen];rw[Oper.upon_value];go_wp2;rw[Lib.run_from_unsafe w ⟨b,0,none⟩ Tryz.underlying253 Tryz.underlying231 hj hsh (by kernel_rfl)];simp only[Result.andThen];rw[Oper.upon_value];go_wp2;go_end0;exact⟨rfl,rfl⟩
def Xh(B b:Nat)(bs:List Value)(w:World)(h:Lib.IsBuilderF 233 5 B b bs w):
    Calls Tryz.prog 200 #[.pointer (some ⟨b,0,none⟩)] w λe w'=>e=.returned (.tuple #[])/\(Lib.BuilderAtF 233 5 B b (.pointer (some ⟨b,0,none⟩)) bs w'/\Below B w w'):=by
  rcases h with h|h
  · refine(Xi b w h.cell0 h.shape h.frozen0).mono ?_
    rintro e w' ⟨rfl,rfl⟩
    exact⟨rfl,h.used _,(Below.refl B w).setCell (p:=⟨b,0,none⟩) h.1 _⟩
  · refine(Xj b w h.cell0).mono ?_
    rintro e w' ⟨rfl,rfl⟩
    exact⟨rfl,h,Below.refl B _⟩
set_option maxHeartbeats 2000000 in
set_option maxRecDepth 100000 in
def Xk(B b:Nat)(bs:List Value)(s:ByteArray)(w:World)(h:Lib.IsBuilderF 233 5 B b bs w)(hlen:bs.length+s.size<=140737488355328)(hBw:B<=w.heap.size):
    Calls Tryz.prog 186 #[.pointer (some ⟨b,0,none⟩),.string s] w λe w'=>e=.returned (.tuple #[.int .i64 s.size,.nilIface])/\(Lib.BuilderAtF 233 5 B b (.pointer (some ⟨b,0,none⟩)) (bs++Lib.strCells s) w'/\Below B w w'):=by
  obtain⟨i0,hi,hz0,hz1,hz2⟩:=info_parts (P:=Tryz.prog) (e:=5) (z:=.int .u8 0) (size:=1) (bytes:=1) (by kernel_rfl);go_enter Tryz.func186,Tryz.ntmps186;go_wp2_with (go_at_call 200;refine(Xh B b bs _ h).mono ?_);rintro e w1 ⟨rfl,h1,fG⟩;obtain⟨hB,v,hbk,hown,hne⟩:=h1;have c0:w1.cell? ⟨b,0,none⟩=some (.pointer (some ⟨b,0,none⟩)):=by rw[Lib.cell_of_heap hbk];rfl
  have c1:w1.cell? ⟨b,1,none⟩=some v:=by rw[Lib.cell_of_heap hbk];rfl
  go_wp2_with (at_builtin;refine Lib.wpList_append_own_stringF _ rfl _ _ 22 9 rfl B 5 i0 Tryz.underlying22 Tryz.underlying9 hi hz0 hz1 hz2 _ _ _ rfl hown s rfl ?c3 ?c4 ?c5 ?_);case c3=>unfold maxLen;omega
  case c4=>omega
  case c5=>have:=fG.size;omega
  intro v' w2 hown' hgrow _
  have hlt:b<w1.heap.size:=by
    rcases gb b w1.heap.size with h'|h';· exact h'
    · simp[jW h'] at hbk
  have fH:w2.heap[b]?=some (.cells #[.pointer (some ⟨b,0,none⟩),v] 233 (0,0)):=by rw[hgrow.block b hlt (λe=>hne e.symm)];exact hbk
  have d0:w2.cell? ⟨b,0,none⟩=some (.pointer (some ⟨b,0,none⟩)):=by rw[Lib.cell_of_heap fH];rfl
  have d1:w2.cell? ⟨b,1,none⟩=some v:=by rw[Lib.cell_of_heap fH];rfl
  have f1:w2.frozen? ⟨b,1,none⟩=false:=Lib.frozen_of_heap fH 1
  obtain⟨ao,n',cap,rfl⟩:∃ao n' cap,v'=.slice ao n' cap:=by
    rcases hown'.2 with ⟨hv,_⟩|⟨g,cap,cur,fz,hv,_⟩;· exact⟨_,_,_,hv⟩
    · exact⟨_,_,_,hv⟩
  go_wp2;go_ret2;refine⟨rfl,?_,?_⟩;· exact Lib.BuilderAtF.put (T:=233) (e:=5) hB fH (bs':=bs++Lib.strCells s) (by simpa [Lib.strCells_length] using hown') (by decide)
  · exact(fG.grown hgrow (by have:=fG.size;omega) (λk hk=>(hown.lt k hk).1)).setCell (p:=⟨b,1,none⟩) hB _
set_option maxHeartbeats 4000000 in
set_option maxRecDepth 1000000 in
def ab9(A:Option Addr)(cap:Nat)(fs:List (ByteArray×ByteArray))(w:World)
    (hc:∀i f,fs[i]?=some f->∃g o,A=some ⟨g,o,none⟩/\g<w.heap.size/\w.cell? ⟨g,o+i*2,none⟩=some (.string f.1)/\w.cell? ⟨g,o+i*2+1,none⟩=some (.string f.2))
    (hb:(M.jM fs).length<=140737488355328)(hl:fs.length<=140737488355328):
    Calls Tryz.prog 167 #[.slice A fs.length cap] w λe w'=>e=.returned (.string ⟨(M.jM fs).toArray⟩)/\Below w.heap.size w w':=by
  go_enter Tryz.func167,Tryz.ntmps167;go_wp2;go_loopw [8] (λvi wr=>∃k:Nat,vi=.int .i64 k/\k<=fs.length/\Lib.IsBuilderF 233 5 w.heap.size w.heap.size (Lib.byteCells (M.jM (fs.take k))) wr/\Below w.heap.size w wr) (λvi _=>fs.length - (intOf vi).toNat);case atStart=>exact⟨0,rfl,uA _,Lib.IsBuilderF.of (Lib.fresh_isBuilder 233 5 w),(Below.refl _ w).alloc (dc _) _⟩
  case round=>
    obtain⟨k,rfl,hk,hI,tA⟩:=hrel;have hsz:w.heap.size<=wr.heap.size:=tA.size;by_cases hlt:k<fs.length
    · obtain⟨g,o,rfl,hg,hk1⟩:=hc k fs[k] (by simp[hlt])
      have c1:wr.cell? ⟨g,o+k*2,none⟩=some (.string fs[k].1):=by rw[tA.cell (p:=⟨g,o+k*2,none⟩) hg];exact hk1.1
      have c2:wr.cell? ⟨g,o+k*2+1,none⟩=some (.string fs[k].2):=by rw[tA.cell (p:=⟨g,o+k*2+1,none⟩) hg];exact hk1.2
      have hlt2:(k:Int)<fs.length:=by omega
      have hle:=M.acd hlt
      have htk:=M.Q4 hlt
      have s1:¬9223372036854775807<fs[k].1.size+2:=by omega
      have s2:¬9223372036854775807<fs[k].1.size+2+fs[k].2.size:=by omega
      have s3:¬9223372036854775807<fs[k].1.size+2+fs[k].2.size+2:=by omega
      go_wp2_with (go_at_call 186;refine(Xk w.heap.size w.heap.size _ _ _ (hI.alloc _) ?_ ?_).mono ?_)
      · rw[Lib.byteCells_length]
        simp only[ByteArray.size_append]
        have e1:(⟨#[58,32]⟩:ByteArray).size=2:=rfl
        have e2:(⟨#[13,10]⟩:ByteArray).size=2:=rfl
        omega
      · simp only[World.alloc]
        simp
        omega
      rintro e W1 ⟨rfl,h1,b1⟩
      go_wp2
      go_roundw
      case rel=>
        refine⟨k+1,by go_num,by omega,?_,(tA.alloc hsz _).trans b1⟩
        rw[htk,Lib.byteCells_append]
        refine Or.inr ?_
        have e:Lib.strCells (fs[k].1++⟨#[58,32]⟩++fs[k].2++⟨#[13,10]⟩)=Lib.byteCells (fs[k].1.data.toList++[58,32]++fs[k].2.data.toList++[13,10]):=by rw[Lib.strCells_eq];congr 1
        rw[<-e]
        exact h1
      case measure=>
        simp[intOf]
        omega
    · have hlt2:¬(k:Int)<fs.length:=by omega
      go_wp2_with (go_at_call 187;refine(Tryz.Builder_String_any_f w.heap.size w.heap.size _ _ hI hsz).mono ?_)
      rintro e W1 rfl h2 b1
      clear h2
      go_wp2
      go_ret
      have:k=fs.length:=by omega
      subst this
      rw[qG]
      exact⟨rfl,tA.trans b1⟩
end Go.Proofs
namespace Go.Proofs
open Go.RowKit
set_option maxHeartbeats 2000000 in
set_option maxRecDepth 100000 in
def ae2(s:ByteArray)(h:7<s.size)(w:World):
    Calls Go.Proofs.Tryz.prog 150 #[.string s] w λe w'=>e=.returned (.tuple #[.int .i64 0,.bool false])/\w'=w:=by go_enter Tryz.func150,Tryz.ntmps150;go_wp2;· go_ret2;exact⟨rfl,rfl⟩
set_option maxHeartbeats 2000000 in
set_option maxRecDepth 100000 in
def ae4(s:ByteArray)(h:¬7<s.size)(v:Int)(hv:Lib.atoiAll s.data.toList=.ok v)(w:World)(htab:Lib.TabIs Go.Proofs.Tryz.prog w "internal/strconv.uint64pow10" .u64 Lib.pow10Tab):
    Calls Go.Proofs.Tryz.prog 150 #[.string s] w λe w'=>e=.returned (.tuple #[.int .i64 (y9 v s.data.toList),.bool (qo v s.data.toList)])/\Below w.heap.size w w':=by
  have lT:=Lib.atoiAll_bounds hv;go_enter Tryz.func150,Tryz.ntmps150
  go_wp2_with (first
    |(go_at_call 171;refine(Tryz.strconv_Atoi_ok s (by omega) v hv _).mono ?_;rintro e W1 ⟨rfl,mX⟩;have fG:Below w.heap.size w W1:=(by rcases mX with rfl|⟨t,rfl⟩;exact Below.refl _ _;exact Lib.bytesWorld_below _ _ _);clear mX)
    |(go_at_call 22;refine(Tryz.strconv_Itoa v lT.1 lT.2 _ (ahI htab fG)).mono ?_;rintro e W2 ⟨rfl,k,os,Rs⟩;have fH:Below w.heap.size w W2:=(by subst Rs;exact fG.trans ((aci W1 k os).mono fG.size));clear Rs)
    |go_in)
  all_goals go_ret2
  all_goals refine⟨?_,by assumption⟩
  all_goals first
    | (have hb : qo v s.data.toList = true := (by
        unfold qo;rw[bx];refine⟨by assumption,by assumption,?_⟩;rw[<-Lib.toList_data];rename_i hz
        simpa using hz)
       rw[y9,aq hb,hb];rfl)
    | (have hb : qo v s.data.toList = false := (by
        unfold qo;rw[Im];rintro ⟨h1,h2,h3⟩;first
        |omega
        | (rw[<-Lib.toList_data] at h3
           rename_i hz
           simp[h3] at hz))
       rw[y9,hb];rfl)
set_option maxHeartbeats 2000000 in
set_option maxRecDepth 100000 in
def ae1(s:ByteArray)(h:¬7<s.size)(w:World)
    (hA:Calls Go.Proofs.Tryz.prog 171 #[.string s] w λe w'=>∃n t N,e=.returned (.tuple #[.int .i64 n,.iface t (.pointer (some ⟨N,0,none⟩))])/\Below w.heap.size w w'):
    Calls Go.Proofs.Tryz.prog 150 #[.string s] w λe w'=>e=.returned (.tuple #[.int .i64 0,.bool false])/\Below w.heap.size w w':=by
  go_enter Tryz.func150,Tryz.ntmps150
  go_wp2_with (first
    |(go_at_call 171;refine hA.mono ?_;rintro e W1 ⟨n,t,N,rfl,fG⟩)
    |go_in)
  all_goals go_ret2
  all_goals exact⟨rfl,by assumption⟩
def ae0[B:M.Bs](htab:Lib.TabIs Go.Proofs.Tryz.prog B.W0 "internal/strconv.uint64pow10" .u64 Lib.pow10Tab) (Kk:∃te pe,B.W0.var? Go.Proofs.Tryz.prog "strconv.ErrSyntax" =some #[.iface te pe]) (kU:∃te pe,B.W0.var? Go.Proofs.Tryz.prog "strconv.ErrRange" =some #[.iface te pe])
    (s:ByteArray) (w:World) (hw:M.o9 w) (hs:s.size<=9223372036854775807):
    Calls Go.Proofs.Tryz.prog 150 #[.string s] w λe w'=>e=.returned (.tuple #[.int .i64 (((M.cz s.data.toList).getD 0:Nat):Int),.bool (M.cz s.data.toList).isSome])/\Below w.heap.size w w':=by
  refine ae3 (a:=0) hs (λh=>ae2 s h w) (λh v hv=>ae4 s h v hv w (M.TabIs.same htab hw)) λh hv=>?_;refine ae1 s h w ?_;rcases eZ:Lib.atoiAll s.data.toList with v|_|_;· exact absurd eZ (hv v)
  · obtain⟨te,pe,h1⟩:=Kk
    exact(Any.strconv_Atoi_syntax_var Tryz.laysC172 s (by omega) eZ te pe w (UB h1 hw)).mono λe w' ⟨N,he,_,_,hb⟩=>⟨_,_,N,he,hb⟩
  · obtain⟨te,pe,h1⟩:=kU
    exact(Any.strconv_Atoi_range_var Tryz.laysC172 s (by omega) eZ te pe w (UB h1 hw)).mono λe w' ⟨N,he,_,_,hb⟩=>⟨_,_,N,he,hb⟩
end Go.Proofs
namespace Go.Proofs
open Go.RowKit Go.Lib
set_option maxHeartbeats 4000000 in
set_option maxRecDepth 1000000 in
def ZF(blk off cap len i:Nat)(news:List Value)(w:World)(n8:i<len)(hcap:len<=cap)(hnl:news.length=(len - (i+1))*13)
    (RS:∀t u,news[t]?=some u->w.cell? ⟨blk,off+(i+1)*13+t,none⟩=some u)(h1c:∀u∈news,u.oneCell'=true)
    (hH:∀t,t<len*13->(w.cell? ⟨blk,off+t,none⟩).isSome=true/\w.frozen? ⟨blk,off+t,none⟩=false):
    Calls Tryz.prog 113 #[.slice (some ⟨blk,off,none⟩) len cap,.int .i64 i,.int .i64 ((i:Int)+1)] w λe w'=>e=.returned (.slice (some ⟨blk,off,none⟩) (len - 1) cap)/\∃q,w'=((w.drewN q).setCells blk (off+i*13) news).setCells blk (off+(len - 1)*13) ([.int .i64 0,.string ⟨#[]⟩,.slice none 0 0,.string ⟨#[]⟩,.slice none 0 0,.string ⟨#[]⟩,.slice none 0 0,.slice none 0 0,.int .i64 0,.slice none 0 0,.string ⟨#[]⟩,.int .i64 0,.bool false]:List Value):=by
  obtain⟨i0,hi0,hz0,hz1,hz2⟩:=info_parts (P:=Tryz.prog) (e:=68) (z:=(.agg #[.int .i64 0,.string ⟨#[]⟩,.slice none 0 0,.string ⟨#[]⟩,.slice none 0 0,.string ⟨#[]⟩,.slice none 0 0,.slice none 0 0,.int .i64 0,.slice none 0 0,.string ⟨#[]⟩,.int .i64 0,.bool false])) (size:=13) (bytes:=216) (by kernel_rfl)
  obtain⟨A,hA,hsrc⟩:∃A:Addr,(if cap=i+1 then some (⟨blk,off,none⟩:Addr) else some ⟨blk,off+(i+1)*13,none⟩)=some A/\Hid (∀t u,news[t]?=some u->w.drew.cell? (A.add t)=some u):=by
    by_cases h:cap=i+1
    · refine⟨⟨blk,off,none⟩,by simp[h],λt u hu=>?_⟩
      have h0:news.length=0:=by rw[hnl,show len - (i+1)=0 by omega,Nat.zero_mul]
      rw[Iu.1 h0] at hu
      simp at hu
    · refine⟨⟨blk,off+(i+1)*13,none⟩,by simp[h],λt u hu=>?_⟩
      rw[Addr.add_lit]
      exact RS t u hu
  have s1:Hid (news.length=(len - (i+1))*13):=hnl;have s2:Hid (∀u∈news,u.oneCell'=true):=h1c;have s3:Hid (∀t,t<news.length->(w.drew.cell? ⟨blk,off+i*13+t,none⟩).isSome=true/\w.drew.frozen? ⟨blk,off+i*13+t,none⟩=false):=by intro t ht;rw[hnl] at ht;have:=hH (i*13+t) (by omega);rw[nI];exact this
  obtain⟨W1,mX⟩:∃W1,W1=w.drew.setCells blk (off+i*13) news:=⟨_,rfl⟩;haveI:M.Bs:=⟨w⟩;have AW:=M.Ext.setCells blk news (off+i*13) w.drew;rw[<-mX] at AW
  have adf:blk<w.heap.size:=by
    have:=(hH 0 (by omega)).1;rcases gb blk w.heap.size with h|h;· exact h
    · simp[World.cell?,jW h] at this
  have J9:∀t,t<len*13->(W1.cell? ⟨blk,off+t,none⟩).isSome=true/\W1.frozen? ⟨blk,off+t,none⟩=false:=by
    intro t ht;refine⟨?_,(AW.frozen adf).trans (hH t ht).2⟩;by_cases hin:i*13<=t/\t<i*13+news.length
    · have hs:∀j,j<news.length->(w.drew.cell? ⟨blk,off+i*13+j,none⟩).isSome=true:=λj hj=>by
        rw[nI]
        exact(hH (i*13+j) (by rw[hnl] at hj;omega)).1
      have:=World.cell?_setCells_in blk news (off+i*13) w.drew hs (t - i*13) (by omega)
      rw[mX,show off+t=off+i*13+(t - i*13) by omega,this]
      rfl
    · rw[mX,World.cell?_setCells_out _ _ _ _ _ (λ_ _=>by simp only;omega)]
      exact(hH t ht).1
  have hcl:∀ty c,(Builtin.clear_ #[38] ty #[.slice (some ⟨blk,off+(len - 1)*13,none⟩) 1 c]).run Tryz.prog W1=.ok (.tuple #[]) (W1.setCells blk (off+(len - 1)*13) ([.int .i64 0,.string ⟨#[]⟩,.slice none 0 0,.string ⟨#[]⟩,.slice none 0 0,.string ⟨#[]⟩,.slice none 0 0,.slice none 0 0,.int .i64 0,.slice none 0 0,.string ⟨#[]⟩,.int .i64 0,.bool false]:List Value)):=by
    intro ty c
    have hst:=run_storeCells_cells (P:=Tryz.prog) blk (off+(len - 1)*13) ([.int .i64 0,.string ⟨#[]⟩,.slice none 0 0,.string ⟨#[]⟩,.slice none 0 0,.string ⟨#[]⟩,.slice none 0 0,.slice none 0 0,.int .i64 0,.slice none 0 0,.string ⟨#[]⟩,.int .i64 0,.bool false]:List Value) 0 W1 (λj hj=>by
      have:=(J9 ((len - 1)*13+j) (by simp only[di,jE] at hj;omega)).1;rw[<-nI] at this;simpa using this) (λj hj=>by
      have:=(J9 ((len - 1)*13+j) (by simp only[di,jE] at hj;omega)).2;rw[<-nI] at this;simpa using this) (by decide)
    simp only[nJ] at hst;have KP:∀w,(zeroValue 68).run Tryz.prog w=.ok (.agg #[.int .i64 0,.string ⟨#[]⟩,.slice none 0 0,.string ⟨#[]⟩,.slice none 0 0,.string ⟨#[]⟩,.slice none 0 0,.slice none 0 0,.int .i64 0,.slice none 0 0,.string ⟨#[]⟩,.int .i64 0,.bool false]) w:=by intro w;simp[zeroValue,typeInfo,hi0,hz0]
    have hzc:(Builtin.zeroCells (#[.int .i64 0,.string ⟨#[]⟩,.slice none 0 0,.string ⟨#[]⟩,.slice none 0 0,.string ⟨#[]⟩,.slice none 0 0,.slice none 0 0,.int .i64 0,.slice none 0 0,.string ⟨#[]⟩,.int .i64 0,.bool false]) 1).toList=([.int .i64 0,.string ⟨#[]⟩,.slice none 0 0,.string ⟨#[]⟩,.slice none 0 0,.string ⟨#[]⟩,.slice none 0 0,.slice none 0 0,.int .i64 0,.slice none 0 0,.string ⟨#[]⟩,.int .i64 0,.bool false]:List Value):=by simp[Builtin.zeroCells,mE]
    simp[Builtin.clear_,run_underlying Tryz.underlying38,KP,Value.cells,hzc,hst]
  have hW:Hid (W1=w.drew.setCells blk (off+i*13) news):=mX;clear mX AW J9 hH RS h1c hnl;obtain⟨j,hj⟩:∃j,j=i+1:=⟨_,rfl⟩;rw[<-hj] at hA s1;have hji:((i:Int)+1)=((j:Nat):Int):=by omega
  rw[hji];have hic:i<=cap:=by omega
  have hjc:j<=cap:=by omega
  have am1:i<=len:=by omega
  have hjl:j<=len:=by omega
  have hij:i<=j:=by omega
  have hne:¬(i:Int)=(j:Nat):=by omega
  have mixed:Tryz.prog.follows Departure.mixedOrders=true:=by kernel_rfl
  have hjH:Hid (j=i+1):=hj;have am3:(j:Int)<=len:=by omega
  have hj0:(0:Int)<=j:=by omega
  have e1:i+(len - j)=len - 1:=by omega
  have e2:len - (i+(len - j))=1:=by omega
  have Rx:∀ty c,(Builtin.clear_ #[38] ty #[.slice (some ⟨blk,off+(i+(len - j))*13,none⟩) (len - (i+(len - j))) c]).run Tryz.prog W1=.ok (.tuple #[]) (W1.setCells blk (off+(i+(len - j))*13) ([.int .i64 0,.string ⟨#[]⟩,.slice none 0 0,.string ⟨#[]⟩,.slice none 0 0,.string ⟨#[]⟩,.slice none 0 0,.slice none 0 0,.int .i64 0,.slice none 0 0,.string ⟨#[]⟩,.int .i64 0,.bool false]:List Value)):=by rw[e2,e1];exact hcl
  have RB:Hid (i+(len - j)=len - 1):=e1;clear hcl e1 e2;clear hji hj;go_enter Tryz.func113,Tryz.ntmps113;go_wp2_with fail;go_region_law_o (refine step_append_room rfl (.tmp 22) (.tmp 25) 38 rfl 68 i0 13 Tryz.underlying38 hi0 hz1 blk off i cap (by simp[Act.eval,Act.put]) A (len - j) (cap - j) news (by simp[Act.eval,Act.put]) s1.out hsrc.out s2.out (by omega) s3.out ?_;rw[<-hW.out]);go_wp2;go_ret;refine⟨by rw[RB.out];rfl,1,?_⟩;rw[RB.out,hW.out];rfl
end Go.Proofs
namespace M
open Go
variable [Bs]
def ajc:Told Go.Proofs.Tryz.prog 4 CO [.t 2] 1:=Told.of Go.Proofs.Tryz.func4 (by decide+kernel)
def aa5:aD Go.Proofs.Tryz.prog 4=true:=by decide+kernel
def ajm:Told Go.Proofs.Tryz.prog 5 GY [.t 2] 1:=Told.of Go.Proofs.Tryz.func5 (by decide+kernel)
def abg:aD Go.Proofs.Tryz.prog 5=true:=by decide+kernel
def ajx:Told Go.Proofs.Tryz.prog 6 yN [.t 4] 2:=Told.of Go.Proofs.Tryz.func6 (by decide+kernel)
def abq:aD Go.Proofs.Tryz.prog 6=true:=by decide+kernel
def ajH:Told Go.Proofs.Tryz.prog 7 Fv [.c 0 10 true 42] 0:=Told.of Go.Proofs.Tryz.func7 (by decide+kernel)
def abA:aD Go.Proofs.Tryz.prog 7=true:=by decide+kernel
def ajR:Told Go.Proofs.Tryz.prog 8 xW [.c 4 10 true 42,.t 5] 2:=Told.of Go.Proofs.Tryz.func8 (by decide+kernel)
def abK:aD Go.Proofs.Tryz.prog 8=true:=by decide+kernel
def ahP:Told Go.Proofs.Tryz.prog 10 Cl [.c 4 3 true 47,.t 5] 2:=Told.of Go.Proofs.Tryz.func10 (by decide+kernel)
def ZJ:aD Go.Proofs.Tryz.prog 10=true:=by decide+kernel
def ahZ:Told Go.Proofs.Tryz.prog 11 FW [.t 2,.t 3] 1:=Told.of Go.Proofs.Tryz.func11 (by decide+kernel)
def ZS:aD Go.Proofs.Tryz.prog 11=true:=by decide+kernel
def ah9:Told Go.Proofs.Tryz.prog 12 B8 [.t 2] 1:=Told.of Go.Proofs.Tryz.func12 (by decide+kernel)
def Z2:aD Go.Proofs.Tryz.prog 12=true:=by decide+kernel
def aih:Told Go.Proofs.Tryz.prog 13 xY [.c 4 10 true 42,.t 5] 2:=Told.of Go.Proofs.Tryz.func13 (by decide+kernel)
def Z9:aD Go.Proofs.Tryz.prog 13=true:=by decide+kernel
def air:Told Go.Proofs.Tryz.prog 14 B1 [.t 2] 1:=Told.of Go.Proofs.Tryz.func14 (by decide+kernel)
def aal:aD Go.Proofs.Tryz.prog 14=true:=by decide+kernel
def aiz:Told Go.Proofs.Tryz.prog 15 FX [.c 0 6 true 37] 0:=Told.of Go.Proofs.Tryz.func15 (by decide+kernel)
def aat:aD Go.Proofs.Tryz.prog 15=true:=by decide+kernel
def aiE:Told Go.Proofs.Tryz.prog 16 Gu [.t 6] 3:=Told.of Go.Proofs.Tryz.func16 (by decide+kernel)
def aay:aD Go.Proofs.Tryz.prog 16=true:=by decide+kernel
def aiL:Told Go.Proofs.Tryz.prog 17 rG [.t 2] 1:=Told.of Go.Proofs.Tryz.func17 (by decide+kernel)
def aaF:aD Go.Proofs.Tryz.prog 17=true:=by decide+kernel
def aiQ:Told Go.Proofs.Tryz.prog 18 Gi [.c 2 10 true 42] 1:=Told.of Go.Proofs.Tryz.func18 (by decide+kernel)
def aaK:aD Go.Proofs.Tryz.prog 18=true:=by decide+kernel
def aiR:Told Go.Proofs.Tryz.prog 19 pR [.t 4] 2:=Told.of Go.Proofs.Tryz.func19 (by decide+kernel)
def aaL:aD Go.Proofs.Tryz.prog 19=true:=by decide+kernel
def aiT:Told Go.Proofs.Tryz.prog 21 Gp [.c 2 3 true 47] 1:=Told.of Go.Proofs.Tryz.func21 (by decide+kernel)
def aaN:aD Go.Proofs.Tryz.prog 21=true:=by decide+kernel
def aiV:Told Go.Proofs.Tryz.prog 23 B3 [.t 2] 1:=Told.of Go.Proofs.Tryz.func23 (by decide+kernel)
def aaP:aD Go.Proofs.Tryz.prog 23=true:=by decide+kernel
def aiW:Told Go.Proofs.Tryz.prog 24 yg [.t 2] 1:=Told.of Go.Proofs.Tryz.func24 (by decide+kernel)
def aaQ:aD Go.Proofs.Tryz.prog 24=true:=by decide+kernel
def aiX:Told Go.Proofs.Tryz.prog 25 yh [.t 2] 1:=Told.of Go.Proofs.Tryz.func25 (by decide+kernel)
def aaR:aD Go.Proofs.Tryz.prog 25=true:=by decide+kernel
def aiY:Told Go.Proofs.Tryz.prog 26 FH [.c 0 2 true 33] 0:=Told.of Go.Proofs.Tryz.func26 (by decide+kernel)
def aaS:aD Go.Proofs.Tryz.prog 26=true:=by decide+kernel
def aiZ:Told Go.Proofs.Tryz.prog 27 Gy [.t 2] 1:=Told.of Go.Proofs.Tryz.func27 (by decide+kernel)
def aaT:aD Go.Proofs.Tryz.prog 27=true:=by decide+kernel
def ai0:Told Go.Proofs.Tryz.prog 28 Gt [.t 2] 1:=Told.of Go.Proofs.Tryz.func28 (by decide+kernel)
def aaU:aD Go.Proofs.Tryz.prog 28=true:=by decide+kernel
def ai1:Told Go.Proofs.Tryz.prog 29 oq [.t 2] 1:=Told.of Go.Proofs.Tryz.func29 (by decide+kernel)
def aaV:aD Go.Proofs.Tryz.prog 29=true:=by decide+kernel
def ai2:Told Go.Proofs.Tryz.prog 30 Gq [.c 2 6 true 37] 1:=Told.of Go.Proofs.Tryz.func30 (by decide+kernel)
def aaW:aD Go.Proofs.Tryz.prog 30=true:=by decide+kernel
def ai3:Told Go.Proofs.Tryz.prog 31 Gn [.c 2 4 true 29] 1:=Told.of Go.Proofs.Tryz.func31 (by decide+kernel)
def aaX:aD Go.Proofs.Tryz.prog 31=true:=by decide+kernel
def ai5:Told Go.Proofs.Tryz.prog 33 Gl [.c 2 7 true 60] 1:=Told.of Go.Proofs.Tryz.func33 (by decide+kernel)
def aaY:aD Go.Proofs.Tryz.prog 33=true:=by decide+kernel
def ai6:Told Go.Proofs.Tryz.prog 34 Gm [.c 2 18 true 62] 1:=Told.of Go.Proofs.Tryz.func34 (by decide+kernel)
def aaZ:aD Go.Proofs.Tryz.prog 34=true:=by decide+kernel
def ai7:Told Go.Proofs.Tryz.prog 35 rH [.t 4] 2:=Told.of Go.Proofs.Tryz.func35 (by decide+kernel)
def aa0:aD Go.Proofs.Tryz.prog 35=true:=by decide+kernel
def ai8:Told Go.Proofs.Tryz.prog 36 om [.t 4] 2:=Told.of Go.Proofs.Tryz.func36 (by decide+kernel)
def aa1:aD Go.Proofs.Tryz.prog 36=true:=by decide+kernel
def ai9:Told Go.Proofs.Tryz.prog 37 xZ [.t 4] 2:=Told.of Go.Proofs.Tryz.func37 (by decide+kernel)
def aa2:aD Go.Proofs.Tryz.prog 37=true:=by decide+kernel
def aja:Told Go.Proofs.Tryz.prog 38 BF [.t 4] 2:=Told.of Go.Proofs.Tryz.func38 (by decide+kernel)
def aa3:aD Go.Proofs.Tryz.prog 38=true:=by decide+kernel
def ajb:Told Go.Proofs.Tryz.prog 39 Fx [.t 4] 2:=Told.of Go.Proofs.Tryz.func39 (by decide+kernel)
def aa4:aD Go.Proofs.Tryz.prog 39=true:=by decide+kernel
def ajd:Told Go.Proofs.Tryz.prog 40 FJ [] 1:=Told.of Go.Proofs.Tryz.func40 (by decide+kernel)
def aa6:aD Go.Proofs.Tryz.prog 40=true:=by decide+kernel
def aje:Told Go.Proofs.Tryz.prog 41 GC [.c 2 6 true 37] 1:=Told.of Go.Proofs.Tryz.func41 (by decide+kernel)
def aa7:aD Go.Proofs.Tryz.prog 41=true:=by decide+kernel
def ajf:Told Go.Proofs.Tryz.prog 42 FG [.c 4 2 true 33] 2:=Told.of Go.Proofs.Tryz.func42 (by decide+kernel)
def aa8:aD Go.Proofs.Tryz.prog 42=true:=by decide+kernel
def ajh:Told Go.Proofs.Tryz.prog 45 og [.t 4] 2:=Told.of Go.Proofs.Tryz.func45 (by decide+kernel)
def aa9:aD Go.Proofs.Tryz.prog 45=true:=by decide+kernel
def aji:Told Go.Proofs.Tryz.prog 46 FO [.t 4] 2:=Told.of Go.Proofs.Tryz.func46 (by decide+kernel)
def abb:aD Go.Proofs.Tryz.prog 46=true:=by decide+kernel
def ajj:Told Go.Proofs.Tryz.prog 47 FM [.c 2 2 true 33] 1:=Told.of Go.Proofs.Tryz.func47 (by decide+kernel)
def abd:aD Go.Proofs.Tryz.prog 47=true:=by decide+kernel
def ajk:Told Go.Proofs.Tryz.prog 48 F2 [.t 4] 2:=Told.of Go.Proofs.Tryz.func48 (by decide+kernel)
def abe:aD Go.Proofs.Tryz.prog 48=true:=by decide+kernel
def ajl:Told Go.Proofs.Tryz.prog 49 HX [.t 4] 2:=Told.of Go.Proofs.Tryz.func49 (by decide+kernel)
def abf:aD Go.Proofs.Tryz.prog 49=true:=by decide+kernel
def ajn:Told Go.Proofs.Tryz.prog 50 yo [.t 2] 1:=Told.of Go.Proofs.Tryz.func50 (by decide+kernel)
def abh:aD Go.Proofs.Tryz.prog 50=true:=by decide+kernel
def ajo:Told Go.Proofs.Tryz.prog 51 nk [.t 2] 1:=Told.of Go.Proofs.Tryz.func51 (by decide+kernel)
def abi:aD Go.Proofs.Tryz.prog 51=true:=by decide+kernel
def ajp:Told Go.Proofs.Tryz.prog 52 vu [.t 4] 2:=Told.of Go.Proofs.Tryz.func52 (by decide+kernel)
def abj:aD Go.Proofs.Tryz.prog 52=true:=by decide+kernel
def ajq:Told Go.Proofs.Tryz.prog 53 rF [.t 2] 1:=Told.of Go.Proofs.Tryz.func53 (by decide+kernel)
def abk:aD Go.Proofs.Tryz.prog 53=true:=by decide+kernel
def ajr:Told Go.Proofs.Tryz.prog 54 Gx [.t 2] 1:=Told.of Go.Proofs.Tryz.func54 (by decide+kernel)
def abl:aD Go.Proofs.Tryz.prog 54=true:=by decide+kernel
def ajs:Told Go.Proofs.Tryz.prog 55 FI [.t 2] 1:=Told.of Go.Proofs.Tryz.func55 (by decide+kernel)
def abm:aD Go.Proofs.Tryz.prog 55=true:=by decide+kernel
def ajt:Told Go.Proofs.Tryz.prog 56 F6 [.t 2] 1:=Told.of Go.Proofs.Tryz.func56 (by decide+kernel)
def abn:aD Go.Proofs.Tryz.prog 56=true:=by decide+kernel
def aju:Told Go.Proofs.Tryz.prog 57 Gj [.c 2 2 true 33] 1:=Told.of Go.Proofs.Tryz.func57 (by decide+kernel)
def abo:aD Go.Proofs.Tryz.prog 57=true:=by decide+kernel
def ajv:Told Go.Proofs.Tryz.prog 58 Gk [.t 2] 1:=Told.of Go.Proofs.Tryz.func58 (by decide+kernel)
def abp:aD Go.Proofs.Tryz.prog 58=true:=by decide+kernel
def ajz:Told Go.Proofs.Tryz.prog 61 BB [] 2:=Told.of Go.Proofs.Tryz.func61 (by decide+kernel)
def abr:aD Go.Proofs.Tryz.prog 61=true:=by decide+kernel
def ajA:Told Go.Proofs.Tryz.prog 63 vH [.t 8] 4:=Told.of Go.Proofs.Tryz.func63 (by decide+kernel)
def abt:aD Go.Proofs.Tryz.prog 63=true:=by decide+kernel
def ajB:Told Go.Proofs.Tryz.prog 64 Fy [] 3:=Told.of Go.Proofs.Tryz.func64 (by decide+kernel)
def abu:aD Go.Proofs.Tryz.prog 64=true:=by decide+kernel
def ajC:Told Go.Proofs.Tryz.prog 65 x9 [] 3:=Told.of Go.Proofs.Tryz.func65 (by decide+kernel)
def abv:aD Go.Proofs.Tryz.prog 65=true:=by decide+kernel
def ajD:Told Go.Proofs.Tryz.prog 66 vC [.t 2] 1:=Told.of Go.Proofs.Tryz.func66 (by decide+kernel)
def abw:aD Go.Proofs.Tryz.prog 66=true:=by decide+kernel
def ajE:Told Go.Proofs.Tryz.prog 67 Fz [.t 4] 2:=Told.of Go.Proofs.Tryz.func67 (by decide+kernel)
def abx:aD Go.Proofs.Tryz.prog 67=true:=by decide+kernel
def ajF:Told Go.Proofs.Tryz.prog 68 x8 [] 3:=Told.of Go.Proofs.Tryz.func68 (by decide+kernel)
def aby:aD Go.Proofs.Tryz.prog 68=true:=by decide+kernel
def ajG:Told Go.Proofs.Tryz.prog 69 yl [.c 6 7 true 60,.t 7] 3:=Told.of Go.Proofs.Tryz.func69 (by decide+kernel)
def abz:aD Go.Proofs.Tryz.prog 69=true:=by decide+kernel
def ajI:Told Go.Proofs.Tryz.prog 70 tS [.t 4] 2:=Told.of Go.Proofs.Tryz.func70 (by decide+kernel)
def abB:aD Go.Proofs.Tryz.prog 70=true:=by decide+kernel
def ajJ:Told Go.Proofs.Tryz.prog 71 x7 [] 4:=Told.of Go.Proofs.Tryz.func71 (by decide+kernel)
def abC:aD Go.Proofs.Tryz.prog 71=true:=by decide+kernel
def ajK:Told Go.Proofs.Tryz.prog 72 vD [.t 4] 2:=Told.of Go.Proofs.Tryz.func72 (by decide+kernel)
def abD:aD Go.Proofs.Tryz.prog 72=true:=by decide+kernel
def ajL:Told Go.Proofs.Tryz.prog 73 Cp [] 1:=Told.of Go.Proofs.Tryz.func73 (by decide+kernel)
def abE:aD Go.Proofs.Tryz.prog 73=true:=by decide+kernel
def ajM:Told Go.Proofs.Tryz.prog 74 F4 [.t 2] 1:=Told.of Go.Proofs.Tryz.func74 (by decide+kernel)
def abF:aD Go.Proofs.Tryz.prog 74=true:=by decide+kernel
def ajN:Told Go.Proofs.Tryz.prog 75 Dx [.t 4] 2:=Told.of Go.Proofs.Tryz.func75 (by decide+kernel)
def abG:aD Go.Proofs.Tryz.prog 75=true:=by decide+kernel
def ajO:Told Go.Proofs.Tryz.prog 76 GA [.t 3] 2:=Told.of Go.Proofs.Tryz.func76 (by decide+kernel)
def abH:aD Go.Proofs.Tryz.prog 76=true:=by decide+kernel
def ajP:Told Go.Proofs.Tryz.prog 77 yA [.t 4] 2:=Told.of Go.Proofs.Tryz.func77 (by decide+kernel)
def abI:aD Go.Proofs.Tryz.prog 77=true:=by decide+kernel
def ajQ:Told Go.Proofs.Tryz.prog 78 Cx [.t 2] 1:=Told.of Go.Proofs.Tryz.func78 (by decide+kernel)
def abJ:aD Go.Proofs.Tryz.prog 78=true:=by decide+kernel
def ajS:Told Go.Proofs.Tryz.prog 80 FD [.c 2 6 true 129] 1:=Told.of Go.Proofs.Tryz.func80 (by decide+kernel)
def abL:aD Go.Proofs.Tryz.prog 80=true:=by decide+kernel
def ajT:Told Go.Proofs.Tryz.prog 81 FN [.t 6] 3:=Told.of Go.Proofs.Tryz.func81 (by decide+kernel)
def abM:aD Go.Proofs.Tryz.prog 81=true:=by decide+kernel
def ajU:Told Go.Proofs.Tryz.prog 82 Ga [.t 6] 3:=Told.of Go.Proofs.Tryz.func82 (by decide+kernel)
def abN:aD Go.Proofs.Tryz.prog 82=true:=by decide+kernel
def ajV:Told Go.Proofs.Tryz.prog 83 GF [.t 4] 2:=Told.of Go.Proofs.Tryz.func83 (by decide+kernel)
def abO:aD Go.Proofs.Tryz.prog 83=true:=by decide+kernel
def ajW:Told Go.Proofs.Tryz.prog 84 vw [.c 6 3 true 47] 3:=Told.of Go.Proofs.Tryz.func84 (by decide+kernel)
def abP:aD Go.Proofs.Tryz.prog 84=true:=by decide+kernel
def ajX:Told Go.Proofs.Tryz.prog 85 Bz [.t 4] 2:=Told.of Go.Proofs.Tryz.func85 (by decide+kernel)
def abQ:aD Go.Proofs.Tryz.prog 85=true:=by decide+kernel
def ajY:Told Go.Proofs.Tryz.prog 86 rM [.t 4] 2:=Told.of Go.Proofs.Tryz.func86 (by decide+kernel)
def abR:aD Go.Proofs.Tryz.prog 86=true:=by decide+kernel
def ajZ:Told Go.Proofs.Tryz.prog 87 F1 [.t 3] 2:=Told.of Go.Proofs.Tryz.func87 (by decide+kernel)
def abS:aD Go.Proofs.Tryz.prog 87=true:=by decide+kernel
def aj0:Told Go.Proofs.Tryz.prog 88 CE [.t 4] 2:=Told.of Go.Proofs.Tryz.func88 (by decide+kernel)
def abT:aD Go.Proofs.Tryz.prog 88=true:=by decide+kernel
def aj1:Told Go.Proofs.Tryz.prog 89 yE [.t 2] 1:=Told.of Go.Proofs.Tryz.func89 (by decide+kernel)
def abU:aD Go.Proofs.Tryz.prog 89=true:=by decide+kernel
def aj2:Told Go.Proofs.Tryz.prog 90 FL [.t 2] 1:=Told.of Go.Proofs.Tryz.func90 (by decide+kernel)
def abV:aD Go.Proofs.Tryz.prog 90=true:=by decide+kernel
def aj3:Told Go.Proofs.Tryz.prog 91 vG [.t 2] 1:=Told.of Go.Proofs.Tryz.func91 (by decide+kernel)
def abW:aD Go.Proofs.Tryz.prog 91=true:=by decide+kernel
def aj4:Told Go.Proofs.Tryz.prog 92 GD [.t 2] 1:=Told.of Go.Proofs.Tryz.func92 (by decide+kernel)
def abX:aD Go.Proofs.Tryz.prog 92=true:=by decide+kernel
def aj5:Told Go.Proofs.Tryz.prog 93 HZ [.t 4] 2:=Told.of Go.Proofs.Tryz.func93 (by decide+kernel)
def abY:aD Go.Proofs.Tryz.prog 93=true:=by decide+kernel
def aj6:Told Go.Proofs.Tryz.prog 94 Gf [.t 2] 1:=Told.of Go.Proofs.Tryz.func94 (by decide+kernel)
def abZ:aD Go.Proofs.Tryz.prog 94=true:=by decide+kernel
def aj7:Told Go.Proofs.Tryz.prog 95 Gv [.t 2] 1:=Told.of Go.Proofs.Tryz.func95 (by decide+kernel)
def ab0:aD Go.Proofs.Tryz.prog 95=true:=by decide+kernel
def aj8:Told Go.Proofs.Tryz.prog 96 HY [.t 4] 2:=Told.of Go.Proofs.Tryz.func96 (by decide+kernel)
def ab1:aD Go.Proofs.Tryz.prog 96=true:=by decide+kernel
def aj9:Told Go.Proofs.Tryz.prog 97 Gc [.t 2] 1:=Told.of Go.Proofs.Tryz.func97 (by decide+kernel)
def ab2:aD Go.Proofs.Tryz.prog 97=true:=by decide+kernel
def aka:Told Go.Proofs.Tryz.prog 98 Gw [.t 2] 1:=Told.of Go.Proofs.Tryz.func98 (by decide+kernel)
def ab3:aD Go.Proofs.Tryz.prog 98=true:=by decide+kernel
def akb:Told Go.Proofs.Tryz.prog 99 F5 [.t 3] 2:=Told.of Go.Proofs.Tryz.func99 (by decide+kernel)
def ab4:aD Go.Proofs.Tryz.prog 99=true:=by decide+kernel
def ahR:Told Go.Proofs.Tryz.prog 101 FA [] 4:=Told.of Go.Proofs.Tryz.func101 (by decide+kernel)
def ZK:aD Go.Proofs.Tryz.prog 101=true:=by decide+kernel
def ahS:Told Go.Proofs.Tryz.prog 103 DH [.t 4] 2:=Told.of Go.Proofs.Tryz.func103 (by decide+kernel)
def ZL:aD Go.Proofs.Tryz.prog 103=true:=by decide+kernel
def ahT:Told Go.Proofs.Tryz.prog 104 FC [.t 3] 2:=Told.of Go.Proofs.Tryz.func104 (by decide+kernel)
def ZM:aD Go.Proofs.Tryz.prog 104=true:=by decide+kernel
def ahU:Told Go.Proofs.Tryz.prog 105 FU [.c 4 3 true 47] 2:=Told.of Go.Proofs.Tryz.func105 (by decide+kernel)
def ZN:aD Go.Proofs.Tryz.prog 105=true:=by decide+kernel
def ahV:Told Go.Proofs.Tryz.prog 106 nj [.t 4] 2:=Told.of Go.Proofs.Tryz.func106 (by decide+kernel)
def ZO:aD Go.Proofs.Tryz.prog 106=true:=by decide+kernel
def ahW:Told Go.Proofs.Tryz.prog 107 Ge [.t 4] 2:=Told.of Go.Proofs.Tryz.func107 (by decide+kernel)
def ZP:aD Go.Proofs.Tryz.prog 107=true:=by decide+kernel
def ahX:Told Go.Proofs.Tryz.prog 108 ym [.t 4] 2:=Told.of Go.Proofs.Tryz.func108 (by decide+kernel)
def ZQ:aD Go.Proofs.Tryz.prog 108=true:=by decide+kernel
def ahY:Told Go.Proofs.Tryz.prog 109 Ch [.t 2] 1:=Told.of Go.Proofs.Tryz.func109 (by decide+kernel)
def ZR:aD Go.Proofs.Tryz.prog 109=true:=by decide+kernel
def ah0:Told Go.Proofs.Tryz.prog 110 ux [.t 4] 2:=Told.of Go.Proofs.Tryz.func110 (by decide+kernel)
def ZT:aD Go.Proofs.Tryz.prog 110=true:=by decide+kernel
def ah1:Told Go.Proofs.Tryz.prog 111 FZ [.t 4] 3:=Told.of Go.Proofs.Tryz.func111 (by decide+kernel)
def ZU:aD Go.Proofs.Tryz.prog 111=true:=by decide+kernel
def ah2:Told Go.Proofs.Tryz.prog 112 Cq [] 3:=Told.of Go.Proofs.Tryz.func112 (by decide+kernel)
def ZV:aD Go.Proofs.Tryz.prog 112=true:=by decide+kernel
def ah3:Told Go.Proofs.Tryz.prog 114 FB [] 5:=Told.of Go.Proofs.Tryz.func114 (by decide+kernel)
def ZW:aD Go.Proofs.Tryz.prog 114=true:=by decide+kernel
def ah4:Told Go.Proofs.Tryz.prog 115 Bw [.t 2] 1:=Told.of Go.Proofs.Tryz.func115 (by decide+kernel)
def ZX:aD Go.Proofs.Tryz.prog 115=true:=by decide+kernel
def ah5:Told Go.Proofs.Tryz.prog 116 FY [.t 3] 2:=Told.of Go.Proofs.Tryz.func116 (by decide+kernel)
def ZY:aD Go.Proofs.Tryz.prog 116=true:=by decide+kernel
def ah6:Told Go.Proofs.Tryz.prog 117 oo [.t 2,.t 3,.t 4] 1:=Told.of Go.Proofs.Tryz.func117 (by decide+kernel)
def ZZ:aD Go.Proofs.Tryz.prog 117=true:=by decide+kernel
def ah7:Told Go.Proofs.Tryz.prog 118 FK [.t 4] 2:=Told.of Go.Proofs.Tryz.func118 (by decide+kernel)
def Z0:aD Go.Proofs.Tryz.prog 118=true:=by decide+kernel
def ah8:Told Go.Proofs.Tryz.prog 119 vz [.c 2 4 true 49,.t 3] 1:=Told.of Go.Proofs.Tryz.func119 (by decide+kernel)
def Z1:aD Go.Proofs.Tryz.prog 119=true:=by decide+kernel
def aia:Told Go.Proofs.Tryz.prog 120 yw [] 2:=Told.of Go.Proofs.Tryz.func120 (by decide+kernel)
def Z3:aD Go.Proofs.Tryz.prog 120=true:=by decide+kernel
def aib:Told Go.Proofs.Tryz.prog 121 qd [.c 2 7 true 60,.t 3] 1:=Told.of Go.Proofs.Tryz.func121 (by decide+kernel)
def Z4:aD Go.Proofs.Tryz.prog 121=true:=by decide+kernel
def aic:Told Go.Proofs.Tryz.prog 122 H6 [] 2:=Told.of Go.Proofs.Tryz.func122 (by decide+kernel)
def Z5:aD Go.Proofs.Tryz.prog 122=true:=by decide+kernel
def aid:Told Go.Proofs.Tryz.prog 123 F3 [.t 4] 2:=Told.of Go.Proofs.Tryz.func123 (by decide+kernel)
def Z6:aD Go.Proofs.Tryz.prog 123=true:=by decide+kernel
def aie:Told Go.Proofs.Tryz.prog 124 HV [.t 4] 2:=Told.of Go.Proofs.Tryz.func124 (by decide+kernel)
def Z7:aD Go.Proofs.Tryz.prog 124=true:=by decide+kernel
def aif:Told Go.Proofs.Tryz.prog 125 oV [.t 4] 2:=Told.of Go.Proofs.Tryz.func125 (by decide+kernel)
def Z8:aD Go.Proofs.Tryz.prog 125=true:=by decide+kernel
def aii:Told Go.Proofs.Tryz.prog 130 BZ [.t 4,.t 5] 2:=Told.of Go.Proofs.Tryz.func130 (by decide+kernel)
def aac:aD Go.Proofs.Tryz.prog 130=true:=by decide+kernel
def aij:Told Go.Proofs.Tryz.prog 131 FE [.c 2 6 true 129] 1:=Told.of Go.Proofs.Tryz.func131 (by decide+kernel)
def aad:aD Go.Proofs.Tryz.prog 131=true:=by decide+kernel
def aik:Told Go.Proofs.Tryz.prog 132 xV [.t 6] 3:=Told.of Go.Proofs.Tryz.func132 (by decide+kernel)
def aae:aD Go.Proofs.Tryz.prog 132=true:=by decide+kernel
def ail:Told Go.Proofs.Tryz.prog 133 FR [.t 2] 1:=Told.of Go.Proofs.Tryz.func133 (by decide+kernel)
def aaf:aD Go.Proofs.Tryz.prog 133=true:=by decide+kernel
def aim:Told Go.Proofs.Tryz.prog 134 Dy [.t 4] 2:=Told.of Go.Proofs.Tryz.func134 (by decide+kernel)
def aag:aD Go.Proofs.Tryz.prog 134=true:=by decide+kernel
def ain:Told Go.Proofs.Tryz.prog 135 yp [.t 4] 2:=Told.of Go.Proofs.Tryz.func135 (by decide+kernel)
def aah:aD Go.Proofs.Tryz.prog 135=true:=by decide+kernel
def aio:Told Go.Proofs.Tryz.prog 136 F7 [.c 2 3 true 47] 1:=Told.of Go.Proofs.Tryz.func136 (by decide+kernel)
def aai:aD Go.Proofs.Tryz.prog 136=true:=by decide+kernel
def aip:Told Go.Proofs.Tryz.prog 137 Ci [.t 6] 3:=Told.of Go.Proofs.Tryz.func137 (by decide+kernel)
def aaj:aD Go.Proofs.Tryz.prog 137=true:=by decide+kernel
def aiq:Told Go.Proofs.Tryz.prog 139 Gg [.t 4] 2:=Told.of Go.Proofs.Tryz.func139 (by decide+kernel)
def aak:aD Go.Proofs.Tryz.prog 139=true:=by decide+kernel
def ais:Told Go.Proofs.Tryz.prog 140 Gs [.t 4] 2:=Told.of Go.Proofs.Tryz.func140 (by decide+kernel)
def aam:aD Go.Proofs.Tryz.prog 140=true:=by decide+kernel
def ait:Told Go.Proofs.Tryz.prog 141 Gd [.t 2] 1:=Told.of Go.Proofs.Tryz.func141 (by decide+kernel)
def aan:aD Go.Proofs.Tryz.prog 141=true:=by decide+kernel
def aiu:Told Go.Proofs.Tryz.prog 142 F9 [.t 2] 1:=Told.of Go.Proofs.Tryz.func142 (by decide+kernel)
def aao:aD Go.Proofs.Tryz.prog 142=true:=by decide+kernel
def aiv:Told Go.Proofs.Tryz.prog 143 FT [.t 2] 1:=Told.of Go.Proofs.Tryz.func143 (by decide+kernel)
def aap:aD Go.Proofs.Tryz.prog 143=true:=by decide+kernel
def aiw:Told Go.Proofs.Tryz.prog 145 Gb [.t 2] 1:=Told.of Go.Proofs.Tryz.func145 (by decide+kernel)
def aaq:aD Go.Proofs.Tryz.prog 145=true:=by decide+kernel
def aix:Told Go.Proofs.Tryz.prog 146 Cj [.t 2] 1:=Told.of Go.Proofs.Tryz.func146 (by decide+kernel)
def aar:aD Go.Proofs.Tryz.prog 146=true:=by decide+kernel
def aiy:Told Go.Proofs.Tryz.prog 147 Gh [.t 2] 1:=Told.of Go.Proofs.Tryz.func147 (by decide+kernel)
def aas:aD Go.Proofs.Tryz.prog 147=true:=by decide+kernel
def aiA:Told Go.Proofs.Tryz.prog 151 qg [.c 2 3 true 47,.t 3] 1:=Told.of Go.Proofs.Tryz.func151 (by decide+kernel)
def aau:aD Go.Proofs.Tryz.prog 151=true:=by decide+kernel
def aiB:Told Go.Proofs.Tryz.prog 152 H9 [] 3:=Told.of Go.Proofs.Tryz.func152 (by decide+kernel)
def aav:aD Go.Proofs.Tryz.prog 152=true:=by decide+kernel
def aiC:Told Go.Proofs.Tryz.prog 153 HW [.t 2] 1:=Told.of Go.Proofs.Tryz.func153 (by decide+kernel)
def aaw:aD Go.Proofs.Tryz.prog 153=true:=by decide+kernel
def aiD:Told Go.Proofs.Tryz.prog 159 rK [] 2:=Told.of Go.Proofs.Tryz.func159 (by decide+kernel)
def aax:aD Go.Proofs.Tryz.prog 159=true:=by decide+kernel
def aiF:Told Go.Proofs.Tryz.prog 160 FV [.t 4] 2:=Told.of Go.Proofs.Tryz.func160 (by decide+kernel)
def aaz:aD Go.Proofs.Tryz.prog 160=true:=by decide+kernel
def aiG:Told Go.Proofs.Tryz.prog 161 yF [.t 4] 2:=Told.of Go.Proofs.Tryz.func161 (by decide+kernel)
def aaA:aD Go.Proofs.Tryz.prog 161=true:=by decide+kernel
def aiH:Told Go.Proofs.Tryz.prog 162 DJ [.t 4] 2:=Told.of Go.Proofs.Tryz.func162 (by decide+kernel)
def aaB:aD Go.Proofs.Tryz.prog 162=true:=by decide+kernel
def aiI:Told Go.Proofs.Tryz.prog 164 DE [.t 4] 2:=Told.of Go.Proofs.Tryz.func164 (by decide+kernel)
def aaC:aD Go.Proofs.Tryz.prog 164=true:=by decide+kernel
def aiJ:Told Go.Proofs.Tryz.prog 165 Gr [.t 3] 2:=Told.of Go.Proofs.Tryz.func165 (by decide+kernel)
def aaD:aD Go.Proofs.Tryz.prog 165=true:=by decide+kernel
def aiK:Told Go.Proofs.Tryz.prog 168 Gz [.t 2] 1:=Told.of Go.Proofs.Tryz.func168 (by decide+kernel)
def aaE:aD Go.Proofs.Tryz.prog 168=true:=by decide+kernel
def aiM:Told Go.Proofs.Tryz.prog 172 tV [.t 2,.t 3,.t 4,.t 5] 1:=Told.of Go.Proofs.Tryz.func172 (by decide+kernel)
def aaG:aD Go.Proofs.Tryz.prog 172=true:=by decide+kernel
def aiN:Told Go.Proofs.Tryz.prog 173 DK [] 4:=Told.of Go.Proofs.Tryz.func173 (by decide+kernel)
def aaH:aD Go.Proofs.Tryz.prog 173=true:=by decide+kernel
def aiO:Told Go.Proofs.Tryz.prog 174 U5 [] 5:=Told.of Go.Proofs.Tryz.func174 (by decide+kernel)
def aaI:aD Go.Proofs.Tryz.prog 174=true:=by decide+kernel
def aiP:Told Go.Proofs.Tryz.prog 178 GG [.t 2] 1:=Told.of Go.Proofs.Tryz.func178 (by decide+kernel)
def aaJ:aD Go.Proofs.Tryz.prog 178=true:=by decide+kernel
def aiS:Told Go.Proofs.Tryz.prog 194 UR [] 5:=Told.of Go.Proofs.Tryz.func194 (by decide+kernel)
def aaM:aD Go.Proofs.Tryz.prog 194=true:=by decide+kernel
def aiU:Told Go.Proofs.Tryz.prog 212 UU [] 5:=Told.of Go.Proofs.Tryz.func212 (by decide+kernel)
def aaO:aD Go.Proofs.Tryz.prog 212=true:=by decide+kernel
def ajw:Told Go.Proofs.Tryz.prog 59 (s6 4 48) [.t 2] 1:=Told.of Go.Proofs.Tryz.func59 (by decide+kernel)
def ajg:Told Go.Proofs.Tryz.prog 43 (s6 2 32) [.t 2] 1:=Told.of Go.Proofs.Tryz.func43 (by decide+kernel)
def ahQ:Told Go.Proofs.Tryz.prog 100 (s6 2 24) [.t 2] 1:=Told.of Go.Proofs.Tryz.func100 (by decide+kernel)
def ai4:Told Go.Proofs.Tryz.prog 32 (s6 1 8) [.t 2] 1:=Told.of Go.Proofs.Tryz.func32 (by decide+kernel)
def ajy:Told Go.Proofs.Tryz.prog 60 (s6 1 16) [.t 2] 1:=Told.of Go.Proofs.Tryz.func60 (by decide+kernel)
set_option maxHeartbeats 4000000 in
def ak2:TT.Ok Go.Proofs.Tryz.prog:=by
  refine⟨λf F h=>?_,λf F h=>?_⟩
  · have h:_=_:=h
    rcases Option.or_eq_some_iff.1 h with h|⟨_,h⟩
    · unfold IC at h
      split at h
      · cases h;exact ajc
      · cases h;exact ajm
      · cases h;exact ajx
      · cases h;exact ajH
      · cases h;exact ajR
      · cases h;exact ahP
      · cases h;exact ahZ
      · cases h;exact ah9
      · cases h;exact aih
      · cases h;exact air
      · cases h;exact aiz
      · cases h;exact aiE
      · cases h;exact aiL
      · cases h;exact aiQ
      · cases h;exact aiR
      · cases h;exact aiT
      · cases h;exact aiV
      · cases h;exact aiW
      · cases h;exact aiX
      · cases h;exact aiY
      · cases h;exact aiZ
      · cases h;exact ai0
      · cases h;exact ai1
      · cases h;exact ai2
      · cases h;exact ai3
      · cases h;exact ai5
      · cases h;exact ai6
      · cases h;exact ai7
      · cases h;exact ai8
      · cases h;exact ai9
      · cases h;exact aja
      · cases h;exact ajb
      · cases h;exact ajd
      · cases h;exact aje
      · cases h;exact ajf
      · cases h;exact ajh
      · cases h;exact aji
      · cases h;exact ajj
      · cases h;exact ajk
      · cases h;exact ajl
      · cases h;exact ajn
      · cases h;exact ajo
      · cases h;exact ajp
      · cases h;exact ajq
      · cases h;exact ajr
      · cases h;exact ajs
      · cases h;exact ajt
      · cases h;exact aju
      · cases h;exact ajv
      · cases h;exact ajz
      · cases h;exact ajA
      · cases h;exact ajB
      · cases h;exact ajC
      · cases h;exact ajD
      · cases h;exact ajE
      · cases h;exact ajF
      · cases h;exact ajG
      · cases h;exact ajI
      · cases h;exact ajJ
      · cases h;exact ajK
      · cases h;exact ajL
      · cases h;exact ajM
      · cases h;exact ajN
      · cases h;exact ajO
      · cases h;exact ajP
      · cases h;exact ajQ
      · cases h;exact ajS
      · cases h;exact ajT
      · cases h;exact ajU
      · cases h;exact ajV
      · cases h;exact ajW
      · cases h;exact ajX
      · cases h;exact ajY
      · cases h;exact ajZ
      · cases h;exact aj0
      · cases h;exact aj1
      · cases h;exact aj2
      · cases h;exact aj3
      · cases h;exact aj4
      · cases h;exact aj5
      · cases h;exact aj6
      · cases h;exact aj7
      · cases h;exact aj8
      · cases h;exact aj9
      · cases h;exact aka
      · cases h;exact akb
      · cases h;exact ahR
      · cases h;exact ahS
      · cases h;exact ahT
      · cases h;exact ahU
      · cases h;exact ahV
      · cases h;exact ahW
      · cases h;exact ahX
      · cases h;exact ahY
      · cases h;exact ah0
      · cases h;exact ah1
      · cases h;exact ah2
      · cases h;exact ah3
      · cases h;exact ah4
      · cases h;exact ah5
      · cases h;exact ah6
      · cases h;exact ah7
      · cases h;exact ah8
      · cases h;exact aia
      · cases h;exact aib
      · cases h;exact aic
      · cases h;exact aid
      · cases h;exact aie
      · cases h;exact aif
      · cases h;exact aii
      · cases h;exact aij
      · cases h;exact aik
      · cases h;exact ail
      · cases h;exact aim
      · cases h;exact ain
      · cases h;exact aio
      · cases h;exact aip
      · cases h;exact aiq
      · cases h;exact ais
      · cases h;exact ait
      · cases h
    unfold ID at h
    split at h
    · cases h;exact aiu
    · cases h;exact aiv
    · cases h;exact aiw
    · cases h;exact aix
    · cases h;exact aiy
    · cases h;exact aiA
    · cases h;exact aiB
    · cases h;exact aiC
    · cases h;exact aiD
    · cases h;exact aiF
    · cases h;exact aiG
    · cases h;exact aiH
    · cases h;exact aiI
    · cases h;exact aiJ
    · cases h;exact aiK
    · cases h;exact aiM
    · cases h;exact aiN
    · cases h;exact aiO
    · cases h;exact aiP
    · cases h;exact aiS
    · cases h;exact aiU
    · cases h
  · have h:_=_:=h
    rcases Option.or_eq_some_iff.1 h with h|⟨_,h⟩
    · unfold IC at h
      split at h
      · cases h;exact aa5
      · cases h;exact abg
      · cases h;exact abq
      · cases h;exact abA
      · cases h;exact abK
      · cases h;exact ZJ
      · cases h;exact ZS
      · cases h;exact Z2
      · cases h;exact Z9
      · cases h;exact aal
      · cases h;exact aat
      · cases h;exact aay
      · cases h;exact aaF
      · cases h;exact aaK
      · cases h;exact aaL
      · cases h;exact aaN
      · cases h;exact aaP
      · cases h;exact aaQ
      · cases h;exact aaR
      · cases h;exact aaS
      · cases h;exact aaT
      · cases h;exact aaU
      · cases h;exact aaV
      · cases h;exact aaW
      · cases h;exact aaX
      · cases h;exact aaY
      · cases h;exact aaZ
      · cases h;exact aa0
      · cases h;exact aa1
      · cases h;exact aa2
      · cases h;exact aa3
      · cases h;exact aa4
      · cases h;exact aa6
      · cases h;exact aa7
      · cases h;exact aa8
      · cases h;exact aa9
      · cases h;exact abb
      · cases h;exact abd
      · cases h;exact abe
      · cases h;exact abf
      · cases h;exact abh
      · cases h;exact abi
      · cases h;exact abj
      · cases h;exact abk
      · cases h;exact abl
      · cases h;exact abm
      · cases h;exact abn
      · cases h;exact abo
      · cases h;exact abp
      · cases h;exact abr
      · cases h;exact abt
      · cases h;exact abu
      · cases h;exact abv
      · cases h;exact abw
      · cases h;exact abx
      · cases h;exact aby
      · cases h;exact abz
      · cases h;exact abB
      · cases h;exact abC
      · cases h;exact abD
      · cases h;exact abE
      · cases h;exact abF
      · cases h;exact abG
      · cases h;exact abH
      · cases h;exact abI
      · cases h;exact abJ
      · cases h;exact abL
      · cases h;exact abM
      · cases h;exact abN
      · cases h;exact abO
      · cases h;exact abP
      · cases h;exact abQ
      · cases h;exact abR
      · cases h;exact abS
      · cases h;exact abT
      · cases h;exact abU
      · cases h;exact abV
      · cases h;exact abW
      · cases h;exact abX
      · cases h;exact abY
      · cases h;exact abZ
      · cases h;exact ab0
      · cases h;exact ab1
      · cases h;exact ab2
      · cases h;exact ab3
      · cases h;exact ab4
      · cases h;exact ZK
      · cases h;exact ZL
      · cases h;exact ZM
      · cases h;exact ZN
      · cases h;exact ZO
      · cases h;exact ZP
      · cases h;exact ZQ
      · cases h;exact ZR
      · cases h;exact ZT
      · cases h;exact ZU
      · cases h;exact ZV
      · cases h;exact ZW
      · cases h;exact ZX
      · cases h;exact ZY
      · cases h;exact ZZ
      · cases h;exact Z0
      · cases h;exact Z1
      · cases h;exact Z3
      · cases h;exact Z4
      · cases h;exact Z5
      · cases h;exact Z6
      · cases h;exact Z7
      · cases h;exact Z8
      · cases h;exact aac
      · cases h;exact aad
      · cases h;exact aae
      · cases h;exact aaf
      · cases h;exact aag
      · cases h;exact aah
      · cases h;exact aai
      · cases h;exact aaj
      · cases h;exact aak
      · cases h;exact aam
      · cases h;exact aan
      · cases h
    unfold ID at h
    split at h
    · cases h;exact aao
    · cases h;exact aap
    · cases h;exact aaq
    · cases h;exact aar
    · cases h;exact aas
    · cases h;exact aau
    · cases h;exact aav
    · cases h;exact aaw
    · cases h;exact aax
    · cases h;exact aaz
    · cases h;exact aaA
    · cases h;exact aaB
    · cases h;exact aaC
    · cases h;exact aaD
    · cases h;exact aaE
    · cases h;exact aaG
    · cases h;exact aaH
    · cases h;exact aaI
    · cases h;exact aaJ
    · cases h;exact aaM
    · cases h;exact aaO
    · cases h
def ak0(htab:Lib.TabIs Go.Proofs.Tryz.prog Bs.W0 "internal/strconv.uint64pow10" .u64 Lib.pow10Tab) (hmax:∃m,Bs.W0.cell? ⟨3,0,none⟩=some (.int .i64 m)) (Kk:∃te pe,Bs.W0.var? Go.Proofs.Tryz.prog "strconv.ErrSyntax" =some #[.iface te pe]) (kU:∃te pe,Bs.W0.var? Go.Proofs.Tryz.prog "strconv.ErrRange" =some #[.iface te pe]):gd.Sound Go.Proofs.Tryz.prog:=(lf (Zv λA cap fs w h1 h2 h3=>Go.Proofs.ab9 A cap fs w h1 h2 h3) (lf (ae5 λs w hw hs=>Go.Proofs.ae0 htab Kk kU s w hw hs) (lf (Ay ajw) (lf (Ay ajg) (lf (Ay ahQ) (lf (Ay ai4) (lf (Ay ajy) (lf (adZ htab λn h0 h1 w ht=>Go.Proofs.Tryz.strconv_Itoa n h0 h1 w ht) (lf (YX (g1:=3) hmax λs sep m w h1 h2=>Go.Proofs.Tryz.strings_Cut s sep m w h1 h2) (lf (YY λs p w=>Go.Proofs.Tryz.strings_CutPrefix s p w) (lf (acH λs p w=>Go.Proofs.Tryz.strings_HasPrefix s p w) (lf (ahu (g1:=3) (t9:=_) hmax λs sep m w h1 h2 h3=>Go.Proofs.Tryz.strings_Split s sep m w h1 h2 h3) (lf (akc λs c h w hs=>Go.Proofs.Tryz.strings_Trim_one s c h w hs) (Y2 (by decide) rfl λblk off cap len i news w h1 h2 h3 h4 h5 h6=>Go.Proofs.ZF blk off cap len i news w h1 h2 h3 h4 h5 h6))))))))))))))
end M
