/- Each function of the table is the program's, and the library is as it is said to be; no conditions. -/
import Derived.Test.YtacflkabkpeinaaGreatDoorProg
import Derived.Test.YtacflkabkpeinaaGreatDoorLay
import Derived.Test.YtacflkabkpeinaaGreatDoorTab
import Derived.Test.YtacflkabkpeinaaGreatDoorMc
import Derived.WalkKit
import Derived.Lib.FrozenHead
import Derived.Lib.OthersKept
import Derived.Lib.Builder
set_option linter.unusedSectionVars false
set_option linter.unusedVariables false
set_option linter.unusedSimpArgs false
set_option linter.unusedVariables false
set_option linter.unusedSectionVars false
set_option maxRecDepth 100000
namespace Go.Proofs
open Go.RowKit
set_option maxHeartbeats 2000000 in
set_option maxRecDepth 100000 in
theorem Td (b : Nat) (w : World) (h0 : w.cell? ⟨b,0,none⟩ = some (.pointer (some ⟨b,0,none⟩))) :
    Calls Tryz.prog 197 #[.pointer (some ⟨b,0,none⟩)] w fun e w'=>e = .returned (.tuple #[])∧w' = w:=by
  obtain ⟨j,hj,BG⟩:=Option.map_eq_some_iff.1 (show (Tryz.prog.info? 136).map (·.size) = some 2 by kernel_rfl)
  go_enter Tryz.func197,Tryz.ntmps197
  go_wp2
  rw [Lib.run_neq_ptr_same w _ Tryz.underlying133 hj]
  go_wp2
  go_end0
  exact ⟨rfl,rfl⟩
set_option maxHeartbeats 2000000 in
set_option maxRecDepth 100000 in
theorem Tc (b : Nat) (w : World) (h0 : w.cell? ⟨b,0,none⟩ = some (.pointer none)) (hsh : w.shape? b = some (136,2)) (hfz : w.frozen? ⟨b,0,none⟩ = false) :
    Calls Tryz.prog 197 #[.pointer (some ⟨b,0,none⟩)] w fun e w'=>e = .returned (.tuple #[])∧w' = w.setCell ⟨b,0,none⟩ (.pointer (some ⟨b,0,none⟩)):=by
  obtain ⟨j,hj,BG⟩:=Option.map_eq_some_iff.1 (show (Tryz.prog.info? 136).map (·.size) = some 2 by kernel_rfl)
  go_enter Tryz.func197,Tryz.ntmps197
  go_wp2
  rw [Lib.run_to_unsafe w ⟨b,0,none⟩ Tryz.underlying133 Tryz.underlying319 hj (by rw [BG]; decide) hsh (Nat.zero_lt_succ 1)]
  simp only [Result.andThen]
  rw [Oper.upon_value]
  go_wp2
  rw [run_callFunc_extern Tryz.func305 (by kernel_rfl) (by kernel_rfl) (by kernel_rfl) (e:=Extern.AbiNoEscape.same) (by kernel_rfl)]
  rw [Lib.run_noEscape]
  simp only [Result.andThen]
  rw [Oper.upon_value]
  go_wp2
  rw [Lib.run_from_unsafe w ⟨b,0,none⟩ Tryz.underlying319 Tryz.underlying133 hj hsh (by kernel_rfl)]
  simp only [Result.andThen]
  rw [Oper.upon_value]
  go_wp2
  go_end0
  exact ⟨rfl,rfl⟩
theorem Tb (B b : Nat) (bs : List Value) (w : World) (h : Lib.IsBuilderF 136 5 B b bs w) :
    Calls Tryz.prog 197 #[.pointer (some ⟨b,0,none⟩)] w fun e w'=>e = .returned (.tuple #[])∧(Lib.BuilderAtF 136 5 B b (.pointer (some ⟨b,0,none⟩)) bs w'∧Below B w w'):=by
  rcases h with h | h
  · refine (Tc b w h.cell0 h.shape h.frozen0).mono ?_
    rintro e w' ⟨rfl,rfl⟩
    exact ⟨rfl,h.used _,(Below.refl B w).setCell (p:=⟨b,0,none⟩) h.1 _⟩
  · refine (Td b w h.cell0).mono ?_
    rintro e w' ⟨rfl,rfl⟩
    exact ⟨rfl,h,Below.refl B _⟩
set_option maxHeartbeats 2000000 in
set_option maxRecDepth 100000 in
theorem Te (B b : Nat) (bs : List Value) (s : ByteArray) (w : World) (h : Lib.IsBuilderF 136 5 B b bs w) (hlen : bs.length + s.size≤140737488355328) (hBw : B≤w.heap.size) :
    Calls Tryz.prog 89 #[.pointer (some ⟨b,0,none⟩),.string s] w fun e w'=>e = .returned (.tuple #[.int .i64 s.size,.nilIface])∧(Lib.BuilderAtF 136 5 B b (.pointer (some ⟨b,0,none⟩)) (bs ++ Lib.strCells s) w'∧Below B w w'):=by
  obtain ⟨i0,hi,hz0,hz1,hz2⟩:=info_parts (P:=Tryz.prog) (e:=5) (z:=.int .u8 0) (size:=1) (bytes:=1) (by kernel_rfl)
  go_enter Tryz.func89,Tryz.ntmps89
  go_wp2_with (go_at_call 197; refine (Tb B b bs _ h).mono ?_)
  rintro e w1 ⟨rfl,h1,dh⟩
  obtain ⟨hB,v,hbk,hown,hne⟩:=h1
  have c0 : w1.cell? ⟨b,0,none⟩ = some (.pointer (some ⟨b,0,none⟩)):=by rw [Lib.cell_of_heap hbk]; rfl
  have c1 : w1.cell? ⟨b,1,none⟩ = some v:=by rw [Lib.cell_of_heap hbk]; rfl
  go_wp2_with (at_builtin; refine Lib.wpList_append_own_stringF _ rfl _ _ 134 9 rfl B 5 i0 Tryz.underlying134 Tryz.underlying9 hi hz0 hz1 hz2 _ _ _ rfl hown s rfl ?c3 ?c4 ?c5 ?_)
  case c3=>unfold maxLen; omega
  case c4=>omega
  case c5=>have:=dh.size; omega
  intro v' w2 hown' hgrow _
  have hlt : b < w1.heap.size:=by
    rcases Nat.lt_or_ge b w1.heap.size with h' | h'
    · exact h'
    · simp [Array.getElem?_eq_none h'] at hbk
  have fQ : w2.heap[b]? = some (.cells #[.pointer (some ⟨b,0,none⟩),v] 136 (0,0)):=by
    rw [hgrow.block b hlt (fun e=>hne e.symm)]
    exact hbk
  have d0 : w2.cell? ⟨b,0,none⟩ = some (.pointer (some ⟨b,0,none⟩)):=by rw [Lib.cell_of_heap fQ]; rfl
  have d1 : w2.cell? ⟨b,1,none⟩ = some v:=by rw [Lib.cell_of_heap fQ]; rfl
  have f1 : w2.frozen? ⟨b,1,none⟩ = false:=Lib.frozen_of_heap fQ 1
  obtain ⟨ao,n',cap,rfl⟩ : ∃ ao n' cap,v' = .slice ao n' cap:=by
    rcases hown'.2 with ⟨hv,_⟩ | ⟨g,cap,cur,fz,hv,_⟩
    · exact ⟨_,_,_,hv⟩
    · exact ⟨_,_,_,hv⟩
  go_wp2
  go_ret2
  refine ⟨rfl,?_,?_⟩
  · exact Lib.BuilderAtF.put (T:=136) (e:=5) hB fQ (bs':=bs ++ Lib.strCells s) (by simpa [Lib.strCells_length] using hown') (by decide)
  · exact (dh.grown hgrow (by have:=dh.size; omega) (fun k hk=>(hown.lt k hk).1)).setCell (p:=⟨b,1,none⟩) hB _
set_option maxHeartbeats 4000000 in
set_option maxRecDepth 1000000 in
theorem ZS (A : Option Addr) (cap : Nat) (fs : List (ByteArray×ByteArray)) (w : World)
    (hc : ∀ i f,fs[i]? = some f→∃ g o,A = some ⟨g,o,none⟩∧g < w.heap.size∧w.cell? ⟨g,o + i * 2,none⟩ = some (.string f.1)∧w.cell? ⟨g,o + i * 2 + 1,none⟩ = some (.string f.2))
    (hb : (M.iE fs).length≤140737488355328) (hl : fs.length≤140737488355328) :
    Calls Tryz.prog 442 #[.slice A fs.length cap] w fun e w'=>e = .returned (.string ⟨(M.iE fs).toArray⟩)∧Below w.heap.size w w':=by
  go_enter Tryz.func442,Tryz.ntmps442
  go_wp2
  go_loopw [8] (fun vi wr=>∃ k : Nat,vi = .int .i64 k∧k≤fs.length∧Lib.IsBuilderF 136 5 w.heap.size w.heap.size (Lib.byteCells (M.iE (fs.take k))) wr∧Below w.heap.size w wr) (fun vi _=>fs.length - (intOf vi).toNat)
  case atStart =>
    exact ⟨0,rfl,Nat.zero_le _,Lib.IsBuilderF.of (Lib.fresh_isBuilder 136 5 w),(Below.refl _ w).alloc (Nat.le_refl _) _⟩
  case round =>
    obtain ⟨k,rfl,hk,hI,wH⟩:=hrel
    have hsz : w.heap.size≤wr.heap.size:=wH.size
    by_cases hlt : k < fs.length
    · obtain ⟨g,o,rfl,hg,hk1⟩:=hc k fs[k] (by simp [hlt])
      have c1 : wr.cell? ⟨g,o + k * 2,none⟩ = some (.string fs[k].1):=by rw [wH.cell (p:=⟨g,o + k * 2,none⟩) hg]; exact hk1.1
      have c2 : wr.cell? ⟨g,o + k * 2 + 1,none⟩ = some (.string fs[k].2):=by rw [wH.cell (p:=⟨g,o + k * 2 + 1,none⟩) hg]; exact hk1.2
      have hlt2 : (k : Int) < fs.length:=by omega
      have hle:=M.ZT hlt
      have htk:=M.MF hlt
      have s1 : ¬ 9223372036854775807 < fs[k].1.size + 2:=by omega
      have s2 : ¬ 9223372036854775807 < fs[k].1.size + 2 + fs[k].2.size:=by omega
      have s3 : ¬ 9223372036854775807 < fs[k].1.size + 2 + fs[k].2.size + 2:=by omega
      go_wp2_with (go_at_call 89; refine (Te w.heap.size w.heap.size _ _ _ (hI.alloc _) ?_ ?_).mono ?_)
      · rw [Lib.byteCells_length]
        simp only [ByteArray.size_append]
        have e1 : (⟨#[58,32]⟩ : ByteArray).size = 2:=rfl
        have e2 : (⟨#[13,10]⟩ : ByteArray).size = 2:=rfl
        omega
      · simp only [World.alloc]
        simp
        omega
      rintro e W1 ⟨rfl,h1,b1⟩
      go_wp2
      go_roundw
      case rel =>
        refine ⟨k + 1,by go_num,by omega,?_,(wH.alloc hsz _).trans b1⟩
        rw [htk,Lib.byteCells_append]
        refine Or.inr ?_
        have e : Lib.strCells (fs[k].1 ++ ⟨#[58,32]⟩ ++ fs[k].2 ++ ⟨#[13,10]⟩) = Lib.byteCells (fs[k].1.data.toList ++ [58,32] ++ fs[k].2.data.toList ++ [13,10]):=by
          rw [Lib.strCells_eq]
          congr 1
        rw [← e]
        exact h1
      case measure =>
        simp [intOf]
        omega
    · have hlt2 : ¬ (k : Int) < fs.length:=by omega
      go_wp2_with (go_at_call 90; refine (Tryz.Builder_String_any_f w.heap.size w.heap.size _ _ hI hsz).mono ?_)
      rintro e W1 rfl h2 b1
      clear h2
      go_wp2
      go_ret
      have : k = fs.length:=by omega
      subst this
      rw [List.take_length]
      exact ⟨rfl,wH.trans b1⟩
end Go.Proofs
namespace Go.Proofs
open Go.RowKit
set_option maxHeartbeats 2000000 in
set_option maxRecDepth 100000 in
theorem ack (s : ByteArray) (h : 7 < s.size) (w : World) :
    Calls Go.Proofs.Tryz.prog 332 #[.string s] w fun e w'=>e = .returned (.tuple #[.int .i64 0,.bool false])∧w' = w:=by
  go_enter Tryz.func332,Tryz.ntmps332
  go_wp2
  · go_ret2; exact ⟨rfl,rfl⟩
set_option maxHeartbeats 2000000 in
set_option maxRecDepth 100000 in
theorem acn (s : ByteArray) (h : ¬ 7 < s.size) (v : Int) (hv : Lib.atoiAll s.data.toList = .ok v) (w : World) (htab : Lib.TabIs Go.Proofs.Tryz.prog w "internal/strconv.uint64pow10" .u64 Lib.pow10Tab) :
    Calls Go.Proofs.Tryz.prog 332 #[.string s] w fun e w'=>e = .returned (.tuple #[.int .i64 (uL v s.data.toList),.bool (mF v s.data.toList)])∧Below w.heap.size w w':=by
  have jN:=Lib.atoiAll_bounds hv
  go_enter Tryz.func332,Tryz.ntmps332
  go_wp2_with (first
    | (go_at_call 407; refine (Tryz.strconv_Atoi_ok s (by omega) v hv _).mono ?_; rintro e W1 ⟨rfl,M6⟩; have dh : Below w.heap.size w W1:=(by rcases M6 with rfl | ⟨t,rfl⟩; exact Below.refl _ _; exact Lib.bytesWorld_below _ _ _); clear M6)
    | (go_at_call 408; refine (Tryz.strconv_Itoa v jN.1 jN.2 _ (aey htab dh)).mono ?_; rintro e W2 ⟨rfl,k,os,M7⟩; have fQ : Below w.heap.size w W2:=(by subst M7; exact dh.trans ((ZY W1 k os).mono dh.size)); clear M7)
    | go_in)
  all_goals go_ret2
  all_goals refine ⟨?_,by assumption⟩
  all_goals first
    | (have hb : mF v s.data.toList = true:=(by
        unfold mF
        rw [decide_eq_true_eq]
        refine ⟨by assumption,by assumption,?_⟩
        rw [← Lib.toList_data]
        rename_i hz
        simpa using hz)
       rw [uL,if_pos hb,hb]; rfl)
    | (have hb : mF v s.data.toList = false:=(by
        unfold mF
        rw [decide_eq_false_iff_not]
        rintro ⟨h1,h2,h3⟩
        first
        | omega
        | (rw [← Lib.toList_data] at h3
           rename_i hz
           simp [h3] at hz))
       rw [uL,hb]; rfl)
set_option maxHeartbeats 2000000 in
set_option maxRecDepth 100000 in
theorem acj (s : ByteArray) (h : ¬ 7 < s.size) (w : World)
    (hA : Calls Go.Proofs.Tryz.prog 407 #[.string s] w fun e w'=>∃ n t N,e = .returned (.tuple #[.int .i64 n,.iface t (.pointer (some ⟨N,0,none⟩))])∧Below w.heap.size w w') :
    Calls Go.Proofs.Tryz.prog 332 #[.string s] w fun e w'=>e = .returned (.tuple #[.int .i64 0,.bool false])∧Below w.heap.size w w':=by
  go_enter Tryz.func332,Tryz.ntmps332
  go_wp2_with (first
    | (go_at_call 407; refine hA.mono ?_; rintro e W1 ⟨n,t,N,rfl,dh⟩)
    | go_in)
  all_goals go_ret2
  all_goals exact ⟨rfl,by assumption⟩
theorem aci [B : M.Bs] (htab : Lib.TabIs Go.Proofs.Tryz.prog B.W0 "internal/strconv.uint64pow10" .u64 Lib.pow10Tab) (GR : ∃ te pe,B.W0.var? Go.Proofs.Tryz.prog "strconv.ErrSyntax" = some #[.iface te pe]) (js : ∃ te pe,B.W0.var? Go.Proofs.Tryz.prog "strconv.ErrRange" = some #[.iface te pe])
    (s : ByteArray) (w : World) (hw : M.l5 w) (hs : s.size≤9223372036854775807) :
    Calls Go.Proofs.Tryz.prog 332 #[.string s] w fun e w'=>e = .returned (.tuple #[.int .i64 (((M.aZ s.data.toList).getD 0 : Nat) : Int),.bool (M.aZ s.data.toList).isSome])∧Below w.heap.size w w':=by
  refine acm (a:=0) hs (fun h=>ack s h w) (fun h v hv=>acn s h v hv w (M.TabIs.same htab hw)) fun h hv=>?_
  refine acj s h w ?_
  rcases dH : Lib.atoiAll s.data.toList with v | _ | _
  · exact absurd dH (hv v)
  · obtain ⟨te,pe,h1⟩:=GR
    exact (Any.strconv_Atoi_syntax_var Tryz.laysC172 s (by omega) dH te pe w (Qd h1 hw)).mono fun e w' ⟨N,he,_,_,hb⟩=>⟨_,_,N,he,hb⟩
  · obtain ⟨te,pe,h1⟩:=js
    exact (Any.strconv_Atoi_range_var Tryz.laysC172 s (by omega) dH te pe w (Qd h1 hw)).mono fun e w' ⟨N,he,_,_,hb⟩=>⟨_,_,N,he,hb⟩
end Go.Proofs
namespace M
open Go
variable [Bs]
theorem ahE : Told Go.Proofs.Tryz.prog 5 xQ [.t 2] 1:=Told.of Go.Proofs.Tryz.func5 (by decide +kernel)
theorem Zo : ak Go.Proofs.Tryz.prog 5 = true:=by decide +kernel
theorem aeJ : Told Go.Proofs.Tryz.prog 11 pR [.t 4] 2:=Told.of Go.Proofs.Tryz.func11 (by decide +kernel)
theorem Wp : ak Go.Proofs.Tryz.prog 11 = true:=by decide +kernel
theorem aeT : Told Go.Proofs.Tryz.prog 13 CR [.c 2 10 true 47] 1:=Told.of Go.Proofs.Tryz.func13 (by decide +kernel)
theorem WA : ak Go.Proofs.Tryz.prog 13 = true:=by decide +kernel
theorem ae6 : Told Go.Proofs.Tryz.prog 15 nP [.t 4] 2:=Told.of Go.Proofs.Tryz.func15 (by decide +kernel)
theorem WO : ak Go.Proofs.Tryz.prog 15 = true:=by decide +kernel
theorem afE : Told Go.Proofs.Tryz.prog 20 uX [.t 2] 1:=Told.of Go.Proofs.Tryz.func20 (by decide +kernel)
theorem Xp : ak Go.Proofs.Tryz.prog 20 = true:=by decide +kernel
theorem afH : Told Go.Proofs.Tryz.prog 21 tI [.t 2] 1:=Told.of Go.Proofs.Tryz.func21 (by decide +kernel)
theorem Xs : ak Go.Proofs.Tryz.prog 21 = true:=by decide +kernel
theorem ag5 : Told Go.Proofs.Tryz.prog 36 CI [.t 4] 2:=Told.of Go.Proofs.Tryz.func36 (by decide +kernel)
theorem YO : ak Go.Proofs.Tryz.prog 36 = true:=by decide +kernel
theorem aht : Told Go.Proofs.Tryz.prog 43 rK [.t 4] 2:=Told.of Go.Proofs.Tryz.func43 (by decide +kernel)
theorem Zc : ak Go.Proofs.Tryz.prog 43 = true:=by decide +kernel
theorem ahv : Told Go.Proofs.Tryz.prog 44 um [.t 4] 2:=Told.of Go.Proofs.Tryz.func44 (by decide +kernel)
theorem Ze : ak Go.Proofs.Tryz.prog 44 = true:=by decide +kernel
theorem ahz : Told Go.Proofs.Tryz.prog 45 uu [.t 4] 2:=Told.of Go.Proofs.Tryz.func45 (by decide +kernel)
theorem Zj : ak Go.Proofs.Tryz.prog 45 = true:=by decide +kernel
theorem ahA : Told Go.Proofs.Tryz.prog 46 uq [.t 4] 2:=Told.of Go.Proofs.Tryz.func46 (by decide +kernel)
theorem Zk : ak Go.Proofs.Tryz.prog 46 = true:=by decide +kernel
theorem ahC : Told Go.Proofs.Tryz.prog 48 C9 [.c 2 6 true 42] 1:=Told.of Go.Proofs.Tryz.func48 (by decide +kernel)
theorem Zm : ak Go.Proofs.Tryz.prog 48 = true:=by decide +kernel
theorem ahD : Told Go.Proofs.Tryz.prog 49 CV [.t 2] 1:=Told.of Go.Proofs.Tryz.func49 (by decide +kernel)
theorem Zn : ak Go.Proofs.Tryz.prog 49 = true:=by decide +kernel
theorem ahF : Told Go.Proofs.Tryz.prog 50 C7 [.t 2] 1:=Told.of Go.Proofs.Tryz.func50 (by decide +kernel)
theorem Zp : ak Go.Proofs.Tryz.prog 50 = true:=by decide +kernel
theorem ahG : Told Go.Proofs.Tryz.prog 51 C3 [.t 2] 1:=Told.of Go.Proofs.Tryz.func51 (by decide +kernel)
theorem Zq : ak Go.Proofs.Tryz.prog 51 = true:=by decide +kernel
theorem ahH : Told Go.Proofs.Tryz.prog 53 nG [.t 2] 1:=Told.of Go.Proofs.Tryz.func53 (by decide +kernel)
theorem Zr : ak Go.Proofs.Tryz.prog 53 = true:=by decide +kernel
theorem ahI : Told Go.Proofs.Tryz.prog 55 nR [.t 4] 2:=Told.of Go.Proofs.Tryz.func55 (by decide +kernel)
theorem Zs : ak Go.Proofs.Tryz.prog 55 = true:=by decide +kernel
theorem ahJ : Told Go.Proofs.Tryz.prog 56 CH [.t 4] 2:=Told.of Go.Proofs.Tryz.func56 (by decide +kernel)
theorem Zt : ak Go.Proofs.Tryz.prog 56 = true:=by decide +kernel
theorem ahK : Told Go.Proofs.Tryz.prog 57 CL [.t 4] 2:=Told.of Go.Proofs.Tryz.func57 (by decide +kernel)
theorem Zu : ak Go.Proofs.Tryz.prog 57 = true:=by decide +kernel
theorem ahL : Told Go.Proofs.Tryz.prog 58 CK [.t 4] 2:=Told.of Go.Proofs.Tryz.func58 (by decide +kernel)
theorem Zv : ak Go.Proofs.Tryz.prog 58 = true:=by decide +kernel
theorem ahM : Told Go.Proofs.Tryz.prog 67 mO [.t 2] 1:=Told.of Go.Proofs.Tryz.func67 (by decide +kernel)
theorem Zw : ak Go.Proofs.Tryz.prog 67 = true:=by decide +kernel
theorem ahN : Told Go.Proofs.Tryz.prog 72 zm [.c 2 6 true 42] 1:=Told.of Go.Proofs.Tryz.func72 (by decide +kernel)
theorem Zx : ak Go.Proofs.Tryz.prog 72 = true:=by decide +kernel
theorem ahO : Told Go.Proofs.Tryz.prog 73 DX [.c 2 2 true 38] 1:=Told.of Go.Proofs.Tryz.func73 (by decide +kernel)
theorem Zy : ak Go.Proofs.Tryz.prog 73 = true:=by decide +kernel
theorem ahP : Told Go.Proofs.Tryz.prog 74 zM [.t 4] 2:=Told.of Go.Proofs.Tryz.func74 (by decide +kernel)
theorem Zz : ak Go.Proofs.Tryz.prog 74 = true:=by decide +kernel
theorem ahQ : Told Go.Proofs.Tryz.prog 75 vh [.t 4] 2:=Told.of Go.Proofs.Tryz.func75 (by decide +kernel)
theorem ZA : ak Go.Proofs.Tryz.prog 75 = true:=by decide +kernel
theorem ahR : Told Go.Proofs.Tryz.prog 76 DQ [.c 4 2 true 38] 2:=Told.of Go.Proofs.Tryz.func76 (by decide +kernel)
theorem ZB : ak Go.Proofs.Tryz.prog 76 = true:=by decide +kernel
theorem ahS : Told Go.Proofs.Tryz.prog 77 Cw [.c 2 6 true 42] 1:=Told.of Go.Proofs.Tryz.func77 (by decide +kernel)
theorem ZC : ak Go.Proofs.Tryz.prog 77 = true:=by decide +kernel
theorem ahT : Told Go.Proofs.Tryz.prog 78 B0 [.c 2 2 true 38] 1:=Told.of Go.Proofs.Tryz.func78 (by decide +kernel)
theorem ZD : ak Go.Proofs.Tryz.prog 78 = true:=by decide +kernel
theorem ahU : Told Go.Proofs.Tryz.prog 79 BU [.c 4 2 true 38] 2:=Told.of Go.Proofs.Tryz.func79 (by decide +kernel)
theorem ZE : ak Go.Proofs.Tryz.prog 79 = true:=by decide +kernel
theorem ahV : Told Go.Proofs.Tryz.prog 80 B4 [.t 4] 2:=Told.of Go.Proofs.Tryz.func80 (by decide +kernel)
theorem ZF : ak Go.Proofs.Tryz.prog 80 = true:=by decide +kernel
theorem ahW : Told Go.Proofs.Tryz.prog 81 EY [.t 4] 2:=Told.of Go.Proofs.Tryz.func81 (by decide +kernel)
theorem ZG : ak Go.Proofs.Tryz.prog 81 = true:=by decide +kernel
theorem ahX : Told Go.Proofs.Tryz.prog 91 rJ [.t 4] 2:=Told.of Go.Proofs.Tryz.func91 (by decide +kernel)
theorem ZH : ak Go.Proofs.Tryz.prog 91 = true:=by decide +kernel
theorem ahY : Told Go.Proofs.Tryz.prog 92 ur [.t 4] 2:=Told.of Go.Proofs.Tryz.func92 (by decide +kernel)
theorem ZI : ak Go.Proofs.Tryz.prog 92 = true:=by decide +kernel
theorem ahZ : Told Go.Proofs.Tryz.prog 93 ug [.t 4] 2:=Told.of Go.Proofs.Tryz.func93 (by decide +kernel)
theorem ZJ : ak Go.Proofs.Tryz.prog 93 = true:=by decide +kernel
theorem ah0 : Told Go.Proofs.Tryz.prog 95 Eo [.t 6] 3:=Told.of Go.Proofs.Tryz.func95 (by decide +kernel)
theorem ZK : ak Go.Proofs.Tryz.prog 95 = true:=by decide +kernel
theorem ah1 : Told Go.Proofs.Tryz.prog 97 C5 [.c 2 4 true 72] 1:=Told.of Go.Proofs.Tryz.func97 (by decide +kernel)
theorem ZL : ak Go.Proofs.Tryz.prog 97 = true:=by decide +kernel
theorem ah2 : Told Go.Proofs.Tryz.prog 98 C6 [.c 2 3 true 74] 1:=Told.of Go.Proofs.Tryz.func98 (by decide +kernel)
theorem ZM : ak Go.Proofs.Tryz.prog 98 = true:=by decide +kernel
theorem ah3 : Told Go.Proofs.Tryz.prog 99 CQ [.c 2 4 true 75] 1:=Told.of Go.Proofs.Tryz.func99 (by decide +kernel)
theorem ZN : ak Go.Proofs.Tryz.prog 99 = true:=by decide +kernel
theorem aeF : Told Go.Proofs.Tryz.prog 101 Cn [.t 6] 3:=Told.of Go.Proofs.Tryz.func101 (by decide +kernel)
theorem Wl : ak Go.Proofs.Tryz.prog 101 = true:=by decide +kernel
theorem aeG : Told Go.Proofs.Tryz.prog 103 pQ [.t 4] 2:=Told.of Go.Proofs.Tryz.func103 (by decide +kernel)
theorem Wm : ak Go.Proofs.Tryz.prog 103 = true:=by decide +kernel
theorem aeH : Told Go.Proofs.Tryz.prog 104 rF [.t 4] 2:=Told.of Go.Proofs.Tryz.func104 (by decide +kernel)
theorem Wn : ak Go.Proofs.Tryz.prog 104 = true:=by decide +kernel
theorem aeI : Told Go.Proofs.Tryz.prog 105 pO [.t 4] 2:=Told.of Go.Proofs.Tryz.func105 (by decide +kernel)
theorem Wo : ak Go.Proofs.Tryz.prog 105 = true:=by decide +kernel
theorem aeK : Told Go.Proofs.Tryz.prog 116 uh [.t 4] 2:=Told.of Go.Proofs.Tryz.func116 (by decide +kernel)
theorem Wq : ak Go.Proofs.Tryz.prog 116 = true:=by decide +kernel
theorem aeL : Told Go.Proofs.Tryz.prog 117 uo [.t 4] 2:=Told.of Go.Proofs.Tryz.func117 (by decide +kernel)
theorem Ws : ak Go.Proofs.Tryz.prog 117 = true:=by decide +kernel
theorem aeM : Told Go.Proofs.Tryz.prog 118 uf [.t 4] 2:=Told.of Go.Proofs.Tryz.func118 (by decide +kernel)
theorem Wt : ak Go.Proofs.Tryz.prog 118 = true:=by decide +kernel
theorem aeN : Told Go.Proofs.Tryz.prog 119 rH [.t 4] 2:=Told.of Go.Proofs.Tryz.func119 (by decide +kernel)
theorem Wu : ak Go.Proofs.Tryz.prog 119 = true:=by decide +kernel
theorem aeO : Told Go.Proofs.Tryz.prog 120 uv [.t 4] 2:=Told.of Go.Proofs.Tryz.func120 (by decide +kernel)
theorem Wv : ak Go.Proofs.Tryz.prog 120 = true:=by decide +kernel
theorem aeP : Told Go.Proofs.Tryz.prog 121 rI [.t 4] 2:=Told.of Go.Proofs.Tryz.func121 (by decide +kernel)
theorem Ww : ak Go.Proofs.Tryz.prog 121 = true:=by decide +kernel
theorem aeQ : Told Go.Proofs.Tryz.prog 127 CS [.c 2 2 true 38] 1:=Told.of Go.Proofs.Tryz.func127 (by decide +kernel)
theorem Wx : ak Go.Proofs.Tryz.prog 127 = true:=by decide +kernel
theorem aeR : Told Go.Proofs.Tryz.prog 128 CY [.t 2] 1:=Told.of Go.Proofs.Tryz.func128 (by decide +kernel)
theorem Wy : ak Go.Proofs.Tryz.prog 128 = true:=by decide +kernel
theorem aeS : Told Go.Proofs.Tryz.prog 129 CP [.t 2] 1:=Told.of Go.Proofs.Tryz.func129 (by decide +kernel)
theorem Wz : ak Go.Proofs.Tryz.prog 129 = true:=by decide +kernel
theorem aeU : Told Go.Proofs.Tryz.prog 130 CW [.c 2 13 true 181] 1:=Told.of Go.Proofs.Tryz.func130 (by decide +kernel)
theorem WB : ak Go.Proofs.Tryz.prog 130 = true:=by decide +kernel
theorem aeV : Told Go.Proofs.Tryz.prog 131 C8 [.c 2 8 true 185] 1:=Told.of Go.Proofs.Tryz.func131 (by decide +kernel)
theorem WC : ak Go.Proofs.Tryz.prog 131 = true:=by decide +kernel
theorem aeW : Told Go.Proofs.Tryz.prog 132 C4 [.c 2 18 true 118] 1:=Told.of Go.Proofs.Tryz.func132 (by decide +kernel)
theorem WD : ak Go.Proofs.Tryz.prog 132 = true:=by decide +kernel
theorem aeX : Told Go.Proofs.Tryz.prog 139 Cr [.t 2] 1:=Told.of Go.Proofs.Tryz.func139 (by decide +kernel)
theorem WE : ak Go.Proofs.Tryz.prog 139 = true:=by decide +kernel
theorem aeY : Told Go.Proofs.Tryz.prog 140 Cm [.t 2] 1:=Told.of Go.Proofs.Tryz.func140 (by decide +kernel)
theorem WG : ak Go.Proofs.Tryz.prog 140 = true:=by decide +kernel
theorem aeZ : Told Go.Proofs.Tryz.prog 141 lq [.t 2] 1:=Told.of Go.Proofs.Tryz.func141 (by decide +kernel)
theorem WH : ak Go.Proofs.Tryz.prog 141 = true:=by decide +kernel
theorem ae0 : Told Go.Proofs.Tryz.prog 144 uc [.t 4] 2:=Told.of Go.Proofs.Tryz.func144 (by decide +kernel)
theorem WI : ak Go.Proofs.Tryz.prog 144 = true:=by decide +kernel
theorem ae1 : Told Go.Proofs.Tryz.prog 145 CJ [.t 4] 2:=Told.of Go.Proofs.Tryz.func145 (by decide +kernel)
theorem WJ : ak Go.Proofs.Tryz.prog 145 = true:=by decide +kernel
theorem ae2 : Told Go.Proofs.Tryz.prog 146 CF [.t 4] 2:=Told.of Go.Proofs.Tryz.func146 (by decide +kernel)
theorem WK : ak Go.Proofs.Tryz.prog 146 = true:=by decide +kernel
theorem ae3 : Told Go.Proofs.Tryz.prog 147 pP [.t 4] 2:=Told.of Go.Proofs.Tryz.func147 (by decide +kernel)
theorem WL : ak Go.Proofs.Tryz.prog 147 = true:=by decide +kernel
theorem ae4 : Told Go.Proofs.Tryz.prog 148 rG [.t 4] 2:=Told.of Go.Proofs.Tryz.func148 (by decide +kernel)
theorem WM : ak Go.Proofs.Tryz.prog 148 = true:=by decide +kernel
theorem ae5 : Told Go.Proofs.Tryz.prog 149 lC [.t 4] 2:=Told.of Go.Proofs.Tryz.func149 (by decide +kernel)
theorem WN : ak Go.Proofs.Tryz.prog 149 = true:=by decide +kernel
theorem ae7 : Told Go.Proofs.Tryz.prog 159 mS [.t 2] 1:=Told.of Go.Proofs.Tryz.func159 (by decide +kernel)
theorem WQ : ak Go.Proofs.Tryz.prog 159 = true:=by decide +kernel
theorem ae8 : Told Go.Proofs.Tryz.prog 160 u0 [.t 2] 1:=Told.of Go.Proofs.Tryz.func160 (by decide +kernel)
theorem WR : ak Go.Proofs.Tryz.prog 160 = true:=by decide +kernel
theorem ae9 : Told Go.Proofs.Tryz.prog 161 kN [.t 2] 1:=Told.of Go.Proofs.Tryz.func161 (by decide +kernel)
theorem WS : ak Go.Proofs.Tryz.prog 161 = true:=by decide +kernel
theorem afa : Told Go.Proofs.Tryz.prog 162 mN [.t 4] 2:=Told.of Go.Proofs.Tryz.func162 (by decide +kernel)
theorem WT : ak Go.Proofs.Tryz.prog 162 = true:=by decide +kernel
theorem afb : Told Go.Proofs.Tryz.prog 165 DU [.t 2] 1:=Told.of Go.Proofs.Tryz.func165 (by decide +kernel)
theorem WU : ak Go.Proofs.Tryz.prog 165 = true:=by decide +kernel
theorem afc : Told Go.Proofs.Tryz.prog 166 D9 [.c 0 6 true 42] 0:=Told.of Go.Proofs.Tryz.func166 (by decide +kernel)
theorem WV : ak Go.Proofs.Tryz.prog 166 = true:=by decide +kernel
theorem afd : Told Go.Proofs.Tryz.prog 167 zJ [.t 2,.t 3] 1:=Told.of Go.Proofs.Tryz.func167 (by decide +kernel)
theorem WW : ak Go.Proofs.Tryz.prog 167 = true:=by decide +kernel
theorem afe : Told Go.Proofs.Tryz.prog 168 n9 [.t 2,.t 3,.t 4] 1:=Told.of Go.Proofs.Tryz.func168 (by decide +kernel)
theorem WX : ak Go.Proofs.Tryz.prog 168 = true:=by decide +kernel
theorem aff : Told Go.Proofs.Tryz.prog 169 DR [.t 4] 2:=Told.of Go.Proofs.Tryz.func169 (by decide +kernel)
theorem WY : ak Go.Proofs.Tryz.prog 169 = true:=by decide +kernel
theorem afg : Told Go.Proofs.Tryz.prog 170 qg [.c 2 7 true 116,.t 3] 1:=Told.of Go.Proofs.Tryz.func170 (by decide +kernel)
theorem WZ : ak Go.Proofs.Tryz.prog 170 = true:=by decide +kernel
theorem afh : Told Go.Proofs.Tryz.prog 171 Ep [.t 4] 2:=Told.of Go.Proofs.Tryz.func171 (by decide +kernel)
theorem W3 : ak Go.Proofs.Tryz.prog 171 = true:=by decide +kernel
theorem afi : Told Go.Proofs.Tryz.prog 172 DY [.t 4] 2:=Told.of Go.Proofs.Tryz.func172 (by decide +kernel)
theorem W4 : ak Go.Proofs.Tryz.prog 172 = true:=by decide +kernel
theorem afj : Told Go.Proofs.Tryz.prog 173 El [.t 4] 2:=Told.of Go.Proofs.Tryz.func173 (by decide +kernel)
theorem W5 : ak Go.Proofs.Tryz.prog 173 = true:=by decide +kernel
theorem afk : Told Go.Proofs.Tryz.prog 174 Ef [.c 2 2 true 38] 1:=Told.of Go.Proofs.Tryz.func174 (by decide +kernel)
theorem W6 : ak Go.Proofs.Tryz.prog 174 = true:=by decide +kernel
theorem afl : Told Go.Proofs.Tryz.prog 175 vb [.t 4] 2:=Told.of Go.Proofs.Tryz.func175 (by decide +kernel)
theorem W7 : ak Go.Proofs.Tryz.prog 175 = true:=by decide +kernel
theorem afm : Told Go.Proofs.Tryz.prog 176 Ek [.t 2] 1:=Told.of Go.Proofs.Tryz.func176 (by decide +kernel)
theorem W8 : ak Go.Proofs.Tryz.prog 176 = true:=by decide +kernel
theorem afn : Told Go.Proofs.Tryz.prog 177 Ei [.c 6 2 true 38] 3:=Told.of Go.Proofs.Tryz.func177 (by decide +kernel)
theorem W9 : ak Go.Proofs.Tryz.prog 177 = true:=by decide +kernel
theorem afo : Told Go.Proofs.Tryz.prog 178 zq [.t 2] 1:=Told.of Go.Proofs.Tryz.func178 (by decide +kernel)
theorem Xa : ak Go.Proofs.Tryz.prog 178 = true:=by decide +kernel
theorem afp : Told Go.Proofs.Tryz.prog 179 xD [] 1:=Told.of Go.Proofs.Tryz.func179 (by decide +kernel)
theorem Xb : ak Go.Proofs.Tryz.prog 179 = true:=by decide +kernel
theorem afq : Told Go.Proofs.Tryz.prog 180 B6 [.t 2] 1:=Told.of Go.Proofs.Tryz.func180 (by decide +kernel)
theorem Xc : ak Go.Proofs.Tryz.prog 180 = true:=by decide +kernel
theorem afr : Told Go.Proofs.Tryz.prog 181 Ak [.t 4] 2:=Told.of Go.Proofs.Tryz.func181 (by decide +kernel)
theorem Xd : ak Go.Proofs.Tryz.prog 181 = true:=by decide +kernel
theorem afs : Told Go.Proofs.Tryz.prog 182 Cu [.t 3] 2:=Told.of Go.Proofs.Tryz.func182 (by decide +kernel)
theorem Xe : ak Go.Proofs.Tryz.prog 182 = true:=by decide +kernel
theorem aft : Told Go.Proofs.Tryz.prog 183 tQ [.t 4] 2:=Told.of Go.Proofs.Tryz.func183 (by decide +kernel)
theorem Xf : ak Go.Proofs.Tryz.prog 183 = true:=by decide +kernel
theorem afu : Told Go.Proofs.Tryz.prog 184 xI [.t 2] 1:=Told.of Go.Proofs.Tryz.func184 (by decide +kernel)
theorem Xg : ak Go.Proofs.Tryz.prog 184 = true:=by decide +kernel
theorem afv : Told Go.Proofs.Tryz.prog 185 BV [.t 2] 1:=Told.of Go.Proofs.Tryz.func185 (by decide +kernel)
theorem Xh : ak Go.Proofs.Tryz.prog 185 = true:=by decide +kernel
theorem afw : Told Go.Proofs.Tryz.prog 186 Cj [.c 2 2 true 38] 1:=Told.of Go.Proofs.Tryz.func186 (by decide +kernel)
theorem Xi : ak Go.Proofs.Tryz.prog 186 = true:=by decide +kernel
theorem afx : Told Go.Proofs.Tryz.prog 187 BW [] 1:=Told.of Go.Proofs.Tryz.func187 (by decide +kernel)
theorem Xj : ak Go.Proofs.Tryz.prog 187 = true:=by decide +kernel
theorem afz : Told Go.Proofs.Tryz.prog 189 B3 [.t 3] 2:=Told.of Go.Proofs.Tryz.func189 (by decide +kernel)
theorem Xk : ak Go.Proofs.Tryz.prog 189 = true:=by decide +kernel
theorem afA : Told Go.Proofs.Tryz.prog 190 xL [.t 4] 2:=Told.of Go.Proofs.Tryz.func190 (by decide +kernel)
theorem Xl : ak Go.Proofs.Tryz.prog 190 = true:=by decide +kernel
theorem afB : Told Go.Proofs.Tryz.prog 192 Er [.t 4] 2:=Told.of Go.Proofs.Tryz.func192 (by decide +kernel)
theorem Xm : ak Go.Proofs.Tryz.prog 192 = true:=by decide +kernel
theorem afC : Told Go.Proofs.Tryz.prog 194 B1 [.t 4] 2:=Told.of Go.Proofs.Tryz.func194 (by decide +kernel)
theorem Xn : ak Go.Proofs.Tryz.prog 194 = true:=by decide +kernel
theorem afD : Told Go.Proofs.Tryz.prog 198 uj [.t 4] 2:=Told.of Go.Proofs.Tryz.func198 (by decide +kernel)
theorem Xo : ak Go.Proofs.Tryz.prog 198 = true:=by decide +kernel
theorem afF : Told Go.Proofs.Tryz.prog 203 CT [.t 2] 1:=Told.of Go.Proofs.Tryz.func203 (by decide +kernel)
theorem Xq : ak Go.Proofs.Tryz.prog 203 = true:=by decide +kernel
theorem afG : Told Go.Proofs.Tryz.prog 208 CG [.t 4] 2:=Told.of Go.Proofs.Tryz.func208 (by decide +kernel)
theorem Xr : ak Go.Proofs.Tryz.prog 208 = true:=by decide +kernel
theorem afI : Told Go.Proofs.Tryz.prog 211 qc [.t 2,.t 3] 1:=Told.of Go.Proofs.Tryz.func211 (by decide +kernel)
theorem Xt : ak Go.Proofs.Tryz.prog 211 = true:=by decide +kernel
theorem afJ : Told Go.Proofs.Tryz.prog 213 uY [.t 2] 1:=Told.of Go.Proofs.Tryz.func213 (by decide +kernel)
theorem Xu : ak Go.Proofs.Tryz.prog 213 = true:=by decide +kernel
theorem afK : Told Go.Proofs.Tryz.prog 214 zg [.t 4,.t 5] 2:=Told.of Go.Proofs.Tryz.func214 (by decide +kernel)
theorem Xv : ak Go.Proofs.Tryz.prog 214 = true:=by decide +kernel
theorem afL : Told Go.Proofs.Tryz.prog 219 ux [.t 4] 2:=Told.of Go.Proofs.Tryz.func219 (by decide +kernel)
theorem Xw : ak Go.Proofs.Tryz.prog 219 = true:=by decide +kernel
theorem afM : Told Go.Proofs.Tryz.prog 220 uy [.t 4] 2:=Told.of Go.Proofs.Tryz.func220 (by decide +kernel)
theorem Xx : ak Go.Proofs.Tryz.prog 220 = true:=by decide +kernel
theorem afN : Told Go.Proofs.Tryz.prog 221 yc [.t 4] 2:=Told.of Go.Proofs.Tryz.func221 (by decide +kernel)
theorem Xy : ak Go.Proofs.Tryz.prog 221 = true:=by decide +kernel
theorem afO : Told Go.Proofs.Tryz.prog 222 ya [.t 4] 2:=Told.of Go.Proofs.Tryz.func222 (by decide +kernel)
theorem Xz : ak Go.Proofs.Tryz.prog 222 = true:=by decide +kernel
theorem afP : Told Go.Proofs.Tryz.prog 223 pS [.t 4] 2:=Told.of Go.Proofs.Tryz.func223 (by decide +kernel)
theorem XA : ak Go.Proofs.Tryz.prog 223 = true:=by decide +kernel
theorem afQ : Told Go.Proofs.Tryz.prog 226 Da [.t 2] 1:=Told.of Go.Proofs.Tryz.func226 (by decide +kernel)
theorem XB : ak Go.Proofs.Tryz.prog 226 = true:=by decide +kernel
theorem afR : Told Go.Proofs.Tryz.prog 227 Db [.t 2] 1:=Told.of Go.Proofs.Tryz.func227 (by decide +kernel)
theorem XC : ak Go.Proofs.Tryz.prog 227 = true:=by decide +kernel
theorem afS : Told Go.Proofs.Tryz.prog 228 CZ [.c 2 9 true 126] 1:=Told.of Go.Proofs.Tryz.func228 (by decide +kernel)
theorem XD : ak Go.Proofs.Tryz.prog 228 = true:=by decide +kernel
theorem afT : Told Go.Proofs.Tryz.prog 229 CX [.t 2] 1:=Told.of Go.Proofs.Tryz.func229 (by decide +kernel)
theorem XE : ak Go.Proofs.Tryz.prog 229 = true:=by decide +kernel
theorem afU : Told Go.Proofs.Tryz.prog 230 C0 [.c 2 7 true 116] 1:=Told.of Go.Proofs.Tryz.func230 (by decide +kernel)
theorem XF : ak Go.Proofs.Tryz.prog 230 = true:=by decide +kernel
theorem afV : Told Go.Proofs.Tryz.prog 234 tK [.t 2] 1:=Told.of Go.Proofs.Tryz.func234 (by decide +kernel)
theorem XG : ak Go.Proofs.Tryz.prog 234 = true:=by decide +kernel
theorem afW : Told Go.Proofs.Tryz.prog 235 kD [.t 2] 1:=Told.of Go.Proofs.Tryz.func235 (by decide +kernel)
theorem XH : ak Go.Proofs.Tryz.prog 235 = true:=by decide +kernel
theorem afX : Told Go.Proofs.Tryz.prog 236 q9 [.t 4] 2:=Told.of Go.Proofs.Tryz.func236 (by decide +kernel)
theorem XI : ak Go.Proofs.Tryz.prog 236 = true:=by decide +kernel
theorem afY : Told Go.Proofs.Tryz.prog 237 nF [.t 2] 1:=Told.of Go.Proofs.Tryz.func237 (by decide +kernel)
theorem XJ : ak Go.Proofs.Tryz.prog 237 = true:=by decide +kernel
theorem afZ : Told Go.Proofs.Tryz.prog 238 Cq [.t 2] 1:=Told.of Go.Proofs.Tryz.func238 (by decide +kernel)
theorem XK : ak Go.Proofs.Tryz.prog 238 = true:=by decide +kernel
theorem af0 : Told Go.Proofs.Tryz.prog 239 B8 [.t 2] 1:=Told.of Go.Proofs.Tryz.func239 (by decide +kernel)
theorem XL : ak Go.Proofs.Tryz.prog 239 = true:=by decide +kernel
theorem af1 : Told Go.Proofs.Tryz.prog 242 CM [.t 4] 2:=Told.of Go.Proofs.Tryz.func242 (by decide +kernel)
theorem XM : ak Go.Proofs.Tryz.prog 242 = true:=by decide +kernel
theorem af2 : Told Go.Proofs.Tryz.prog 243 CN [.t 4] 2:=Told.of Go.Proofs.Tryz.func243 (by decide +kernel)
theorem XO : ak Go.Proofs.Tryz.prog 243 = true:=by decide +kernel
theorem af3 : Told Go.Proofs.Tryz.prog 244 rE [.t 4] 2:=Told.of Go.Proofs.Tryz.func244 (by decide +kernel)
theorem XP : ak Go.Proofs.Tryz.prog 244 = true:=by decide +kernel
theorem af4 : Told Go.Proofs.Tryz.prog 245 nQ [.t 4] 2:=Told.of Go.Proofs.Tryz.func245 (by decide +kernel)
theorem XQ : ak Go.Proofs.Tryz.prog 245 = true:=by decide +kernel
theorem af5 : Told Go.Proofs.Tryz.prog 248 n5 [.t 2] 1:=Told.of Go.Proofs.Tryz.func248 (by decide +kernel)
theorem XR : ak Go.Proofs.Tryz.prog 248 = true:=by decide +kernel
theorem af6 : Told Go.Proofs.Tryz.prog 249 su [.t 2] 1:=Told.of Go.Proofs.Tryz.func249 (by decide +kernel)
theorem XS : ak Go.Proofs.Tryz.prog 249 = true:=by decide +kernel
theorem af7 : Told Go.Proofs.Tryz.prog 250 DV [.t 2] 1:=Told.of Go.Proofs.Tryz.func250 (by decide +kernel)
theorem XT : ak Go.Proofs.Tryz.prog 250 = true:=by decide +kernel
theorem af8 : Told Go.Proofs.Tryz.prog 251 r9 [.t 2] 1:=Told.of Go.Proofs.Tryz.func251 (by decide +kernel)
theorem XU : ak Go.Proofs.Tryz.prog 251 = true:=by decide +kernel
theorem af9 : Told Go.Proofs.Tryz.prog 252 Ew [.t 2] 1:=Told.of Go.Proofs.Tryz.func252 (by decide +kernel)
theorem XV : ak Go.Proofs.Tryz.prog 252 = true:=by decide +kernel
theorem aga : Told Go.Proofs.Tryz.prog 253 vn [.t 4] 2:=Told.of Go.Proofs.Tryz.func253 (by decide +kernel)
theorem XW : ak Go.Proofs.Tryz.prog 253 = true:=by decide +kernel
theorem agb : Told Go.Proofs.Tryz.prog 254 Ee [.t 2] 1:=Told.of Go.Proofs.Tryz.func254 (by decide +kernel)
theorem XX : ak Go.Proofs.Tryz.prog 254 = true:=by decide +kernel
theorem agc : Told Go.Proofs.Tryz.prog 255 si [.t 2] 1:=Told.of Go.Proofs.Tryz.func255 (by decide +kernel)
theorem XY : ak Go.Proofs.Tryz.prog 255 = true:=by decide +kernel
theorem agd : Told Go.Proofs.Tryz.prog 256 vf [.t 4] 2:=Told.of Go.Proofs.Tryz.func256 (by decide +kernel)
theorem XZ : ak Go.Proofs.Tryz.prog 256 = true:=by decide +kernel
theorem agf : Told Go.Proofs.Tryz.prog 257 DO [.c 2 6 true 282] 1:=Told.of Go.Proofs.Tryz.func257 (by decide +kernel)
theorem X0 : ak Go.Proofs.Tryz.prog 257 = true:=by decide +kernel
theorem agh : Told Go.Proofs.Tryz.prog 269 DS [.c 0 2 true 38] 0:=Told.of Go.Proofs.Tryz.func269 (by decide +kernel)
theorem X1 : ak Go.Proofs.Tryz.prog 269 = true:=by decide +kernel
theorem agi : Told Go.Proofs.Tryz.prog 270 n6 [.c 2 4 true 75,.t 3] 1:=Told.of Go.Proofs.Tryz.func270 (by decide +kernel)
theorem X2 : ak Go.Proofs.Tryz.prog 270 = true:=by decide +kernel
theorem agj : Told Go.Proofs.Tryz.prog 271 zG [.t 4,.t 5] 2:=Told.of Go.Proofs.Tryz.func271 (by decide +kernel)
theorem X3 : ak Go.Proofs.Tryz.prog 271 = true:=by decide +kernel
theorem agk : Told Go.Proofs.Tryz.prog 272 Eu [.t 2] 1:=Told.of Go.Proofs.Tryz.func272 (by decide +kernel)
theorem X4 : ak Go.Proofs.Tryz.prog 272 = true:=by decide +kernel
theorem agl : Told Go.Proofs.Tryz.prog 273 uZ [.t 4] 2:=Told.of Go.Proofs.Tryz.func273 (by decide +kernel)
theorem X5 : ak Go.Proofs.Tryz.prog 273 = true:=by decide +kernel
theorem agm : Told Go.Proofs.Tryz.prog 274 mQ [.c 2 3 true 74,.t 3] 1:=Told.of Go.Proofs.Tryz.func274 (by decide +kernel)
theorem X6 : ak Go.Proofs.Tryz.prog 274 = true:=by decide +kernel
theorem agn : Told Go.Proofs.Tryz.prog 275 lS [.t 4] 2:=Told.of Go.Proofs.Tryz.func275 (by decide +kernel)
theorem X7 : ak Go.Proofs.Tryz.prog 275 = true:=by decide +kernel
theorem ago : Told Go.Proofs.Tryz.prog 276 zu [.t 2] 1:=Told.of Go.Proofs.Tryz.func276 (by decide +kernel)
theorem X8 : ak Go.Proofs.Tryz.prog 276 = true:=by decide +kernel
theorem agp : Told Go.Proofs.Tryz.prog 277 lp [.t 2,.t 3,.t 4] 1:=Told.of Go.Proofs.Tryz.func277 (by decide +kernel)
theorem X9 : ak Go.Proofs.Tryz.prog 277 = true:=by decide +kernel
theorem agq : Told Go.Proofs.Tryz.prog 278 BX [.t 4] 2:=Told.of Go.Proofs.Tryz.func278 (by decide +kernel)
theorem Ya : ak Go.Proofs.Tryz.prog 278 = true:=by decide +kernel
theorem agr : Told Go.Proofs.Tryz.prog 279 ri [.c 2 4 true 75,.t 3] 1:=Told.of Go.Proofs.Tryz.func279 (by decide +kernel)
theorem Yb : ak Go.Proofs.Tryz.prog 279 = true:=by decide +kernel
theorem ags : Told Go.Proofs.Tryz.prog 280 tN [] 2:=Told.of Go.Proofs.Tryz.func280 (by decide +kernel)
theorem Yc : ak Go.Proofs.Tryz.prog 280 = true:=by decide +kernel
theorem agt : Told Go.Proofs.Tryz.prog 281 mz [.c 2 7 true 116,.t 3] 1:=Told.of Go.Proofs.Tryz.func281 (by decide +kernel)
theorem Yd : ak Go.Proofs.Tryz.prog 281 = true:=by decide +kernel
theorem agu : Told Go.Proofs.Tryz.prog 282 E1 [] 2:=Told.of Go.Proofs.Tryz.func282 (by decide +kernel)
theorem Ye : ak Go.Proofs.Tryz.prog 282 = true:=by decide +kernel
theorem agv : Told Go.Proofs.Tryz.prog 283 B5 [.t 4] 2:=Told.of Go.Proofs.Tryz.func283 (by decide +kernel)
theorem Yf : ak Go.Proofs.Tryz.prog 283 = true:=by decide +kernel
theorem agw : Told Go.Proofs.Tryz.prog 284 EW [.t 4] 2:=Told.of Go.Proofs.Tryz.func284 (by decide +kernel)
theorem Yg : ak Go.Proofs.Tryz.prog 284 = true:=by decide +kernel
theorem agx : Told Go.Proofs.Tryz.prog 285 Ar [.t 4] 2:=Told.of Go.Proofs.Tryz.func285 (by decide +kernel)
theorem Yh : ak Go.Proofs.Tryz.prog 285 = true:=by decide +kernel
theorem agy : Told Go.Proofs.Tryz.prog 286 E0 [.t 4] 2:=Told.of Go.Proofs.Tryz.func286 (by decide +kernel)
theorem Yi : ak Go.Proofs.Tryz.prog 286 = true:=by decide +kernel
theorem agz : Told Go.Proofs.Tryz.prog 287 Cp [.t 2] 1:=Told.of Go.Proofs.Tryz.func287 (by decide +kernel)
theorem Yj : ak Go.Proofs.Tryz.prog 287 = true:=by decide +kernel
theorem agB : Told Go.Proofs.Tryz.prog 289 Cy [.t 4] 2:=Told.of Go.Proofs.Tryz.func289 (by decide +kernel)
theorem Yk : ak Go.Proofs.Tryz.prog 289 = true:=by decide +kernel
theorem agC : Told Go.Proofs.Tryz.prog 295 BR [.c 2 6 true 282] 1:=Told.of Go.Proofs.Tryz.func295 (by decide +kernel)
theorem Yl : ak Go.Proofs.Tryz.prog 295 = true:=by decide +kernel
theorem agD : Told Go.Proofs.Tryz.prog 300 nJ [.t 4] 2:=Told.of Go.Proofs.Tryz.func300 (by decide +kernel)
theorem Ym : ak Go.Proofs.Tryz.prog 300 = true:=by decide +kernel
theorem agE : Told Go.Proofs.Tryz.prog 306 uk [.t 4] 2:=Told.of Go.Proofs.Tryz.func306 (by decide +kernel)
theorem Yn : ak Go.Proofs.Tryz.prog 306 = true:=by decide +kernel
theorem agF : Told Go.Proofs.Tryz.prog 315 y9 [.t 2] 1:=Told.of Go.Proofs.Tryz.func315 (by decide +kernel)
theorem Yo : ak Go.Proofs.Tryz.prog 315 = true:=by decide +kernel
theorem agG : Told Go.Proofs.Tryz.prog 316 CU [.c 2 2 true 248] 1:=Told.of Go.Proofs.Tryz.func316 (by decide +kernel)
theorem Yp : ak Go.Proofs.Tryz.prog 316 = true:=by decide +kernel
theorem agH : Told Go.Proofs.Tryz.prog 322 ru [.t 2] 1:=Told.of Go.Proofs.Tryz.func322 (by decide +kernel)
theorem Yq : ak Go.Proofs.Tryz.prog 322 = true:=by decide +kernel
theorem agI : Told Go.Proofs.Tryz.prog 327 ud [.t 4] 2:=Told.of Go.Proofs.Tryz.func327 (by decide +kernel)
theorem Yr : ak Go.Proofs.Tryz.prog 327 = true:=by decide +kernel
theorem agJ : Told Go.Proofs.Tryz.prog 328 zO [.t 4] 2:=Told.of Go.Proofs.Tryz.func328 (by decide +kernel)
theorem Ys : ak Go.Proofs.Tryz.prog 328 = true:=by decide +kernel
theorem agK : Told Go.Proofs.Tryz.prog 334 xp [.t 2] 1:=Told.of Go.Proofs.Tryz.func334 (by decide +kernel)
theorem Yt : ak Go.Proofs.Tryz.prog 334 = true:=by decide +kernel
theorem agL : Told Go.Proofs.Tryz.prog 335 yg [.t 4] 2:=Told.of Go.Proofs.Tryz.func335 (by decide +kernel)
theorem Yu : ak Go.Proofs.Tryz.prog 335 = true:=by decide +kernel
theorem agM : Told Go.Proofs.Tryz.prog 336 Dc [.c 2 2 true 234] 1:=Told.of Go.Proofs.Tryz.func336 (by decide +kernel)
theorem Yv : ak Go.Proofs.Tryz.prog 336 = true:=by decide +kernel
theorem agN : Told Go.Proofs.Tryz.prog 337 tT [.t 2] 1:=Told.of Go.Proofs.Tryz.func337 (by decide +kernel)
theorem Yw : ak Go.Proofs.Tryz.prog 337 = true:=by decide +kernel
theorem agO : Told Go.Proofs.Tryz.prog 338 BZ [.t 2] 1:=Told.of Go.Proofs.Tryz.func338 (by decide +kernel)
theorem Yx : ak Go.Proofs.Tryz.prog 338 = true:=by decide +kernel
theorem agP : Told Go.Proofs.Tryz.prog 339 rA [.t 2] 1:=Told.of Go.Proofs.Tryz.func339 (by decide +kernel)
theorem Yy : ak Go.Proofs.Tryz.prog 339 = true:=by decide +kernel
theorem agQ : Told Go.Proofs.Tryz.prog 340 Cx [.t 2] 1:=Told.of Go.Proofs.Tryz.func340 (by decide +kernel)
theorem Yz : ak Go.Proofs.Tryz.prog 340 = true:=by decide +kernel
theorem agR : Told Go.Proofs.Tryz.prog 341 Cg [.t 2] 1:=Told.of Go.Proofs.Tryz.func341 (by decide +kernel)
theorem YA : ak Go.Proofs.Tryz.prog 341 = true:=by decide +kernel
theorem agS : Told Go.Proofs.Tryz.prog 342 Co [.t 2] 1:=Told.of Go.Proofs.Tryz.func342 (by decide +kernel)
theorem YB : ak Go.Proofs.Tryz.prog 342 = true:=by decide +kernel
theorem agT : Told Go.Proofs.Tryz.prog 343 EZ [.t 4] 2:=Told.of Go.Proofs.Tryz.func343 (by decide +kernel)
theorem YC : ak Go.Proofs.Tryz.prog 343 = true:=by decide +kernel
theorem agU : Told Go.Proofs.Tryz.prog 344 Ce [.t 2] 1:=Told.of Go.Proofs.Tryz.func344 (by decide +kernel)
theorem YD : ak Go.Proofs.Tryz.prog 344 = true:=by decide +kernel
theorem agV : Told Go.Proofs.Tryz.prog 345 B7 [.t 3] 2:=Told.of Go.Proofs.Tryz.func345 (by decide +kernel)
theorem YE : ak Go.Proofs.Tryz.prog 345 = true:=by decide +kernel
theorem agW : Told Go.Proofs.Tryz.prog 346 ue [.t 4] 2:=Told.of Go.Proofs.Tryz.func346 (by decide +kernel)
theorem YF : ak Go.Proofs.Tryz.prog 346 = true:=by decide +kernel
theorem agX : Told Go.Proofs.Tryz.prog 347 Ec [.t 2] 1:=Told.of Go.Proofs.Tryz.func347 (by decide +kernel)
theorem YG : ak Go.Proofs.Tryz.prog 347 = true:=by decide +kernel
theorem agY : Told Go.Proofs.Tryz.prog 348 Ea [.t 2] 1:=Told.of Go.Proofs.Tryz.func348 (by decide +kernel)
theorem YH : ak Go.Proofs.Tryz.prog 348 = true:=by decide +kernel
theorem agZ : Told Go.Proofs.Tryz.prog 349 DZ [.t 2] 1:=Told.of Go.Proofs.Tryz.func349 (by decide +kernel)
theorem YI : ak Go.Proofs.Tryz.prog 349 = true:=by decide +kernel
theorem ag0 : Told Go.Proofs.Tryz.prog 350 Ed [.t 2] 1:=Told.of Go.Proofs.Tryz.func350 (by decide +kernel)
theorem YJ : ak Go.Proofs.Tryz.prog 350 = true:=by decide +kernel
theorem ag1 : Told Go.Proofs.Tryz.prog 351 DP [.c 2 6 true 282] 1:=Told.of Go.Proofs.Tryz.func351 (by decide +kernel)
theorem YK : ak Go.Proofs.Tryz.prog 351 = true:=by decide +kernel
theorem ag2 : Told Go.Proofs.Tryz.prog 357 EX [.t 2] 1:=Told.of Go.Proofs.Tryz.func357 (by decide +kernel)
theorem YL : ak Go.Proofs.Tryz.prog 357 = true:=by decide +kernel
theorem ag3 : Told Go.Proofs.Tryz.prog 358 zI [.t 2] 1:=Told.of Go.Proofs.Tryz.func358 (by decide +kernel)
theorem YM : ak Go.Proofs.Tryz.prog 358 = true:=by decide +kernel
theorem ag4 : Told Go.Proofs.Tryz.prog 359 Eb [.t 2] 1:=Told.of Go.Proofs.Tryz.func359 (by decide +kernel)
theorem YN : ak Go.Proofs.Tryz.prog 359 = true:=by decide +kernel
theorem ag6 : Told Go.Proofs.Tryz.prog 360 zQ [.t 2,.t 3] 1:=Told.of Go.Proofs.Tryz.func360 (by decide +kernel)
theorem YP : ak Go.Proofs.Tryz.prog 360 = true:=by decide +kernel
theorem ag7 : Told Go.Proofs.Tryz.prog 361 Et [.t 2] 1:=Told.of Go.Proofs.Tryz.func361 (by decide +kernel)
theorem YQ : ak Go.Proofs.Tryz.prog 361 = true:=by decide +kernel
theorem ag8 : Told Go.Proofs.Tryz.prog 362 DW [.t 2] 1:=Told.of Go.Proofs.Tryz.func362 (by decide +kernel)
theorem YR : ak Go.Proofs.Tryz.prog 362 = true:=by decide +kernel
theorem ag9 : Told Go.Proofs.Tryz.prog 364 tJ [.t 4] 2:=Told.of Go.Proofs.Tryz.func364 (by decide +kernel)
theorem YS : ak Go.Proofs.Tryz.prog 364 = true:=by decide +kernel
theorem aha : Told Go.Proofs.Tryz.prog 365 Ci [.t 2] 1:=Told.of Go.Proofs.Tryz.func365 (by decide +kernel)
theorem YT : ak Go.Proofs.Tryz.prog 365 = true:=by decide +kernel
theorem ahb : Told Go.Proofs.Tryz.prog 366 xe [.t 2] 1:=Told.of Go.Proofs.Tryz.func366 (by decide +kernel)
theorem YU : ak Go.Proofs.Tryz.prog 366 = true:=by decide +kernel
theorem ahc : Told Go.Proofs.Tryz.prog 367 mA [.c 2 3 true 74,.t 3] 1:=Told.of Go.Proofs.Tryz.func367 (by decide +kernel)
theorem YV : ak Go.Proofs.Tryz.prog 367 = true:=by decide +kernel
theorem ahd : Told Go.Proofs.Tryz.prog 368 xx [.t 2] 1:=Told.of Go.Proofs.Tryz.func368 (by decide +kernel)
theorem YW : ak Go.Proofs.Tryz.prog 368 = true:=by decide +kernel
theorem ahe : Told Go.Proofs.Tryz.prog 369 E4 [] 3:=Told.of Go.Proofs.Tryz.func369 (by decide +kernel)
theorem YX : ak Go.Proofs.Tryz.prog 369 = true:=by decide +kernel
theorem ahf : Told Go.Proofs.Tryz.prog 377 xl [.t 4,.t 5] 2:=Told.of Go.Proofs.Tryz.func377 (by decide +kernel)
theorem YY : ak Go.Proofs.Tryz.prog 377 = true:=by decide +kernel
theorem ahg : Told Go.Proofs.Tryz.prog 378 BS [.c 2 6 true 282] 1:=Told.of Go.Proofs.Tryz.func378 (by decide +kernel)
theorem YZ : ak Go.Proofs.Tryz.prog 378 = true:=by decide +kernel
theorem ahh : Told Go.Proofs.Tryz.prog 409 Ch [.t 4] 2:=Told.of Go.Proofs.Tryz.func409 (by decide +kernel)
theorem Y0 : ak Go.Proofs.Tryz.prog 409 = true:=by decide +kernel
theorem ahi : Told Go.Proofs.Tryz.prog 410 Cl [.t 4] 2:=Told.of Go.Proofs.Tryz.func410 (by decide +kernel)
theorem Y1 : ak Go.Proofs.Tryz.prog 410 = true:=by decide +kernel
theorem ahj : Told Go.Proofs.Tryz.prog 411 Cf [.t 2] 1:=Told.of Go.Proofs.Tryz.func411 (by decide +kernel)
theorem Y2 : ak Go.Proofs.Tryz.prog 411 = true:=by decide +kernel
theorem ahk : Told Go.Proofs.Tryz.prog 412 Cb [.t 2] 1:=Told.of Go.Proofs.Tryz.func412 (by decide +kernel)
theorem Y3 : ak Go.Proofs.Tryz.prog 412 = true:=by decide +kernel
theorem ahl : Told Go.Proofs.Tryz.prog 413 B2 [.t 2] 1:=Told.of Go.Proofs.Tryz.func413 (by decide +kernel)
theorem Y4 : ak Go.Proofs.Tryz.prog 413 = true:=by decide +kernel
theorem ahm : Told Go.Proofs.Tryz.prog 414 vl [.t 2,.t 3] 1:=Told.of Go.Proofs.Tryz.func414 (by decide +kernel)
theorem Y5 : ak Go.Proofs.Tryz.prog 414 = true:=by decide +kernel
theorem ahn : Told Go.Proofs.Tryz.prog 417 Cd [.t 2] 1:=Told.of Go.Proofs.Tryz.func417 (by decide +kernel)
theorem Y6 : ak Go.Proofs.Tryz.prog 417 = true:=by decide +kernel
theorem aho : Told Go.Proofs.Tryz.prog 418 pI [.t 2,.t 3,.t 4,.t 5] 1:=Told.of Go.Proofs.Tryz.func418 (by decide +kernel)
theorem Y7 : ak Go.Proofs.Tryz.prog 418 = true:=by decide +kernel
theorem ahp : Told Go.Proofs.Tryz.prog 419 xy [.t 2] 1:=Told.of Go.Proofs.Tryz.func419 (by decide +kernel)
theorem Y8 : ak Go.Proofs.Tryz.prog 419 = true:=by decide +kernel
theorem ahq : Told Go.Proofs.Tryz.prog 420 As [] 4:=Told.of Go.Proofs.Tryz.func420 (by decide +kernel)
theorem Y9 : ak Go.Proofs.Tryz.prog 420 = true:=by decide +kernel
theorem ahr : Told Go.Proofs.Tryz.prog 421 Qw [] 5:=Told.of Go.Proofs.Tryz.func421 (by decide +kernel)
theorem Za : ak Go.Proofs.Tryz.prog 421 = true:=by decide +kernel
theorem ahs : Told Go.Proofs.Tryz.prog 424 nH [] 2:=Told.of Go.Proofs.Tryz.func424 (by decide +kernel)
theorem Zb : ak Go.Proofs.Tryz.prog 424 = true:=by decide +kernel
theorem ahu : Told Go.Proofs.Tryz.prog 439 Ap [.t 4] 2:=Told.of Go.Proofs.Tryz.func439 (by decide +kernel)
theorem Zd : ak Go.Proofs.Tryz.prog 439 = true:=by decide +kernel
theorem ahw : Told Go.Proofs.Tryz.prog 440 Ck [.t 3] 2:=Told.of Go.Proofs.Tryz.func440 (by decide +kernel)
theorem Zg : ak Go.Proofs.Tryz.prog 440 = true:=by decide +kernel
theorem ahx : Told Go.Proofs.Tryz.prog 443 Ct [.t 2] 1:=Told.of Go.Proofs.Tryz.func443 (by decide +kernel)
theorem Zh : ak Go.Proofs.Tryz.prog 443 = true:=by decide +kernel
theorem ahy : Told Go.Proofs.Tryz.prog 444 Qm [] 5:=Told.of Go.Proofs.Tryz.func444 (by decide +kernel)
theorem Zi : ak Go.Proofs.Tryz.prog 444 = true:=by decide +kernel
theorem ahB : Told Go.Proofs.Tryz.prog 463 Qp [] 5:=Told.of Go.Proofs.Tryz.func463 (by decide +kernel)
theorem Zl : ak Go.Proofs.Tryz.prog 463 = true:=by decide +kernel
theorem agA : Told Go.Proofs.Tryz.prog 288 (vZ 2 24) [.t 2] 1:=Told.of Go.Proofs.Tryz.func288 (by decide +kernel)
theorem afy : Told Go.Proofs.Tryz.prog 188 (vZ 1 16) [.t 2] 1:=Told.of Go.Proofs.Tryz.func188 (by decide +kernel)
set_option maxHeartbeats 4000000 in
theorem aiJ : TT.Ok Go.Proofs.Tryz.prog:=by
  refine ⟨fun f F h=>?_,fun f F h=>?_⟩
  · have h : _ = _:=h
    rcases Option.or_eq_some_iff.1 h with h | ⟨_,h⟩
    · unfold E9 at h
      split at h
      · cases h; exact ahE
      · cases h; exact aeJ
      · cases h; exact aeT
      · cases h; exact ae6
      · cases h; exact afE
      · cases h; exact afH
      · cases h; exact ag5
      · cases h; exact aht
      · cases h; exact ahv
      · cases h; exact ahz
      · cases h; exact ahA
      · cases h; exact ahC
      · cases h; exact ahD
      · cases h; exact ahF
      · cases h; exact ahG
      · cases h; exact ahH
      · cases h; exact ahI
      · cases h; exact ahJ
      · cases h; exact ahK
      · cases h; exact ahL
      · cases h; exact ahM
      · cases h; exact ahN
      · cases h; exact ahO
      · cases h; exact ahP
      · cases h; exact ahQ
      · cases h; exact ahR
      · cases h; exact ahS
      · cases h; exact ahT
      · cases h; exact ahU
      · cases h; exact ahV
      · cases h; exact ahW
      · cases h; exact ahX
      · cases h; exact ahY
      · cases h; exact ahZ
      · cases h; exact ah0
      · cases h; exact ah1
      · cases h; exact ah2
      · cases h; exact ah3
      · cases h; exact aeF
      · cases h; exact aeG
      · cases h; exact aeH
      · cases h; exact aeI
      · cases h; exact aeK
      · cases h; exact aeL
      · cases h; exact aeM
      · cases h; exact aeN
      · cases h; exact aeO
      · cases h; exact aeP
      · cases h; exact aeQ
      · cases h; exact aeR
      · cases h; exact aeS
      · cases h; exact aeU
      · cases h; exact aeV
      · cases h; exact aeW
      · cases h; exact aeX
      · cases h; exact aeY
      · cases h; exact aeZ
      · cases h; exact ae0
      · cases h; exact ae1
      · cases h; exact ae2
      · cases h; exact ae3
      · cases h; exact ae4
      · cases h; exact ae5
      · cases h; exact ae7
      · cases h; exact ae8
      · cases h; exact ae9
      · cases h; exact afa
      · cases h; exact afb
      · cases h; exact afc
      · cases h; exact afd
      · cases h; exact afe
      · cases h; exact aff
      · cases h; exact afg
      · cases h; exact afh
      · cases h; exact afi
      · cases h; exact afj
      · cases h; exact afk
      · cases h; exact afl
      · cases h; exact afm
      · cases h; exact afn
      · cases h; exact afo
      · cases h; exact afp
      · cases h; exact afq
      · cases h; exact afr
      · cases h; exact afs
      · cases h; exact aft
      · cases h; exact afu
      · cases h; exact afv
      · cases h; exact afw
      · cases h; exact afx
      · cases h; exact afz
      · cases h; exact afA
      · cases h; exact afB
      · cases h; exact afC
      · cases h; exact afD
      · cases h; exact afF
      · cases h; exact afG
      · cases h; exact afI
      · cases h; exact afJ
      · cases h; exact afK
      · cases h; exact afL
      · cases h; exact afM
      · cases h; exact afN
      · cases h; exact afO
      · cases h; exact afP
      · cases h; exact afQ
      · cases h; exact afR
      · cases h; exact afS
      · cases h; exact afT
      · cases h; exact afU
      · cases h; exact afV
      · cases h; exact afW
      · cases h; exact afX
      · cases h; exact afY
      · cases h; exact afZ
      · cases h; exact af0
      · cases h; exact af1
      · cases h; exact af2
      · cases h; exact af3
      · cases h; exact af4
      · cases h
    unfold Fa at h
    split at h
    · cases h; exact af5
    · cases h; exact af6
    · cases h; exact af7
    · cases h; exact af8
    · cases h; exact af9
    · cases h; exact aga
    · cases h; exact agb
    · cases h; exact agc
    · cases h; exact agd
    · cases h; exact agf
    · cases h; exact agh
    · cases h; exact agi
    · cases h; exact agj
    · cases h; exact agk
    · cases h; exact agl
    · cases h; exact agm
    · cases h; exact agn
    · cases h; exact ago
    · cases h; exact agp
    · cases h; exact agq
    · cases h; exact agr
    · cases h; exact ags
    · cases h; exact agt
    · cases h; exact agu
    · cases h; exact agv
    · cases h; exact agw
    · cases h; exact agx
    · cases h; exact agy
    · cases h; exact agz
    · cases h; exact agB
    · cases h; exact agC
    · cases h; exact agD
    · cases h; exact agE
    · cases h; exact agF
    · cases h; exact agG
    · cases h; exact agH
    · cases h; exact agI
    · cases h; exact agJ
    · cases h; exact agK
    · cases h; exact agL
    · cases h; exact agM
    · cases h; exact agN
    · cases h; exact agO
    · cases h; exact agP
    · cases h; exact agQ
    · cases h; exact agR
    · cases h; exact agS
    · cases h; exact agT
    · cases h; exact agU
    · cases h; exact agV
    · cases h; exact agW
    · cases h; exact agX
    · cases h; exact agY
    · cases h; exact agZ
    · cases h; exact ag0
    · cases h; exact ag1
    · cases h; exact ag2
    · cases h; exact ag3
    · cases h; exact ag4
    · cases h; exact ag6
    · cases h; exact ag7
    · cases h; exact ag8
    · cases h; exact ag9
    · cases h; exact aha
    · cases h; exact ahb
    · cases h; exact ahc
    · cases h; exact ahd
    · cases h; exact ahe
    · cases h; exact ahf
    · cases h; exact ahg
    · cases h; exact ahh
    · cases h; exact ahi
    · cases h; exact ahj
    · cases h; exact ahk
    · cases h; exact ahl
    · cases h; exact ahm
    · cases h; exact ahn
    · cases h; exact aho
    · cases h; exact ahp
    · cases h; exact ahq
    · cases h; exact ahr
    · cases h; exact ahs
    · cases h; exact ahu
    · cases h; exact ahw
    · cases h; exact ahx
    · cases h; exact ahy
    · cases h; exact ahB
    · cases h
  · have h : _ = _:=h
    rcases Option.or_eq_some_iff.1 h with h | ⟨_,h⟩
    · unfold E9 at h
      split at h
      · cases h; exact Zo
      · cases h; exact Wp
      · cases h; exact WA
      · cases h; exact WO
      · cases h; exact Xp
      · cases h; exact Xs
      · cases h; exact YO
      · cases h; exact Zc
      · cases h; exact Ze
      · cases h; exact Zj
      · cases h; exact Zk
      · cases h; exact Zm
      · cases h; exact Zn
      · cases h; exact Zp
      · cases h; exact Zq
      · cases h; exact Zr
      · cases h; exact Zs
      · cases h; exact Zt
      · cases h; exact Zu
      · cases h; exact Zv
      · cases h; exact Zw
      · cases h; exact Zx
      · cases h; exact Zy
      · cases h; exact Zz
      · cases h; exact ZA
      · cases h; exact ZB
      · cases h; exact ZC
      · cases h; exact ZD
      · cases h; exact ZE
      · cases h; exact ZF
      · cases h; exact ZG
      · cases h; exact ZH
      · cases h; exact ZI
      · cases h; exact ZJ
      · cases h; exact ZK
      · cases h; exact ZL
      · cases h; exact ZM
      · cases h; exact ZN
      · cases h; exact Wl
      · cases h; exact Wm
      · cases h; exact Wn
      · cases h; exact Wo
      · cases h; exact Wq
      · cases h; exact Ws
      · cases h; exact Wt
      · cases h; exact Wu
      · cases h; exact Wv
      · cases h; exact Ww
      · cases h; exact Wx
      · cases h; exact Wy
      · cases h; exact Wz
      · cases h; exact WB
      · cases h; exact WC
      · cases h; exact WD
      · cases h; exact WE
      · cases h; exact WG
      · cases h; exact WH
      · cases h; exact WI
      · cases h; exact WJ
      · cases h; exact WK
      · cases h; exact WL
      · cases h; exact WM
      · cases h; exact WN
      · cases h; exact WQ
      · cases h; exact WR
      · cases h; exact WS
      · cases h; exact WT
      · cases h; exact WU
      · cases h; exact WV
      · cases h; exact WW
      · cases h; exact WX
      · cases h; exact WY
      · cases h; exact WZ
      · cases h; exact W3
      · cases h; exact W4
      · cases h; exact W5
      · cases h; exact W6
      · cases h; exact W7
      · cases h; exact W8
      · cases h; exact W9
      · cases h; exact Xa
      · cases h; exact Xb
      · cases h; exact Xc
      · cases h; exact Xd
      · cases h; exact Xe
      · cases h; exact Xf
      · cases h; exact Xg
      · cases h; exact Xh
      · cases h; exact Xi
      · cases h; exact Xj
      · cases h; exact Xk
      · cases h; exact Xl
      · cases h; exact Xm
      · cases h; exact Xn
      · cases h; exact Xo
      · cases h; exact Xq
      · cases h; exact Xr
      · cases h; exact Xt
      · cases h; exact Xu
      · cases h; exact Xv
      · cases h; exact Xw
      · cases h; exact Xx
      · cases h; exact Xy
      · cases h; exact Xz
      · cases h; exact XA
      · cases h; exact XB
      · cases h; exact XC
      · cases h; exact XD
      · cases h; exact XE
      · cases h; exact XF
      · cases h; exact XG
      · cases h; exact XH
      · cases h; exact XI
      · cases h; exact XJ
      · cases h; exact XK
      · cases h; exact XL
      · cases h; exact XM
      · cases h; exact XO
      · cases h; exact XP
      · cases h; exact XQ
      · cases h
    unfold Fa at h
    split at h
    · cases h; exact XR
    · cases h; exact XS
    · cases h; exact XT
    · cases h; exact XU
    · cases h; exact XV
    · cases h; exact XW
    · cases h; exact XX
    · cases h; exact XY
    · cases h; exact XZ
    · cases h; exact X0
    · cases h; exact X1
    · cases h; exact X2
    · cases h; exact X3
    · cases h; exact X4
    · cases h; exact X5
    · cases h; exact X6
    · cases h; exact X7
    · cases h; exact X8
    · cases h; exact X9
    · cases h; exact Ya
    · cases h; exact Yb
    · cases h; exact Yc
    · cases h; exact Yd
    · cases h; exact Ye
    · cases h; exact Yf
    · cases h; exact Yg
    · cases h; exact Yh
    · cases h; exact Yi
    · cases h; exact Yj
    · cases h; exact Yk
    · cases h; exact Yl
    · cases h; exact Ym
    · cases h; exact Yn
    · cases h; exact Yo
    · cases h; exact Yp
    · cases h; exact Yq
    · cases h; exact Yr
    · cases h; exact Ys
    · cases h; exact Yt
    · cases h; exact Yu
    · cases h; exact Yv
    · cases h; exact Yw
    · cases h; exact Yx
    · cases h; exact Yy
    · cases h; exact Yz
    · cases h; exact YA
    · cases h; exact YB
    · cases h; exact YC
    · cases h; exact YD
    · cases h; exact YE
    · cases h; exact YF
    · cases h; exact YG
    · cases h; exact YH
    · cases h; exact YI
    · cases h; exact YJ
    · cases h; exact YK
    · cases h; exact YL
    · cases h; exact YM
    · cases h; exact YN
    · cases h; exact YP
    · cases h; exact YQ
    · cases h; exact YR
    · cases h; exact YS
    · cases h; exact YT
    · cases h; exact YU
    · cases h; exact YV
    · cases h; exact YW
    · cases h; exact YX
    · cases h; exact YY
    · cases h; exact YZ
    · cases h; exact Y0
    · cases h; exact Y1
    · cases h; exact Y2
    · cases h; exact Y3
    · cases h; exact Y4
    · cases h; exact Y5
    · cases h; exact Y6
    · cases h; exact Y7
    · cases h; exact Y8
    · cases h; exact Y9
    · cases h; exact Za
    · cases h; exact Zb
    · cases h; exact Zd
    · cases h; exact Zg
    · cases h; exact Zh
    · cases h; exact Zi
    · cases h; exact Zl
    · cases h
theorem aiI (htab : Lib.TabIs Go.Proofs.Tryz.prog Bs.W0 "internal/strconv.uint64pow10" .u64 Lib.pow10Tab) (hmax : ∃ m,Bs.W0.cell? ⟨0,0,none⟩ = some (.int .i64 m)) (GR : ∃ te pe,Bs.W0.var? Go.Proofs.Tryz.prog "strconv.ErrSyntax" = some #[.iface te pe]) (js : ∃ te pe,Bs.W0.var? Go.Proofs.Tryz.prog "strconv.ErrRange" = some #[.iface te pe]) : LI.Sound Go.Proofs.Tryz.prog:=(nV (Wh fun A cap fs w h1 h2 h3=>Go.Proofs.ZS A cap fs w h1 h2 h3) (nV (aco fun s w hw hs=>Go.Proofs.aci htab GR js s w hw hs) (nV (LD agA) (nV (LD afy) (nV (aa9 htab fun n h0 h1 w ht=>Go.Proofs.Tryz.strconv_Itoa n h0 h1 w ht) (nV (VQ (g1:=0) hmax fun s sep m w h1 h2=>Go.Proofs.Tryz.strings_Cut s sep m w h1 h2) (nV (VR fun s p w=>Go.Proofs.Tryz.strings_CutPrefix s p w) (nV (aae fun s p w=>Go.Proofs.Tryz.strings_HasPrefix s p w) (nV (aeh (g1:=0) (t9:=_) hmax fun s sep m w h1 h2 h3=>Go.Proofs.Tryz.strings_Split s sep m w h1 h2 h3) (ah4 fun s c h w hs=>Go.Proofs.Tryz.strings_Trim_one s c h w hs))))))))))
end M
