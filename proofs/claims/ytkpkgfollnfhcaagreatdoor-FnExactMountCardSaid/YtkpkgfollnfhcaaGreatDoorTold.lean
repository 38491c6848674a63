/- Each function of the table is the program's, and the library is as it is said to be; no conditions. -/
import Derived.Test.YtkpkgfollnfhcaaGreatDoorProg
import Derived.Test.YtkpkgfollnfhcaaGreatDoorLay
import Derived.Test.YtkpkgfollnfhcaaGreatDoorTab
import Derived.Test.YtkpkgfollnfhcaaGreatDoorMc
import Derived.WalkKit
import Derived.Lib.FrozenHead
import Derived.Lib.OthersKept
import Derived.Lib.Builder
set_option linter.unusedSectionVars false
set_option linter.unusedVariables false
set_option linter.unusedSimpArgs false
set_option linter.unusedVariables false
set_option linter.unusedSectionVars false
set_option maxRecDepth 100000
namespace Go.Proofs
open Go.RowKit
set_option maxHeartbeats 2000000 in
set_option maxRecDepth 100000 in
theorem OZ (b : Nat) (w : World) (h0 : w.cell? ⟨b,0,none⟩ = some (.pointer (some ⟨b,0,none⟩))) :
    Calls Tryz.prog 349 #[.pointer (some ⟨b,0,none⟩)] w fun e w'=>e = .returned (.tuple #[])∧w' = w:=by
  obtain ⟨j,hj,zh⟩:=Option.map_eq_some_iff.1 (show (Tryz.prog.info? 321).map (·.size) = some 2 by kernel_rfl)
  go_enter Tryz.func349,Tryz.ntmps349
  go_wp2
  rw [Lib.run_neq_ptr_same w _ Tryz.underlying319 hj]
  go_wp2
  go_end0
  exact ⟨rfl,rfl⟩
set_option maxHeartbeats 2000000 in
set_option maxRecDepth 100000 in
theorem OY (b : Nat) (w : World) (h0 : w.cell? ⟨b,0,none⟩ = some (.pointer none)) (hsh : w.shape? b = some (321,2)) (hfz : w.frozen? ⟨b,0,none⟩ = false) :
    Calls Tryz.prog 349 #[.pointer (some ⟨b,0,none⟩)] w fun e w'=>e = .returned (.tuple #[])∧w' = w.setCell ⟨b,0,none⟩ (.pointer (some ⟨b,0,none⟩)):=by
  obtain ⟨j,hj,zh⟩:=Option.map_eq_some_iff.1 (show (Tryz.prog.info? 321).map (·.size) = some 2 by kernel_rfl)
  go_enter Tryz.func349,Tryz.ntmps349
  go_wp2
  rw [Lib.run_to_unsafe w ⟨b,0,none⟩ Tryz.underlying319 Tryz.underlying359 hj (by rw [zh]; decide) hsh (Nat.zero_lt_succ 1)]
  simp only [Result.andThen]
  rw [Oper.upon_value]
  go_wp2
  rw [run_callFunc_extern Tryz.func368 (by kernel_rfl) (by kernel_rfl) (by kernel_rfl) (e:=Extern.AbiNoEscape.same) (by kernel_rfl)]
  rw [Lib.run_noEscape]
  simp only [Result.andThen]
  rw [Oper.upon_value]
  go_wp2
  rw [Lib.run_from_unsafe w ⟨b,0,none⟩ Tryz.underlying359 Tryz.underlying319 hj hsh (by kernel_rfl)]
  simp only [Result.andThen]
  rw [Oper.upon_value]
  go_wp2
  go_end0
  exact ⟨rfl,rfl⟩
theorem OX (B b : Nat) (bs : List Value) (w : World) (h : Lib.IsBuilderF 321 5 B b bs w) :
    Calls Tryz.prog 349 #[.pointer (some ⟨b,0,none⟩)] w fun e w'=>e = .returned (.tuple #[])∧(Lib.BuilderAtF 321 5 B b (.pointer (some ⟨b,0,none⟩)) bs w'∧Below B w w'):=by
  rcases h with h | h
  · refine (OY b w h.cell0 h.shape h.frozen0).mono ?_
    rintro e w' ⟨rfl,rfl⟩
    exact ⟨rfl,h.used _,(Below.refl B w).setCell (p:=⟨b,0,none⟩) h.1 _⟩
  · refine (OZ b w h.cell0).mono ?_
    rintro e w' ⟨rfl,rfl⟩
    exact ⟨rfl,h,Below.refl B _⟩
set_option maxHeartbeats 2000000 in
set_option maxRecDepth 100000 in
theorem O0 (B b : Nat) (bs : List Value) (s : ByteArray) (w : World) (h : Lib.IsBuilderF 321 5 B b bs w) (hlen : bs.length + s.size≤140737488355328) (hBw : B≤w.heap.size) :
    Calls Tryz.prog 327 #[.pointer (some ⟨b,0,none⟩),.string s] w fun e w'=>e = .returned (.tuple #[.int .i64 s.size,.nilIface])∧(Lib.BuilderAtF 321 5 B b (.pointer (some ⟨b,0,none⟩)) (bs ++ Lib.strCells s) w'∧Below B w w'):=by
  obtain ⟨i0,hi,hz0,hz1,hz2⟩:=info_parts (P:=Tryz.prog) (e:=5) (z:=.int .u8 0) (size:=1) (bytes:=1) (by kernel_rfl)
  go_enter Tryz.func327,Tryz.ntmps327
  go_wp2_with (go_at_call 349; refine (OX B b bs _ h).mono ?_)
  rintro e w1 ⟨rfl,h1,dB⟩
  obtain ⟨hB,v,hbk,hown,hne⟩:=h1
  have c0 : w1.cell? ⟨b,0,none⟩ = some (.pointer (some ⟨b,0,none⟩)):=by rw [Lib.cell_of_heap hbk]; rfl
  have c1 : w1.cell? ⟨b,1,none⟩ = some v:=by rw [Lib.cell_of_heap hbk]; rfl
  go_wp2_with (at_builtin; refine Lib.wpList_append_own_stringF _ rfl _ _ 270 9 rfl B 5 i0 Tryz.underlying270 Tryz.underlying9 hi hz0 hz1 hz2 _ _ _ rfl hown s rfl ?c3 ?c4 ?c5 ?_)
  case c3=>unfold maxLen; omega
  case c4=>omega
  case c5=>have:=dB.size; omega
  intro v' w2 hown' hgrow _
  have hlt : b < w1.heap.size:=by
    rcases Nat.lt_or_ge b w1.heap.size with h' | h'
    · exact h'
    · simp [Array.getElem?_eq_none h'] at hbk
  have iL : w2.heap[b]? = some (.cells #[.pointer (some ⟨b,0,none⟩),v] 321 (0,0)):=by
    rw [hgrow.block b hlt (fun e=>hne e.symm)]
    exact hbk
  have d0 : w2.cell? ⟨b,0,none⟩ = some (.pointer (some ⟨b,0,none⟩)):=by rw [Lib.cell_of_heap iL]; rfl
  have d1 : w2.cell? ⟨b,1,none⟩ = some v:=by rw [Lib.cell_of_heap iL]; rfl
  have f1 : w2.frozen? ⟨b,1,none⟩ = false:=Lib.frozen_of_heap iL 1
  obtain ⟨ao,n',cap,rfl⟩ : ∃ ao n' cap,v' = .slice ao n' cap:=by
    rcases hown'.2 with ⟨hv,_⟩ | ⟨g,cap,cur,fz,hv,_⟩
    · exact ⟨_,_,_,hv⟩
    · exact ⟨_,_,_,hv⟩
  go_wp2
  go_ret2
  refine ⟨rfl,?_,?_⟩
  · exact Lib.BuilderAtF.put (T:=321) (e:=5) hB iL (bs':=bs ++ Lib.strCells s) (by simpa [Lib.strCells_length] using hown') (by decide)
  · exact (dB.grown hgrow (by have:=dB.size; omega) (fun k hk=>(hown.lt k hk).1)).setCell (p:=⟨b,1,none⟩) hB _
set_option maxHeartbeats 4000000 in
set_option maxRecDepth 1000000 in
theorem T6 (A : Option Addr) (cap : Nat) (fs : List (ByteArray×ByteArray)) (w : World)
    (hc : ∀ i f,fs[i]? = some f→∃ g o,A = some ⟨g,o,none⟩∧g < w.heap.size∧w.cell? ⟨g,o + i * 2,none⟩ = some (.string f.1)∧w.cell? ⟨g,o + i * 2 + 1,none⟩ = some (.string f.2))
    (hb : (M.gG fs).length≤140737488355328) (hl : fs.length≤140737488355328) :
    Calls Tryz.prog 308 #[.slice A fs.length cap] w fun e w'=>e = .returned (.string ⟨(M.gG fs).toArray⟩)∧Below w.heap.size w w':=by
  go_enter Tryz.func308,Tryz.ntmps308
  go_wp2
  go_loopw [8] (fun vi wr=>∃ k : Nat,vi = .int .i64 k∧k≤fs.length∧Lib.IsBuilderF 321 5 w.heap.size w.heap.size (Lib.byteCells (M.gG (fs.take k))) wr∧Below w.heap.size w wr) (fun vi _=>fs.length - (intOf vi).toNat)
  case atStart =>
    exact ⟨0,rfl,Nat.zero_le _,Lib.IsBuilderF.of (Lib.fresh_isBuilder 321 5 w),(Below.refl _ w).alloc (Nat.le_refl _) _⟩
  case round =>
    obtain ⟨k,rfl,hk,hI,ux⟩:=hrel
    have hsz : w.heap.size≤wr.heap.size:=ux.size
    by_cases hlt : k < fs.length
    · obtain ⟨g,o,rfl,hg,hk1⟩:=hc k fs[k] (by simp [hlt])
      have c1 : wr.cell? ⟨g,o + k * 2,none⟩ = some (.string fs[k].1):=by rw [ux.cell (p:=⟨g,o + k * 2,none⟩) hg]; exact hk1.1
      have c2 : wr.cell? ⟨g,o + k * 2 + 1,none⟩ = some (.string fs[k].2):=by rw [ux.cell (p:=⟨g,o + k * 2 + 1,none⟩) hg]; exact hk1.2
      have hlt2 : (k : Int) < fs.length:=by omega
      have hle:=M.T7 hlt
      have htk:=M.I6 hlt
      have s1 : ¬ 9223372036854775807 < fs[k].1.size + 2:=by omega
      have s2 : ¬ 9223372036854775807 < fs[k].1.size + 2 + fs[k].2.size:=by omega
      have s3 : ¬ 9223372036854775807 < fs[k].1.size + 2 + fs[k].2.size + 2:=by omega
      go_wp2_with (go_at_call 327; refine (O0 w.heap.size w.heap.size _ _ _ (hI.alloc _) ?_ ?_).mono ?_)
      · rw [Lib.byteCells_length]
        simp only [ByteArray.size_append]
        have e1 : (⟨#[58,32]⟩ : ByteArray).size = 2:=rfl
        have e2 : (⟨#[13,10]⟩ : ByteArray).size = 2:=rfl
        omega
      · simp only [World.alloc]
        simp
        omega
      rintro e W1 ⟨rfl,h1,b1⟩
      go_wp2
      go_roundw
      case rel =>
        refine ⟨k + 1,by go_num,by omega,?_,(ux.alloc hsz _).trans b1⟩
        rw [htk,Lib.byteCells_append]
        refine Or.inr ?_
        have e : Lib.strCells (fs[k].1 ++ ⟨#[58,32]⟩ ++ fs[k].2 ++ ⟨#[13,10]⟩) = Lib.byteCells (fs[k].1.data.toList ++ [58,32] ++ fs[k].2.data.toList ++ [13,10]):=by
          rw [Lib.strCells_eq]
          congr 1
        rw [← e]
        exact h1
      case measure =>
        simp [intOf]
        omega
    · have hlt2 : ¬ (k : Int) < fs.length:=by omega
      go_wp2_with (go_at_call 328; refine (Tryz.Builder_String_any_f w.heap.size w.heap.size _ _ hI hsz).mono ?_)
      rintro e W1 rfl h2 b1
      clear h2
      go_wp2
      go_ret
      have : k = fs.length:=by omega
      subst this
      rw [List.take_length]
      exact ⟨rfl,ux.trans b1⟩
end Go.Proofs
namespace Go.Proofs
open Go.RowKit
set_option maxHeartbeats 2000000 in
set_option maxRecDepth 100000 in
theorem Wm (s : ByteArray) (h : 7 < s.size) (w : World) :
    Calls Go.Proofs.Tryz.prog 300 #[.string s] w fun e w'=>e = .returned (.tuple #[.int .i64 0,.bool false])∧w' = w:=by
  go_enter Tryz.func300,Tryz.ntmps300
  go_wp2
  · go_ret2; exact ⟨rfl,rfl⟩
set_option maxHeartbeats 2000000 in
set_option maxRecDepth 100000 in
theorem Wo (s : ByteArray) (h : ¬ 7 < s.size) (v : Int) (hv : Lib.atoiAll s.data.toList = .ok v) (w : World) (htab : Lib.TabIs Go.Proofs.Tryz.prog w "internal/strconv.uint64pow10" .u64 Lib.pow10Tab) :
    Calls Go.Proofs.Tryz.prog 300 #[.string s] w fun e w'=>e = .returned (.tuple #[.int .i64 (sH v s.data.toList),.bool (lK v s.data.toList)])∧Below w.heap.size w w':=by
  have jo:=Lib.atoiAll_bounds hv
  go_enter Tryz.func300,Tryz.ntmps300
  go_wp2_with (first
    | (go_at_call 323; refine (Tryz.strconv_Atoi_ok s (by omega) v hv _).mono ?_; rintro e W1 ⟨rfl,Ju⟩; have dB : Below w.heap.size w W1:=(by rcases Ju with rfl | ⟨t,rfl⟩; exact Below.refl _ _; exact Lib.bytesWorld_below _ _ _); clear Ju)
    | (go_at_call 265; refine (Tryz.strconv_Itoa v jo.1 jo.2 _ (Yx htab dB)).mono ?_; rintro e W2 ⟨rfl,k,os,Jv⟩; have iL : Below w.heap.size w W2:=(by subst Jv; exact dB.trans ((Uc W1 k os).mono dB.size)); clear Jv)
    | go_in)
  all_goals go_ret2
  all_goals refine ⟨?_,by assumption⟩
  all_goals first
    | (have hb : lK v s.data.toList = true:=(by
        unfold lK
        rw [decide_eq_true_eq]
        refine ⟨by assumption,by assumption,?_⟩
        rw [← Lib.toList_data]
        rename_i hz
        simpa using hz)
       rw [sH,if_pos hb,hb]; rfl)
    | (have hb : lK v s.data.toList = false:=(by
        unfold lK
        rw [decide_eq_false_iff_not]
        rintro ⟨h1,h2,h3⟩
        first
        | omega
        | (rw [← Lib.toList_data] at h3
           rename_i hz
           simp [h3] at hz))
       rw [sH,hb]; rfl)
set_option maxHeartbeats 2000000 in
set_option maxRecDepth 100000 in
theorem Wl (s : ByteArray) (h : ¬ 7 < s.size) (w : World)
    (hA : Calls Go.Proofs.Tryz.prog 323 #[.string s] w fun e w'=>∃ n t N,e = .returned (.tuple #[.int .i64 n,.iface t (.pointer (some ⟨N,0,none⟩))])∧Below w.heap.size w w') :
    Calls Go.Proofs.Tryz.prog 300 #[.string s] w fun e w'=>e = .returned (.tuple #[.int .i64 0,.bool false])∧Below w.heap.size w w':=by
  go_enter Tryz.func300,Tryz.ntmps300
  go_wp2_with (first
    | (go_at_call 323; refine hA.mono ?_; rintro e W1 ⟨n,t,N,rfl,dB⟩)
    | go_in)
  all_goals go_ret2
  all_goals exact ⟨rfl,by assumption⟩
theorem Wk [B : M.Bs] (htab : Lib.TabIs Go.Proofs.Tryz.prog B.W0 "internal/strconv.uint64pow10" .u64 Lib.pow10Tab) (Dy : ∃ te pe,B.W0.var? Go.Proofs.Tryz.prog "strconv.ErrSyntax" = some #[.iface te pe]) (iN : ∃ te pe,B.W0.var? Go.Proofs.Tryz.prog "strconv.ErrRange" = some #[.iface te pe])
    (s : ByteArray) (w : World) (hw : M.lg w) (hs : s.size≤9223372036854775807) :
    Calls Go.Proofs.Tryz.prog 300 #[.string s] w fun e w'=>e = .returned (.tuple #[.int .i64 (((M.aS s.data.toList).getD 0 : Nat) : Int),.bool (M.aS s.data.toList).isSome])∧Below w.heap.size w w':=by
  refine Wn (a:=0) hs (fun h=>Wm s h w) (fun h v hv=>Wo s h v hv w (M.TabIs.same htab hw)) fun h hv=>?_
  refine Wl s h w ?_
  rcases cV : Lib.atoiAll s.data.toList with v | _ | _
  · exact absurd cV (hv v)
  · obtain ⟨te,pe,h1⟩:=Dy
    exact (Any.strconv_Atoi_syntax_var Tryz.laysC172 s (by omega) cV te pe w (Mm h1 hw)).mono fun e w' ⟨N,he,_,_,hb⟩=>⟨_,_,N,he,hb⟩
  · obtain ⟨te,pe,h1⟩:=iN
    exact (Any.strconv_Atoi_range_var Tryz.laysC172 s (by omega) cV te pe w (Mm h1 hw)).mono fun e w' ⟨N,he,_,_,hb⟩=>⟨_,_,N,he,hb⟩
end Go.Proofs
namespace M
open Go
variable [Bs]
theorem YF : Told Go.Proofs.Tryz.prog 10 vH [.t 2] 1:=Told.of Go.Proofs.Tryz.func10 (by decide +kernel)
theorem Rr : av Go.Proofs.Tryz.prog 10 = true:=by decide +kernel
theorem ZT : Told Go.Proofs.Tryz.prog 24 mL [.t 4] 2:=Told.of Go.Proofs.Tryz.func24 (by decide +kernel)
theorem SN : av Go.Proofs.Tryz.prog 24 = true:=by decide +kernel
theorem ZV : Told Go.Proofs.Tryz.prog 25 mM [.t 4] 2:=Told.of Go.Proofs.Tryz.func25 (by decide +kernel)
theorem SP : av Go.Proofs.Tryz.prog 25 = true:=by decide +kernel
theorem Z9 : Told Go.Proofs.Tryz.prog 27 Au [.t 4] 2:=Told.of Go.Proofs.Tryz.func27 (by decide +kernel)
theorem S4 : av Go.Proofs.Tryz.prog 27 = true:=by decide +kernel
theorem aaF : Told Go.Proofs.Tryz.prog 37 An [.t 4] 2:=Told.of Go.Proofs.Tryz.func37 (by decide +kernel)
theorem TB : av Go.Proofs.Tryz.prog 37 = true:=by decide +kernel
theorem aaH : Told Go.Proofs.Tryz.prog 44 sg [.t 4] 2:=Told.of Go.Proofs.Tryz.func44 (by decide +kernel)
theorem TD : av Go.Proofs.Tryz.prog 44 = true:=by decide +kernel
theorem aaI : Told Go.Proofs.Tryz.prog 45 w6 [.c 2 6 true 43] 1:=Told.of Go.Proofs.Tryz.func45 (by decide +kernel)
theorem TE : av Go.Proofs.Tryz.prog 45 = true:=by decide +kernel
theorem aaJ : Told Go.Proofs.Tryz.prog 46 AA [.c 2 2 true 39] 1:=Told.of Go.Proofs.Tryz.func46 (by decide +kernel)
theorem TF : av Go.Proofs.Tryz.prog 46 = true:=by decide +kernel
theorem aaK : Told Go.Proofs.Tryz.prog 47 vj [.c 2 6 true 43] 1:=Told.of Go.Proofs.Tryz.func47 (by decide +kernel)
theorem TG : av Go.Proofs.Tryz.prog 47 = true:=by decide +kernel
theorem aaL : Told Go.Proofs.Tryz.prog 48 r7 [.t 4] 2:=Told.of Go.Proofs.Tryz.func48 (by decide +kernel)
theorem TH : av Go.Proofs.Tryz.prog 48 = true:=by decide +kernel
theorem aaM : Told Go.Proofs.Tryz.prog 49 Ar [.t 4] 2:=Told.of Go.Proofs.Tryz.func49 (by decide +kernel)
theorem TI : av Go.Proofs.Tryz.prog 49 = true:=by decide +kernel
theorem aaN : Told Go.Proofs.Tryz.prog 54 BH [.t 4] 2:=Told.of Go.Proofs.Tryz.func54 (by decide +kernel)
theorem TJ : av Go.Proofs.Tryz.prog 54 = true:=by decide +kernel
theorem aaO : Told Go.Proofs.Tryz.prog 56 Bl [.t 4] 2:=Told.of Go.Proofs.Tryz.func56 (by decide +kernel)
theorem TK : av Go.Proofs.Tryz.prog 56 = true:=by decide +kernel
theorem aaP : Told Go.Proofs.Tryz.prog 61 zC [.t 4] 2:=Told.of Go.Proofs.Tryz.func61 (by decide +kernel)
theorem TL : av Go.Proofs.Tryz.prog 61 = true:=by decide +kernel
theorem aaQ : Told Go.Proofs.Tryz.prog 77 Ah [.t 4] 2:=Told.of Go.Proofs.Tryz.func77 (by decide +kernel)
theorem TM : av Go.Proofs.Tryz.prog 77 = true:=by decide +kernel
theorem aaR : Told Go.Proofs.Tryz.prog 78 qj [.t 4] 2:=Told.of Go.Proofs.Tryz.func78 (by decide +kernel)
theorem TN : av Go.Proofs.Tryz.prog 78 = true:=by decide +kernel
theorem aaS : Told Go.Proofs.Tryz.prog 79 Ag [.t 4] 2:=Told.of Go.Proofs.Tryz.func79 (by decide +kernel)
theorem TO : av Go.Proofs.Tryz.prog 79 = true:=by decide +kernel
theorem aaT : Told Go.Proofs.Tryz.prog 80 Ae [.t 4] 2:=Told.of Go.Proofs.Tryz.func80 (by decide +kernel)
theorem TP : av Go.Proofs.Tryz.prog 80 = true:=by decide +kernel
theorem aaU : Told Go.Proofs.Tryz.prog 81 Af [.t 4] 2:=Told.of Go.Proofs.Tryz.func81 (by decide +kernel)
theorem TQ : av Go.Proofs.Tryz.prog 81 = true:=by decide +kernel
theorem aaV : Told Go.Proofs.Tryz.prog 82 At [.t 4] 2:=Told.of Go.Proofs.Tryz.func82 (by decide +kernel)
theorem TR : av Go.Proofs.Tryz.prog 82 = true:=by decide +kernel
theorem aaW : Told Go.Proofs.Tryz.prog 83 Aq [.t 4] 2:=Told.of Go.Proofs.Tryz.func83 (by decide +kernel)
theorem TS : av Go.Proofs.Tryz.prog 83 = true:=by decide +kernel
theorem aaX : Told Go.Proofs.Tryz.prog 84 As [.t 4] 2:=Told.of Go.Proofs.Tryz.func84 (by decide +kernel)
theorem TU : av Go.Proofs.Tryz.prog 84 = true:=by decide +kernel
theorem aaY : Told Go.Proofs.Tryz.prog 85 Av [.t 4] 2:=Told.of Go.Proofs.Tryz.func85 (by decide +kernel)
theorem TV : av Go.Proofs.Tryz.prog 85 = true:=by decide +kernel
theorem aaZ : Told Go.Proofs.Tryz.prog 87 Ao [.t 4] 2:=Told.of Go.Proofs.Tryz.func87 (by decide +kernel)
theorem TW : av Go.Proofs.Tryz.prog 87 = true:=by decide +kernel
theorem aa0 : Told Go.Proofs.Tryz.prog 94 mT [.t 2] 1:=Told.of Go.Proofs.Tryz.func94 (by decide +kernel)
theorem TX : av Go.Proofs.Tryz.prog 94 = true:=by decide +kernel
theorem aa1 : Told Go.Proofs.Tryz.prog 97 sV [.t 4] 2:=Told.of Go.Proofs.Tryz.func97 (by decide +kernel)
theorem TY : av Go.Proofs.Tryz.prog 97 = true:=by decide +kernel
theorem aa2 : Told Go.Proofs.Tryz.prog 98 wU [.t 2] 1:=Told.of Go.Proofs.Tryz.func98 (by decide +kernel)
theorem TZ : av Go.Proofs.Tryz.prog 98 = true:=by decide +kernel
theorem YG : Told Go.Proofs.Tryz.prog 102 Ak [.t 4] 2:=Told.of Go.Proofs.Tryz.func102 (by decide +kernel)
theorem Rs : av Go.Proofs.Tryz.prog 102 = true:=by decide +kernel
theorem YH : Told Go.Proofs.Tryz.prog 103 Am [.t 4] 2:=Told.of Go.Proofs.Tryz.func103 (by decide +kernel)
theorem Rt : av Go.Proofs.Tryz.prog 103 = true:=by decide +kernel
theorem YI : Told Go.Proofs.Tryz.prog 104 Aj [.t 4] 2:=Told.of Go.Proofs.Tryz.func104 (by decide +kernel)
theorem Ru : av Go.Proofs.Tryz.prog 104 = true:=by decide +kernel
theorem YJ : Told Go.Proofs.Tryz.prog 105 sj [.t 4] 2:=Told.of Go.Proofs.Tryz.func105 (by decide +kernel)
theorem Rv : av Go.Proofs.Tryz.prog 105 = true:=by decide +kernel
theorem YK : Told Go.Proofs.Tryz.prog 107 w9 [.t 2] 1:=Told.of Go.Proofs.Tryz.func107 (by decide +kernel)
theorem Rw : av Go.Proofs.Tryz.prog 107 = true:=by decide +kernel
theorem YL : Told Go.Proofs.Tryz.prog 108 kf [.t 2] 1:=Told.of Go.Proofs.Tryz.func108 (by decide +kernel)
theorem Rx : av Go.Proofs.Tryz.prog 108 = true:=by decide +kernel
theorem YM : Told Go.Proofs.Tryz.prog 109 sX [.t 4] 2:=Told.of Go.Proofs.Tryz.func109 (by decide +kernel)
theorem Ry : av Go.Proofs.Tryz.prog 109 = true:=by decide +kernel
theorem YN : Told Go.Proofs.Tryz.prog 110 BE [.t 2] 1:=Told.of Go.Proofs.Tryz.func110 (by decide +kernel)
theorem Rz : av Go.Proofs.Tryz.prog 110 = true:=by decide +kernel
theorem YO : Told Go.Proofs.Tryz.prog 111 AB [.t 2] 1:=Told.of Go.Proofs.Tryz.func111 (by decide +kernel)
theorem RA : av Go.Proofs.Tryz.prog 111 = true:=by decide +kernel
theorem YP : Told Go.Proofs.Tryz.prog 118 sn [.t 4] 2:=Told.of Go.Proofs.Tryz.func118 (by decide +kernel)
theorem RB : av Go.Proofs.Tryz.prog 118 = true:=by decide +kernel
theorem YQ : Told Go.Proofs.Tryz.prog 119 Bi [.t 2] 1:=Told.of Go.Proofs.Tryz.func119 (by decide +kernel)
theorem RC : av Go.Proofs.Tryz.prog 119 = true:=by decide +kernel
theorem YR : Told Go.Proofs.Tryz.prog 120 Bt [.c 0 6 true 43] 0:=Told.of Go.Proofs.Tryz.func120 (by decide +kernel)
theorem RD : av Go.Proofs.Tryz.prog 120 = true:=by decide +kernel
theorem YS : Told Go.Proofs.Tryz.prog 121 xp [.t 2,.t 3] 1:=Told.of Go.Proofs.Tryz.func121 (by decide +kernel)
theorem RE : av Go.Proofs.Tryz.prog 121 = true:=by decide +kernel
theorem YT : Told Go.Proofs.Tryz.prog 122 mX [.t 2,.t 3,.t 4] 1:=Told.of Go.Proofs.Tryz.func122 (by decide +kernel)
theorem RF : av Go.Proofs.Tryz.prog 122 = true:=by decide +kernel
theorem YU : Told Go.Proofs.Tryz.prog 123 Bg [.t 4] 2:=Told.of Go.Proofs.Tryz.func123 (by decide +kernel)
theorem RG : av Go.Proofs.Tryz.prog 123 = true:=by decide +kernel
theorem YV : Told Go.Proofs.Tryz.prog 124 oN [.c 2 7 true 61,.t 3] 1:=Told.of Go.Proofs.Tryz.func124 (by decide +kernel)
theorem RH : av Go.Proofs.Tryz.prog 124 = true:=by decide +kernel
theorem YW : Told Go.Proofs.Tryz.prog 125 BF [.t 4] 2:=Told.of Go.Proofs.Tryz.func125 (by decide +kernel)
theorem RI : av Go.Proofs.Tryz.prog 125 = true:=by decide +kernel
theorem YX : Told Go.Proofs.Tryz.prog 126 BA [.c 2 2 true 39] 1:=Told.of Go.Proofs.Tryz.func126 (by decide +kernel)
theorem RJ : av Go.Proofs.Tryz.prog 126 = true:=by decide +kernel
theorem YY : Told Go.Proofs.Tryz.prog 127 AD [.t 2] 1:=Told.of Go.Proofs.Tryz.func127 (by decide +kernel)
theorem RL : av Go.Proofs.Tryz.prog 127 = true:=by decide +kernel
theorem YZ : Told Go.Proofs.Tryz.prog 128 zy [.t 2] 1:=Told.of Go.Proofs.Tryz.func128 (by decide +kernel)
theorem RM : av Go.Proofs.Tryz.prog 128 = true:=by decide +kernel
theorem Y0 : Told Go.Proofs.Tryz.prog 129 zF [.c 0 6 true 43] 0:=Told.of Go.Proofs.Tryz.func129 (by decide +kernel)
theorem RN : av Go.Proofs.Tryz.prog 129 = true:=by decide +kernel
theorem Y1 : Told Go.Proofs.Tryz.prog 130 zZ [.c 2 6 true 43] 1:=Told.of Go.Proofs.Tryz.func130 (by decide +kernel)
theorem RO : av Go.Proofs.Tryz.prog 130 = true:=by decide +kernel
theorem Y2 : Told Go.Proofs.Tryz.prog 131 zQ [.c 2 2 true 39] 1:=Told.of Go.Proofs.Tryz.func131 (by decide +kernel)
theorem RP : av Go.Proofs.Tryz.prog 131 = true:=by decide +kernel
theorem Y3 : Told Go.Proofs.Tryz.prog 132 Ai [.t 4] 2:=Told.of Go.Proofs.Tryz.func132 (by decide +kernel)
theorem RQ : av Go.Proofs.Tryz.prog 132 = true:=by decide +kernel
theorem Y4 : Told Go.Proofs.Tryz.prog 133 Ay [.t 4] 2:=Told.of Go.Proofs.Tryz.func133 (by decide +kernel)
theorem RR : av Go.Proofs.Tryz.prog 133 = true:=by decide +kernel
theorem Y5 : Told Go.Proofs.Tryz.prog 137 BG [.t 6] 3:=Told.of Go.Proofs.Tryz.func137 (by decide +kernel)
theorem RS : av Go.Proofs.Tryz.prog 137 = true:=by decide +kernel
theorem Y6 : Told Go.Proofs.Tryz.prog 139 kU [.t 4] 2:=Told.of Go.Proofs.Tryz.func139 (by decide +kernel)
theorem RT : av Go.Proofs.Tryz.prog 139 = true:=by decide +kernel
theorem Y7 : Told Go.Proofs.Tryz.prog 143 zV [.t 2] 1:=Told.of Go.Proofs.Tryz.func143 (by decide +kernel)
theorem RU : av Go.Proofs.Tryz.prog 143 = true:=by decide +kernel
theorem Y8 : Told Go.Proofs.Tryz.prog 145 mH [.t 4] 2:=Told.of Go.Proofs.Tryz.func145 (by decide +kernel)
theorem RW : av Go.Proofs.Tryz.prog 145 = true:=by decide +kernel
theorem Y9 : Told Go.Proofs.Tryz.prog 160 qH [.t 2] 1:=Told.of Go.Proofs.Tryz.func160 (by decide +kernel)
theorem RX : av Go.Proofs.Tryz.prog 160 = true:=by decide +kernel
theorem Za : Told Go.Proofs.Tryz.prog 161 Bj [.t 2] 1:=Told.of Go.Proofs.Tryz.func161 (by decide +kernel)
theorem RY : av Go.Proofs.Tryz.prog 161 = true:=by decide +kernel
theorem Zb : Told Go.Proofs.Tryz.prog 162 wY [.t 4,.t 5] 2:=Told.of Go.Proofs.Tryz.func162 (by decide +kernel)
theorem RZ : av Go.Proofs.Tryz.prog 162 = true:=by decide +kernel
theorem Zc : Told Go.Proofs.Tryz.prog 169 qi [.t 4] 2:=Told.of Go.Proofs.Tryz.func169 (by decide +kernel)
theorem R2 : av Go.Proofs.Tryz.prog 169 = true:=by decide +kernel
theorem Zd : Told Go.Proofs.Tryz.prog 170 oz [.t 4] 2:=Told.of Go.Proofs.Tryz.func170 (by decide +kernel)
theorem R3 : av Go.Proofs.Tryz.prog 170 = true:=by decide +kernel
theorem Ze : Told Go.Proofs.Tryz.prog 171 r8 [.t 4] 2:=Told.of Go.Proofs.Tryz.func171 (by decide +kernel)
theorem R4 : av Go.Proofs.Tryz.prog 171 = true:=by decide +kernel
theorem Zg : Told Go.Proofs.Tryz.prog 172 vW [.t 2] 1:=Told.of Go.Proofs.Tryz.func172 (by decide +kernel)
theorem R5 : av Go.Proofs.Tryz.prog 172 = true:=by decide +kernel
theorem Zh : Told Go.Proofs.Tryz.prog 173 Al [.t 4] 2:=Told.of Go.Proofs.Tryz.func173 (by decide +kernel)
theorem R6 : av Go.Proofs.Tryz.prog 173 = true:=by decide +kernel
theorem Zi : Told Go.Proofs.Tryz.prog 175 s5 [.t 4] 2:=Told.of Go.Proofs.Tryz.func175 (by decide +kernel)
theorem R7 : av Go.Proofs.Tryz.prog 175 = true:=by decide +kernel
theorem Zj : Told Go.Proofs.Tryz.prog 178 mF [.t 2] 1:=Told.of Go.Proofs.Tryz.func178 (by decide +kernel)
theorem R8 : av Go.Proofs.Tryz.prog 178 = true:=by decide +kernel
theorem Zk : Told Go.Proofs.Tryz.prog 180 zT [.t 6] 3:=Told.of Go.Proofs.Tryz.func180 (by decide +kernel)
theorem R9 : av Go.Proofs.Tryz.prog 180 = true:=by decide +kernel
theorem Zl : Told Go.Proofs.Tryz.prog 184 Bw [.t 2] 1:=Told.of Go.Proofs.Tryz.func184 (by decide +kernel)
theorem Sa : av Go.Proofs.Tryz.prog 184 = true:=by decide +kernel
theorem Zm : Told Go.Proofs.Tryz.prog 185 qF [.t 2] 1:=Told.of Go.Proofs.Tryz.func185 (by decide +kernel)
theorem Sb : av Go.Proofs.Tryz.prog 185 = true:=by decide +kernel
theorem Zn : Told Go.Proofs.Tryz.prog 187 xo [.t 2] 1:=Told.of Go.Proofs.Tryz.func187 (by decide +kernel)
theorem Sc : av Go.Proofs.Tryz.prog 187 = true:=by decide +kernel
theorem Zo : Told Go.Proofs.Tryz.prog 188 Bv [.t 2] 1:=Told.of Go.Proofs.Tryz.func188 (by decide +kernel)
theorem Sd : av Go.Proofs.Tryz.prog 188 = true:=by decide +kernel
theorem Zp : Told Go.Proofs.Tryz.prog 189 sU [.t 2] 1:=Told.of Go.Proofs.Tryz.func189 (by decide +kernel)
theorem Sf : av Go.Proofs.Tryz.prog 189 = true:=by decide +kernel
theorem Zq : Told Go.Proofs.Tryz.prog 194 rN [.t 4] 2:=Told.of Go.Proofs.Tryz.func194 (by decide +kernel)
theorem Sg : av Go.Proofs.Tryz.prog 194 = true:=by decide +kernel
theorem Zr : Told Go.Proofs.Tryz.prog 195 va [.t 2] 1:=Told.of Go.Proofs.Tryz.func195 (by decide +kernel)
theorem Si : av Go.Proofs.Tryz.prog 195 = true:=by decide +kernel
theorem Zs : Told Go.Proofs.Tryz.prog 199 Ap [.t 4] 2:=Told.of Go.Proofs.Tryz.func199 (by decide +kernel)
theorem Sj : av Go.Proofs.Tryz.prog 199 = true:=by decide +kernel
theorem Zt : Told Go.Proofs.Tryz.prog 200 xb [.t 2] 1:=Told.of Go.Proofs.Tryz.func200 (by decide +kernel)
theorem Sk : av Go.Proofs.Tryz.prog 200 = true:=by decide +kernel
theorem Zu : Told Go.Proofs.Tryz.prog 201 qC [.t 2] 1:=Told.of Go.Proofs.Tryz.func201 (by decide +kernel)
theorem Sl : av Go.Proofs.Tryz.prog 201 = true:=by decide +kernel
theorem Zv : Told Go.Proofs.Tryz.prog 202 BM [.t 2] 1:=Told.of Go.Proofs.Tryz.func202 (by decide +kernel)
theorem Sm : av Go.Proofs.Tryz.prog 202 = true:=by decide +kernel
theorem Zw : Told Go.Proofs.Tryz.prog 203 Bz [.t 2] 1:=Told.of Go.Proofs.Tryz.func203 (by decide +kernel)
theorem Sn : av Go.Proofs.Tryz.prog 203 = true:=by decide +kernel
theorem Zx : Told Go.Proofs.Tryz.prog 204 vp [.t 2] 1:=Told.of Go.Proofs.Tryz.func204 (by decide +kernel)
theorem Sq : av Go.Proofs.Tryz.prog 204 = true:=by decide +kernel
theorem Zy : Told Go.Proofs.Tryz.prog 205 jW [.t 2] 1:=Told.of Go.Proofs.Tryz.func205 (by decide +kernel)
theorem Sr : av Go.Proofs.Tryz.prog 205 = true:=by decide +kernel
theorem Zz : Told Go.Proofs.Tryz.prog 207 rS [.t 4] 2:=Told.of Go.Proofs.Tryz.func207 (by decide +kernel)
theorem Ss : av Go.Proofs.Tryz.prog 207 = true:=by decide +kernel
theorem ZA : Told Go.Proofs.Tryz.prog 208 vB [.t 2] 1:=Told.of Go.Proofs.Tryz.func208 (by decide +kernel)
theorem Su : av Go.Proofs.Tryz.prog 208 = true:=by decide +kernel
theorem ZB : Told Go.Proofs.Tryz.prog 211 vZ [.t 4] 2:=Told.of Go.Proofs.Tryz.func211 (by decide +kernel)
theorem Sv : av Go.Proofs.Tryz.prog 211 = true:=by decide +kernel
theorem ZC : Told Go.Proofs.Tryz.prog 212 Bh [.c 0 2 true 39] 0:=Told.of Go.Proofs.Tryz.func212 (by decide +kernel)
theorem Sw : av Go.Proofs.Tryz.prog 212 = true:=by decide +kernel
theorem ZD : Told Go.Proofs.Tryz.prog 213 mU [.c 2 4 true 83,.t 3] 1:=Told.of Go.Proofs.Tryz.func213 (by decide +kernel)
theorem Sy : av Go.Proofs.Tryz.prog 213 = true:=by decide +kernel
theorem ZE : Told Go.Proofs.Tryz.prog 214 xm [.t 4,.t 5] 2:=Told.of Go.Proofs.Tryz.func214 (by decide +kernel)
theorem Sz : av Go.Proofs.Tryz.prog 214 = true:=by decide +kernel
theorem ZF : Told Go.Proofs.Tryz.prog 215 BK [.t 2] 1:=Told.of Go.Proofs.Tryz.func215 (by decide +kernel)
theorem SA : av Go.Proofs.Tryz.prog 215 = true:=by decide +kernel
theorem ZG : Told Go.Proofs.Tryz.prog 216 oL [.t 2,.t 3] 1:=Told.of Go.Proofs.Tryz.func216 (by decide +kernel)
theorem SB : av Go.Proofs.Tryz.prog 216 = true:=by decide +kernel
theorem ZH : Told Go.Proofs.Tryz.prog 217 lV [.c 2 3 true 59,.t 3] 1:=Told.of Go.Proofs.Tryz.func217 (by decide +kernel)
theorem SC : av Go.Proofs.Tryz.prog 217 = true:=by decide +kernel
theorem ZI : Told Go.Proofs.Tryz.prog 218 AE [.c 2 2 true 246] 1:=Told.of Go.Proofs.Tryz.func218 (by decide +kernel)
theorem SE : av Go.Proofs.Tryz.prog 218 = true:=by decide +kernel
theorem ZJ : Told Go.Proofs.Tryz.prog 219 zU [.t 2] 1:=Told.of Go.Proofs.Tryz.func219 (by decide +kernel)
theorem SF : av Go.Proofs.Tryz.prog 219 = true:=by decide +kernel
theorem ZK : Told Go.Proofs.Tryz.prog 220 zx [.c 0 2 true 39] 0:=Told.of Go.Proofs.Tryz.func220 (by decide +kernel)
theorem SG : av Go.Proofs.Tryz.prog 220 = true:=by decide +kernel
theorem ZL : Told Go.Proofs.Tryz.prog 221 vt [] 1:=Told.of Go.Proofs.Tryz.func221 (by decide +kernel)
theorem SH : av Go.Proofs.Tryz.prog 221 = true:=by decide +kernel
theorem ZM : Told Go.Proofs.Tryz.prog 222 zH [.t 2] 1:=Told.of Go.Proofs.Tryz.func222 (by decide +kernel)
theorem SI : av Go.Proofs.Tryz.prog 222 = true:=by decide +kernel
theorem ZN : Told Go.Proofs.Tryz.prog 223 xP [.t 4] 2:=Told.of Go.Proofs.Tryz.func223 (by decide +kernel)
theorem SJ : av Go.Proofs.Tryz.prog 223 = true:=by decide +kernel
theorem ZO : Told Go.Proofs.Tryz.prog 224 zX [.t 3] 2:=Told.of Go.Proofs.Tryz.func224 (by decide +kernel)
theorem SK : av Go.Proofs.Tryz.prog 224 = true:=by decide +kernel
theorem ZR : Told Go.Proofs.Tryz.prog 227 r9 [.t 4] 2:=Told.of Go.Proofs.Tryz.func227 (by decide +kernel)
theorem SL : av Go.Proofs.Tryz.prog 227 = true:=by decide +kernel
theorem ZS : Told Go.Proofs.Tryz.prog 234 vf [.t 4,.t 5] 2:=Told.of Go.Proofs.Tryz.func234 (by decide +kernel)
theorem SM : av Go.Proofs.Tryz.prog 234 = true:=by decide +kernel
theorem ZU : Told Go.Proofs.Tryz.prog 243 Cf [.t 4] 2:=Told.of Go.Proofs.Tryz.func243 (by decide +kernel)
theorem SO : av Go.Proofs.Tryz.prog 243 = true:=by decide +kernel
theorem ZW : Told Go.Proofs.Tryz.prog 250 vk [.t 2] 1:=Told.of Go.Proofs.Tryz.func250 (by decide +kernel)
theorem SQ : av Go.Proofs.Tryz.prog 250 = true:=by decide +kernel
theorem ZX : Told Go.Proofs.Tryz.prog 251 qa [.t 2] 1:=Told.of Go.Proofs.Tryz.func251 (by decide +kernel)
theorem SR : av Go.Proofs.Tryz.prog 251 = true:=by decide +kernel
theorem ZY : Told Go.Proofs.Tryz.prog 252 xw [.t 4] 2:=Told.of Go.Proofs.Tryz.func252 (by decide +kernel)
theorem SS : av Go.Proofs.Tryz.prog 252 = true:=by decide +kernel
theorem ZZ : Told Go.Proofs.Tryz.prog 253 Bu [.t 2] 1:=Told.of Go.Proofs.Tryz.func253 (by decide +kernel)
theorem SU : av Go.Proofs.Tryz.prog 253 = true:=by decide +kernel
theorem Z0 : Told Go.Proofs.Tryz.prog 254 Bm [.t 2] 1:=Told.of Go.Proofs.Tryz.func254 (by decide +kernel)
theorem SV : av Go.Proofs.Tryz.prog 254 = true:=by decide +kernel
theorem Z1 : Told Go.Proofs.Tryz.prog 259 rV [.t 2] 1:=Told.of Go.Proofs.Tryz.func259 (by decide +kernel)
theorem SW : av Go.Proofs.Tryz.prog 259 = true:=by decide +kernel
theorem Z2 : Told Go.Proofs.Tryz.prog 260 zL [.t 2] 1:=Told.of Go.Proofs.Tryz.func260 (by decide +kernel)
theorem SX : av Go.Proofs.Tryz.prog 260 = true:=by decide +kernel
theorem Z3 : Told Go.Proofs.Tryz.prog 261 qd [.t 2] 1:=Told.of Go.Proofs.Tryz.func261 (by decide +kernel)
theorem SY : av Go.Proofs.Tryz.prog 261 = true:=by decide +kernel
theorem Z4 : Told Go.Proofs.Tryz.prog 264 Bx [.t 2] 1:=Told.of Go.Proofs.Tryz.func264 (by decide +kernel)
theorem SZ : av Go.Proofs.Tryz.prog 264 = true:=by decide +kernel
theorem Z5 : Told Go.Proofs.Tryz.prog 266 zK [.t 2] 1:=Told.of Go.Proofs.Tryz.func266 (by decide +kernel)
theorem S0 : av Go.Proofs.Tryz.prog 266 = true:=by decide +kernel
theorem Z6 : Told Go.Proofs.Tryz.prog 267 zP [.t 2] 1:=Told.of Go.Proofs.Tryz.func267 (by decide +kernel)
theorem S1 : av Go.Proofs.Tryz.prog 267 = true:=by decide +kernel
theorem Z7 : Told Go.Proofs.Tryz.prog 268 xU [.t 4] 2:=Told.of Go.Proofs.Tryz.func268 (by decide +kernel)
theorem S2 : av Go.Proofs.Tryz.prog 268 = true:=by decide +kernel
theorem Z8 : Told Go.Proofs.Tryz.prog 269 Bk [.t 2] 1:=Told.of Go.Proofs.Tryz.func269 (by decide +kernel)
theorem S3 : av Go.Proofs.Tryz.prog 269 = true:=by decide +kernel
theorem aac : Told Go.Proofs.Tryz.prog 270 vq [.t 2] 1:=Told.of Go.Proofs.Tryz.func270 (by decide +kernel)
theorem S5 : av Go.Proofs.Tryz.prog 270 = true:=by decide +kernel
theorem aad : Told Go.Proofs.Tryz.prog 271 z6 [.t 2] 1:=Told.of Go.Proofs.Tryz.func271 (by decide +kernel)
theorem S6 : av Go.Proofs.Tryz.prog 271 = true:=by decide +kernel
theorem aae : Told Go.Proofs.Tryz.prog 272 zN [.t 2] 1:=Told.of Go.Proofs.Tryz.func272 (by decide +kernel)
theorem S7 : av Go.Proofs.Tryz.prog 272 = true:=by decide +kernel
theorem aaf : Told Go.Proofs.Tryz.prog 284 xy [.t 2,.t 3] 1:=Told.of Go.Proofs.Tryz.func284 (by decide +kernel)
theorem S8 : av Go.Proofs.Tryz.prog 284 = true:=by decide +kernel
theorem aag : Told Go.Proofs.Tryz.prog 285 BJ [.t 2] 1:=Told.of Go.Proofs.Tryz.func285 (by decide +kernel)
theorem S9 : av Go.Proofs.Tryz.prog 285 = true:=by decide +kernel
theorem aah : Told Go.Proofs.Tryz.prog 286 kJ [.t 2,.t 3,.t 4] 1:=Told.of Go.Proofs.Tryz.func286 (by decide +kernel)
theorem Ta : av Go.Proofs.Tryz.prog 286 = true:=by decide +kernel
theorem aai : Told Go.Proofs.Tryz.prog 287 zz [.t 4] 2:=Told.of Go.Proofs.Tryz.func287 (by decide +kernel)
theorem Tb : av Go.Proofs.Tryz.prog 287 = true:=by decide +kernel
theorem aaj : Told Go.Proofs.Tryz.prog 288 p7 [.c 2 4 true 83,.t 3] 1:=Told.of Go.Proofs.Tryz.func288 (by decide +kernel)
theorem Tc : av Go.Proofs.Tryz.prog 288 = true:=by decide +kernel
theorem aak : Told Go.Proofs.Tryz.prog 289 rQ [] 2:=Told.of Go.Proofs.Tryz.func289 (by decide +kernel)
theorem Td : av Go.Proofs.Tryz.prog 289 = true:=by decide +kernel
theorem aal : Told Go.Proofs.Tryz.prog 290 lD [.c 2 7 true 61,.t 3] 1:=Told.of Go.Proofs.Tryz.func290 (by decide +kernel)
theorem Te : av Go.Proofs.Tryz.prog 290 = true:=by decide +kernel
theorem aam : Told Go.Proofs.Tryz.prog 291 Cg [] 2:=Told.of Go.Proofs.Tryz.func291 (by decide +kernel)
theorem Tf : av Go.Proofs.Tryz.prog 291 = true:=by decide +kernel
theorem aan : Told Go.Proofs.Tryz.prog 292 zG [.t 4] 2:=Told.of Go.Proofs.Tryz.func292 (by decide +kernel)
theorem Tg : av Go.Proofs.Tryz.prog 292 = true:=by decide +kernel
theorem aao : Told Go.Proofs.Tryz.prog 293 Cd [.t 4] 2:=Told.of Go.Proofs.Tryz.func293 (by decide +kernel)
theorem Th : av Go.Proofs.Tryz.prog 293 = true:=by decide +kernel
theorem aap : Told Go.Proofs.Tryz.prog 294 zA [.t 2] 1:=Told.of Go.Proofs.Tryz.func294 (by decide +kernel)
theorem Ti : av Go.Proofs.Tryz.prog 294 = true:=by decide +kernel
theorem aaq : Told Go.Proofs.Tryz.prog 296 zS [.t 4] 2:=Told.of Go.Proofs.Tryz.func296 (by decide +kernel)
theorem Tj : av Go.Proofs.Tryz.prog 296 = true:=by decide +kernel
theorem aar : Told Go.Proofs.Tryz.prog 297 zJ [.t 2] 1:=Told.of Go.Proofs.Tryz.func297 (by decide +kernel)
theorem Tl : av Go.Proofs.Tryz.prog 297 = true:=by decide +kernel
theorem aas : Told Go.Proofs.Tryz.prog 299 zE [.t 2] 1:=Told.of Go.Proofs.Tryz.func299 (by decide +kernel)
theorem Tm : av Go.Proofs.Tryz.prog 299 = true:=by decide +kernel
theorem aat : Told Go.Proofs.Tryz.prog 305 zO [.t 4] 2:=Told.of Go.Proofs.Tryz.func305 (by decide +kernel)
theorem Tn : av Go.Proofs.Tryz.prog 305 = true:=by decide +kernel
theorem aau : Told Go.Proofs.Tryz.prog 306 zM [.t 2] 1:=Told.of Go.Proofs.Tryz.func306 (by decide +kernel)
theorem To : av Go.Proofs.Tryz.prog 306 = true:=by decide +kernel
theorem aav : Told Go.Proofs.Tryz.prog 309 zW [.t 2] 1:=Told.of Go.Proofs.Tryz.func309 (by decide +kernel)
theorem Tp : av Go.Proofs.Tryz.prog 309 = true:=by decide +kernel
theorem aaw : Told Go.Proofs.Tryz.prog 315 Ce [.t 2] 1:=Told.of Go.Proofs.Tryz.func315 (by decide +kernel)
theorem Tq : av Go.Proofs.Tryz.prog 315 = true:=by decide +kernel
theorem aax : Told Go.Proofs.Tryz.prog 318 lE [.c 2 3 true 59,.t 3] 1:=Told.of Go.Proofs.Tryz.func318 (by decide +kernel)
theorem Ts : av Go.Proofs.Tryz.prog 318 = true:=by decide +kernel
theorem aay : Told Go.Proofs.Tryz.prog 319 Cj [] 3:=Told.of Go.Proofs.Tryz.func319 (by decide +kernel)
theorem Tt : av Go.Proofs.Tryz.prog 319 = true:=by decide +kernel
theorem aaz : Told Go.Proofs.Tryz.prog 320 xS [.t 4] 2:=Told.of Go.Proofs.Tryz.func320 (by decide +kernel)
theorem Tu : av Go.Proofs.Tryz.prog 320 = true:=by decide +kernel
theorem aaA : Told Go.Proofs.Tryz.prog 321 zR [.t 3] 2:=Told.of Go.Proofs.Tryz.func321 (by decide +kernel)
theorem Tv : av Go.Proofs.Tryz.prog 321 = true:=by decide +kernel
theorem aaB : Told Go.Proofs.Tryz.prog 332 oq [.t 2,.t 3,.t 4,.t 5] 1:=Told.of Go.Proofs.Tryz.func332 (by decide +kernel)
theorem Tw : av Go.Proofs.Tryz.prog 332 = true:=by decide +kernel
theorem aaC : Told Go.Proofs.Tryz.prog 333 xV [] 4:=Told.of Go.Proofs.Tryz.func333 (by decide +kernel)
theorem Tx : av Go.Proofs.Tryz.prog 333 = true:=by decide +kernel
theorem aaD : Told Go.Proofs.Tryz.prog 334 MG [] 5:=Told.of Go.Proofs.Tryz.func334 (by decide +kernel)
theorem Tz : av Go.Proofs.Tryz.prog 334 = true:=by decide +kernel
theorem aaE : Told Go.Proofs.Tryz.prog 354 Mw [] 5:=Told.of Go.Proofs.Tryz.func354 (by decide +kernel)
theorem TA : av Go.Proofs.Tryz.prog 354 = true:=by decide +kernel
theorem aaG : Told Go.Proofs.Tryz.prog 375 Mz [] 5:=Told.of Go.Proofs.Tryz.func375 (by decide +kernel)
theorem TC : av Go.Proofs.Tryz.prog 375 = true:=by decide +kernel
theorem ZQ : Told Go.Proofs.Tryz.prog 226 (tU 2 24) [.t 2] 1:=Told.of Go.Proofs.Tryz.func226 (by decide +kernel)
theorem ZP : Told Go.Proofs.Tryz.prog 225 (tU 1 16) [.t 2] 1:=Told.of Go.Proofs.Tryz.func225 (by decide +kernel)
theorem abJ : TT.Ok Go.Proofs.Tryz.prog:=by
  refine ⟨fun f F h=>?_,fun f F h=>?_⟩
  · unfold TT at h
    split at h
    · cases h; exact YF
    · cases h; exact ZT
    · cases h; exact ZV
    · cases h; exact Z9
    · cases h; exact aaF
    · cases h; exact aaH
    · cases h; exact aaI
    · cases h; exact aaJ
    · cases h; exact aaK
    · cases h; exact aaL
    · cases h; exact aaM
    · cases h; exact aaN
    · cases h; exact aaO
    · cases h; exact aaP
    · cases h; exact aaQ
    · cases h; exact aaR
    · cases h; exact aaS
    · cases h; exact aaT
    · cases h; exact aaU
    · cases h; exact aaV
    · cases h; exact aaW
    · cases h; exact aaX
    · cases h; exact aaY
    · cases h; exact aaZ
    · cases h; exact aa0
    · cases h; exact aa1
    · cases h; exact aa2
    · cases h; exact YG
    · cases h; exact YH
    · cases h; exact YI
    · cases h; exact YJ
    · cases h; exact YK
    · cases h; exact YL
    · cases h; exact YM
    · cases h; exact YN
    · cases h; exact YO
    · cases h; exact YP
    · cases h; exact YQ
    · cases h; exact YR
    · cases h; exact YS
    · cases h; exact YT
    · cases h; exact YU
    · cases h; exact YV
    · cases h; exact YW
    · cases h; exact YX
    · cases h; exact YY
    · cases h; exact YZ
    · cases h; exact Y0
    · cases h; exact Y1
    · cases h; exact Y2
    · cases h; exact Y3
    · cases h; exact Y4
    · cases h; exact Y5
    · cases h; exact Y6
    · cases h; exact Y7
    · cases h; exact Y8
    · cases h; exact Y9
    · cases h; exact Za
    · cases h; exact Zb
    · cases h; exact Zc
    · cases h; exact Zd
    · cases h; exact Ze
    · cases h; exact Zg
    · cases h; exact Zh
    · cases h; exact Zi
    · cases h; exact Zj
    · cases h; exact Zk
    · cases h; exact Zl
    · cases h; exact Zm
    · cases h; exact Zn
    · cases h; exact Zo
    · cases h; exact Zp
    · cases h; exact Zq
    · cases h; exact Zr
    · cases h; exact Zs
    · cases h; exact Zt
    · cases h; exact Zu
    · cases h; exact Zv
    · cases h; exact Zw
    · cases h; exact Zx
    · cases h; exact Zy
    · cases h; exact Zz
    · cases h; exact ZA
    · cases h; exact ZB
    · cases h; exact ZC
    · cases h; exact ZD
    · cases h; exact ZE
    · cases h; exact ZF
    · cases h; exact ZG
    · cases h; exact ZH
    · cases h; exact ZI
    · cases h; exact ZJ
    · cases h; exact ZK
    · cases h; exact ZL
    · cases h; exact ZM
    · cases h; exact ZN
    · cases h; exact ZO
    · cases h; exact ZR
    · cases h; exact ZS
    · cases h; exact ZU
    · cases h; exact ZW
    · cases h; exact ZX
    · cases h; exact ZY
    · cases h; exact ZZ
    · cases h; exact Z0
    · cases h; exact Z1
    · cases h; exact Z2
    · cases h; exact Z3
    · cases h; exact Z4
    · cases h; exact Z5
    · cases h; exact Z6
    · cases h; exact Z7
    · cases h; exact Z8
    · cases h; exact aac
    · cases h; exact aad
    · cases h; exact aae
    · cases h; exact aaf
    · cases h; exact aag
    · cases h; exact aah
    · cases h; exact aai
    · cases h; exact aaj
    · cases h; exact aak
    · cases h; exact aal
    · cases h; exact aam
    · cases h; exact aan
    · cases h; exact aao
    · cases h; exact aap
    · cases h; exact aaq
    · cases h; exact aar
    · cases h; exact aas
    · cases h; exact aat
    · cases h; exact aau
    · cases h; exact aav
    · cases h; exact aaw
    · cases h; exact aax
    · cases h; exact aay
    · cases h; exact aaz
    · cases h; exact aaA
    · cases h; exact aaB
    · cases h; exact aaC
    · cases h; exact aaD
    · cases h; exact aaE
    · cases h; exact aaG
    · cases h
  · unfold TT at h
    split at h
    · cases h; exact Rr
    · cases h; exact SN
    · cases h; exact SP
    · cases h; exact S4
    · cases h; exact TB
    · cases h; exact TD
    · cases h; exact TE
    · cases h; exact TF
    · cases h; exact TG
    · cases h; exact TH
    · cases h; exact TI
    · cases h; exact TJ
    · cases h; exact TK
    · cases h; exact TL
    · cases h; exact TM
    · cases h; exact TN
    · cases h; exact TO
    · cases h; exact TP
    · cases h; exact TQ
    · cases h; exact TR
    · cases h; exact TS
    · cases h; exact TU
    · cases h; exact TV
    · cases h; exact TW
    · cases h; exact TX
    · cases h; exact TY
    · cases h; exact TZ
    · cases h; exact Rs
    · cases h; exact Rt
    · cases h; exact Ru
    · cases h; exact Rv
    · cases h; exact Rw
    · cases h; exact Rx
    · cases h; exact Ry
    · cases h; exact Rz
    · cases h; exact RA
    · cases h; exact RB
    · cases h; exact RC
    · cases h; exact RD
    · cases h; exact RE
    · cases h; exact RF
    · cases h; exact RG
    · cases h; exact RH
    · cases h; exact RI
    · cases h; exact RJ
    · cases h; exact RL
    · cases h; exact RM
    · cases h; exact RN
    · cases h; exact RO
    · cases h; exact RP
    · cases h; exact RQ
    · cases h; exact RR
    · cases h; exact RS
    · cases h; exact RT
    · cases h; exact RU
    · cases h; exact RW
    · cases h; exact RX
    · cases h; exact RY
    · cases h; exact RZ
    · cases h; exact R2
    · cases h; exact R3
    · cases h; exact R4
    · cases h; exact R5
    · cases h; exact R6
    · cases h; exact R7
    · cases h; exact R8
    · cases h; exact R9
    · cases h; exact Sa
    · cases h; exact Sb
    · cases h; exact Sc
    · cases h; exact Sd
    · cases h; exact Sf
    · cases h; exact Sg
    · cases h; exact Si
    · cases h; exact Sj
    · cases h; exact Sk
    · cases h; exact Sl
    · cases h; exact Sm
    · cases h; exact Sn
    · cases h; exact Sq
    · cases h; exact Sr
    · cases h; exact Ss
    · cases h; exact Su
    · cases h; exact Sv
    · cases h; exact Sw
    · cases h; exact Sy
    · cases h; exact Sz
    · cases h; exact SA
    · cases h; exact SB
    · cases h; exact SC
    · cases h; exact SE
    · cases h; exact SF
    · cases h; exact SG
    · cases h; exact SH
    · cases h; exact SI
    · cases h; exact SJ
    · cases h; exact SK
    · cases h; exact SL
    · cases h; exact SM
    · cases h; exact SO
    · cases h; exact SQ
    · cases h; exact SR
    · cases h; exact SS
    · cases h; exact SU
    · cases h; exact SV
    · cases h; exact SW
    · cases h; exact SX
    · cases h; exact SY
    · cases h; exact SZ
    · cases h; exact S0
    · cases h; exact S1
    · cases h; exact S2
    · cases h; exact S3
    · cases h; exact S5
    · cases h; exact S6
    · cases h; exact S7
    · cases h; exact S8
    · cases h; exact S9
    · cases h; exact Ta
    · cases h; exact Tb
    · cases h; exact Tc
    · cases h; exact Td
    · cases h; exact Te
    · cases h; exact Tf
    · cases h; exact Tg
    · cases h; exact Th
    · cases h; exact Ti
    · cases h; exact Tj
    · cases h; exact Tl
    · cases h; exact Tm
    · cases h; exact Tn
    · cases h; exact To
    · cases h; exact Tp
    · cases h; exact Tq
    · cases h; exact Ts
    · cases h; exact Tt
    · cases h; exact Tu
    · cases h; exact Tv
    · cases h; exact Tw
    · cases h; exact Tx
    · cases h; exact Tz
    · cases h; exact TA
    · cases h; exact TC
    · cases h
theorem abH (htab : Lib.TabIs Go.Proofs.Tryz.prog Bs.W0 "internal/strconv.uint64pow10" .u64 Lib.pow10Tab) (hmax : ∃ m,Bs.W0.cell? ⟨1,0,none⟩ = some (.int .i64 m)) (Dy : ∃ te pe,Bs.W0.var? Go.Proofs.Tryz.prog "strconv.ErrSyntax" = some #[.iface te pe]) (iN : ∃ te pe,Bs.W0.var? Go.Proofs.Tryz.prog "strconv.ErrRange" = some #[.iface te pe]) : LI.Sound Go.Proofs.Tryz.prog:=(oH (Rl fun A cap fs w h1 h2 h3=>Go.Proofs.T6 A cap fs w h1 h2 h3) (oH (Wp fun s w hw hs=>Go.Proofs.Wk htab Dy iN s w hw hs) (oH (HR ZQ) (oH (HR ZP) (oH (Vp htab fun n h0 h1 w ht=>Go.Proofs.Tryz.strconv_Itoa n h0 h1 w ht) (oH (Q0 (g1:=1) hmax fun s sep m w h1 h2=>Go.Proofs.Tryz.strings_Cut s sep m w h1 h2) (oH (Us fun s p w=>Go.Proofs.Tryz.strings_HasPrefix s p w) (oH (Yh (g1:=1) (t9:=_) hmax fun s sep m w h1 h2 h3=>Go.Proofs.Tryz.strings_Split s sep m w h1 h2 h3) (aa3 fun s c h w hs=>Go.Proofs.Tryz.strings_Trim_one s c h w hs)))))))))
end M
