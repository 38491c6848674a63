/- Each function of the table is the program's, and the library is as it is said to be; no conditions. -/
import Derived.Test.YtkpkgfollnfhcaaGreatDoorProg
import Derived.Test.YtkpkgfollnfhcaaGreatDoorLay
import Derived.Test.YtkpkgfollnfhcaaGreatDoorTab
import Derived.Test.YtkpkgfollnfhcaaGreatDoorMc
import Derived.WalkKit
import Derived.Lib.FrozenHead
import Derived.Lib.OthersKept
import Derived.Lib.Builder
set_option linter.unusedSectionVars false
set_option linter.unusedVariables false
set_option linter.unusedSimpArgs false
set_option maxRecDepth 100000
namespace Go.Proofs
open Go.RowKit
set_option maxHeartbeats 2000000 in
set_option maxRecDepth 100000 in
theorem Ku (b : Nat) (w : World) (h0 : w.cell? ⟨b,0,none⟩ = some (.pointer (some ⟨b,0,none⟩))) :
  Calls Tryz.prog 349 #[.pointer (some ⟨b,0,none⟩)] w fun e w'=>e = .returned (.tuple #[])∧w' = w:=by
 obtain ⟨j,hj,wo⟩:=Option.map_eq_some_iff.1 (show (Tryz.prog.info? 321).map (·.size) = some 2 by kernel_rfl)
 go_enter Tryz.func349,Tryz.ntmps349
 go_wp2
 rw [Lib.run_neq_ptr_same w _ Tryz.underlying319 hj]
 go_wp2
 go_end0
 exact ⟨rfl,rfl⟩
set_option maxHeartbeats 2000000 in
set_option maxRecDepth 100000 in
theorem Kt (b : Nat) (w : World) (h0 : w.cell? ⟨b,0,none⟩ = some (.pointer none)) (hsh : w.shape? b = some (321,2)) (hfz : w.frozen? ⟨b,0,none⟩ = false) :
  Calls Tryz.prog 349 #[.pointer (some ⟨b,0,none⟩)] w fun e w'=>e = .returned (.tuple #[])∧w' = w.setCell ⟨b,0,none⟩ (.pointer (some ⟨b,0,none⟩)):=by
 obtain ⟨j,hj,wo⟩:=Option.map_eq_some_iff.1 (show (Tryz.prog.info? 321).map (·.size) = some 2 by kernel_rfl)
 go_enter Tryz.func349,Tryz.ntmps349
 go_wp2
 rw [Lib.run_to_unsafe w ⟨b,0,none⟩ Tryz.underlying319 Tryz.underlying359 hj (by rw [wo]; decide) hsh (Nat.zero_lt_succ 1)]
 simp only [Result.andThen]
 rw [Oper.upon_value]
 go_wp2
 rw [run_callFunc_extern Tryz.func368 (by kernel_rfl) (by kernel_rfl) (by kernel_rfl) (e:=Extern.AbiNoEscape.same) (by kernel_rfl)]
 rw [Lib.run_noEscape]
 simp only [Result.andThen]
 rw [Oper.upon_value]
 go_wp2
 rw [Lib.run_from_unsafe w ⟨b,0,none⟩ Tryz.underlying359 Tryz.underlying319 hj hsh (by kernel_rfl)]
 simp only [Result.andThen]
 rw [Oper.upon_value]
 go_wp2
 go_end0
 exact ⟨rfl,rfl⟩
theorem Ks (B b : Nat) (bs : List Value) (w : World) (h : Lib.IsBuilderF 321 5 B b bs w) :
  Calls Tryz.prog 349 #[.pointer (some ⟨b,0,none⟩)] w fun e w'=>e = .returned (.tuple #[])∧(Lib.BuilderAtF 321 5 B b (.pointer (some ⟨b,0,none⟩)) bs w'∧Below B w w'):=by
 rcases h with h | h
 ·refine (Kt b w h.cell0 h.shape h.frozen0).mono ?_
  rintro e w' ⟨rfl,rfl⟩
  exact ⟨rfl,h.used _,(Below.refl B w).setCell (p:=⟨b,0,none⟩) h.1 _⟩
 ·refine (Ku b w h.cell0).mono ?_
  rintro e w' ⟨rfl,rfl⟩
  exact ⟨rfl,h,Below.refl B _⟩
set_option maxHeartbeats 2000000 in
set_option maxRecDepth 100000 in
theorem Kv (B b : Nat) (bs : List Value) (s : ByteArray) (w : World) (h : Lib.IsBuilderF 321 5 B b bs w) (hlen : bs.length + s.size≤140737488355328) (hBw : B≤w.heap.size) :
  Calls Tryz.prog 327 #[.pointer (some ⟨b,0,none⟩),.string s] w fun e w'=>e = .returned (.tuple #[.int .i64 s.size,.nilIface])∧(Lib.BuilderAtF 321 5 B b (.pointer (some ⟨b,0,none⟩)) (bs ++ Lib.strCells s) w'∧Below B w w'):=by
 obtain ⟨i0,hi,hz0,hz1,hz2⟩:=info_parts (P:=Tryz.prog) (e:=5) (z:=.int .u8 0) (size:=1) (bytes:=1) (by kernel_rfl)
 go_enter Tryz.func327,Tryz.ntmps327
 go_wp2_with (go_at_call 349; refine (Ks B b bs _ h).mono ?_)
 rintro e w1 ⟨rfl,h1,dU⟩
 obtain ⟨hB,v,hbk,hown,hne⟩:=h1
 have c0 : w1.cell? ⟨b,0,none⟩ = some (.pointer (some ⟨b,0,none⟩)):=by rw [Lib.cell_of_heap hbk]; rfl
 have c1 : w1.cell? ⟨b,1,none⟩ = some v:=by rw [Lib.cell_of_heap hbk]; rfl
 go_wp2_with (at_builtin; refine Lib.wpList_append_own_stringF _ rfl _ _ 270 9 rfl B 5 i0 Tryz.underlying270 Tryz.underlying9 hi hz0 hz1 hz2 _ _ _ rfl hown s rfl ?c3 ?c4 ?c5 ?_)
 case c3=>unfold maxLen; omega
 case c4=>omega
 case c5=>have:=dU.size; omega
 intro v' w2 Gn hgrow _
 have hlt : b < w1.heap.size:=by
  rcases Nat.lt_or_ge b w1.heap.size with h' | h'
  ·exact h'
  ·simp [Array.getElem?_eq_none h'] at hbk
 have fX : w2.heap[b]? = some (.cells #[.pointer (some ⟨b,0,none⟩),v] 321 (0,0)):=by
  rw [hgrow.block b hlt (fun e=>hne e.symm)]
  exact hbk
 have d0 : w2.cell? ⟨b,0,none⟩ = some (.pointer (some ⟨b,0,none⟩)):=by rw [Lib.cell_of_heap fX]; rfl
 have d1 : w2.cell? ⟨b,1,none⟩ = some v:=by rw [Lib.cell_of_heap fX]; rfl
 have f1 : w2.frozen? ⟨b,1,none⟩ = false:=Lib.frozen_of_heap fX 1
 obtain ⟨ao,n',cap,rfl⟩ : ∃ ao n' cap,v' = .slice ao n' cap:=by
  rcases Gn.2 with ⟨hv,_⟩ | ⟨g,cap,cur,fz,hv,_⟩
  ·exact ⟨_,_,_,hv⟩
  ·exact ⟨_,_,_,hv⟩
 go_wp2
 go_ret2
 refine ⟨rfl,?_,?_⟩
 ·exact Lib.BuilderAtF.put (T:=321) (e:=5) hB fX (bs':=bs ++ Lib.strCells s) (by simpa [Lib.strCells_length] using Gn) (by decide)
 ·exact (dU.grown hgrow (by have:=dU.size; omega) (fun k hk=>(hown.lt k hk).1)).setCell (p:=⟨b,1,none⟩) hB _
set_option maxHeartbeats 4000000 in
set_option maxRecDepth 1000000 in
theorem PW (A : Option Addr) (cap : Nat) (fs : List (ByteArray×ByteArray)) (w : World)
  (hc : ∀ i f,fs[i]? = some f→∃ g o,A = some ⟨g,o,none⟩∧g < w.heap.size∧w.cell? ⟨g,o + i * 2,none⟩ = some (.string f.1)∧w.cell? ⟨g,o + i * 2 + 1,none⟩ = some (.string f.2))
  (hb : (M.fD fs).length≤140737488355328) (hl : fs.length≤140737488355328) :
  Calls Tryz.prog 308 #[.slice A fs.length cap] w fun e w'=>e = .returned (.string ⟨(M.fD fs).toArray⟩)∧Below w.heap.size w w':=by
 go_enter Tryz.func308,Tryz.ntmps308
 go_wp2
 go_loopw [8] (fun vi wr=>∃ k : Nat,vi = .int .i64 k∧k≤fs.length∧Lib.IsBuilderF 321 5 w.heap.size w.heap.size (Lib.byteCells (M.fD (fs.take k))) wr∧Below w.heap.size w wr) (fun vi _=>fs.length - (intOf vi).toNat)
 case atStart =>
  exact ⟨0,rfl,Nat.zero_le _,Lib.IsBuilderF.of (Lib.fresh_isBuilder 321 5 w),(Below.refl _ w).alloc (Nat.le_refl _) _⟩
 case round =>
  obtain ⟨k,rfl,hk,hI,ri⟩:=hrel
  have hsz : w.heap.size≤wr.heap.size:=ri.size
  by_cases hlt : k < fs.length
  ·obtain ⟨g,o,rfl,hg,hk1⟩:=hc k fs[k] (by simp [hlt])
   have c1 : wr.cell? ⟨g,o + k * 2,none⟩ = some (.string fs[k].1):=by rw [ri.cell (p:=⟨g,o + k * 2,none⟩) hg]; exact hk1.1
   have c2 : wr.cell? ⟨g,o + k * 2 + 1,none⟩ = some (.string fs[k].2):=by rw [ri.cell (p:=⟨g,o + k * 2 + 1,none⟩) hg]; exact hk1.2
   have hlt2 : (k : Int) < fs.length:=by omega
   have hle:=M.PX hlt
   have htk:=M.FR hlt
   have s1 : ¬ 9223372036854775807 < fs[k].1.size + 2:=by omega
   have s2 : ¬ 9223372036854775807 < fs[k].1.size + 2 + fs[k].2.size:=by omega
   have s3 : ¬ 9223372036854775807 < fs[k].1.size + 2 + fs[k].2.size + 2:=by omega
   go_wp2_with (go_at_call 327; refine (Kv w.heap.size w.heap.size _ _ _ (hI.alloc _) ?_ ?_).mono ?_)
   ·rw [Lib.byteCells_length]
    simp only [ByteArray.size_append]
    have e1 : (⟨#[58,32]⟩ : ByteArray).size = 2:=rfl
    have e2 : (⟨#[13,10]⟩ : ByteArray).size = 2:=rfl
    omega
   ·simp only [World.alloc]
    simp
    omega
   rintro e W1 ⟨rfl,h1,b1⟩
   go_wp2
   go_roundw
   case rel =>
    refine ⟨k + 1,by go_num,by omega,?_,(ri.alloc hsz _).trans b1⟩
    rw [htk,Lib.byteCells_append]
    refine Or.inr ?_
    have e : Lib.strCells (fs[k].1 ++ ⟨#[58,32]⟩ ++ fs[k].2 ++ ⟨#[13,10]⟩) = Lib.byteCells (fs[k].1.data.toList ++ [58,32] ++ fs[k].2.data.toList ++ [13,10]):=by
     rw [Lib.strCells_eq]
     congr 1
    rw [← e]
    exact h1
   case measure =>
    simp [intOf]
    omega
  ·have hlt2 : ¬ (k : Int) < fs.length:=by omega
   go_wp2_with (go_at_call 328; refine (Tryz.Builder_String_any_f w.heap.size w.heap.size _ _ hI hsz).mono ?_)
   rintro e W1 rfl h2 b1
   clear h2
   go_wp2
   go_ret
   have : k = fs.length:=by omega
   subst this
   rw [List.take_length]
   exact ⟨rfl,ri.trans b1⟩
end Go.Proofs
namespace M
open Go
variable [Bs]
theorem We : Told Go.Proofs.Tryz.prog 8 pg [.t 4] 2:=Told.of Go.Proofs.Tryz.func8 (by decide +kernel)
theorem Px : av Go.Proofs.Tryz.prog 8 = true:=by decide +kernel
theorem UK : Told Go.Proofs.Tryz.prog 18 nT [.t 4] 2:=Told.of Go.Proofs.Tryz.func18 (by decide +kernel)
theorem NY : av Go.Proofs.Tryz.prog 18 = true:=by decide +kernel
theorem Vc : Told Go.Proofs.Tryz.prog 21 xV [.c 2 6 true 43] 1:=Told.of Go.Proofs.Tryz.func21 (by decide +kernel)
theorem Ou : av Go.Proofs.Tryz.prog 21 = true:=by decide +kernel
theorem Vl : Told Go.Proofs.Tryz.prog 24 kO [.t 4] 2:=Told.of Go.Proofs.Tryz.func24 (by decide +kernel)
theorem OB : av Go.Proofs.Tryz.prog 24 = true:=by decide +kernel
theorem Vo : Told Go.Proofs.Tryz.prog 25 kP [.t 4] 2:=Told.of Go.Proofs.Tryz.func25 (by decide +kernel)
theorem OE : av Go.Proofs.Tryz.prog 25 = true:=by decide +kernel
theorem VD : Told Go.Proofs.Tryz.prog 27 xH [.t 4] 2:=Told.of Go.Proofs.Tryz.func27 (by decide +kernel)
theorem OU : av Go.Proofs.Tryz.prog 27 = true:=by decide +kernel
theorem VH : Told Go.Proofs.Tryz.prog 29 xF [.t 4] 2:=Told.of Go.Proofs.Tryz.func29 (by decide +kernel)
theorem OY : av Go.Proofs.Tryz.prog 29 = true:=by decide +kernel
theorem VS : Told Go.Proofs.Tryz.prog 33 pF [.t 4] 2:=Told.of Go.Proofs.Tryz.func33 (by decide +kernel)
theorem O8 : av Go.Proofs.Tryz.prog 33 = true:=by decide +kernel
theorem VT : Told Go.Proofs.Tryz.prog 35 xN [.c 2 4 true 83] 1:=Told.of Go.Proofs.Tryz.func35 (by decide +kernel)
theorem O9 : av Go.Proofs.Tryz.prog 35 = true:=by decide +kernel
theorem VU : Told Go.Proofs.Tryz.prog 37 xx [.t 4] 2:=Told.of Go.Proofs.Tryz.func37 (by decide +kernel)
theorem Pa : av Go.Proofs.Tryz.prog 37 = true:=by decide +kernel
theorem VV : Told Go.Proofs.Tryz.prog 38 mA [.t 4] 2:=Told.of Go.Proofs.Tryz.func38 (by decide +kernel)
theorem Pb : av Go.Proofs.Tryz.prog 38 = true:=by decide +kernel
theorem VW : Told Go.Proofs.Tryz.prog 39 ld [.c 4 6 true 43,.t 5] 2:=Told.of Go.Proofs.Tryz.func39 (by decide +kernel)
theorem Pc : av Go.Proofs.Tryz.prog 39 = true:=by decide +kernel
theorem VX : Told Go.Proofs.Tryz.prog 40 xT [.c 2 7 true 61] 1:=Told.of Go.Proofs.Tryz.func40 (by decide +kernel)
theorem Pd : av Go.Proofs.Tryz.prog 40 = true:=by decide +kernel
theorem VY : Told Go.Proofs.Tryz.prog 41 rZ [.c 4 6 true 43,.t 5] 2:=Told.of Go.Proofs.Tryz.func41 (by decide +kernel)
theorem Pe : av Go.Proofs.Tryz.prog 41 = true:=by decide +kernel
theorem VZ : Told Go.Proofs.Tryz.prog 44 pG [.t 4] 2:=Told.of Go.Proofs.Tryz.func44 (by decide +kernel)
theorem Pf : av Go.Proofs.Tryz.prog 44 = true:=by decide +kernel
theorem V0 : Told Go.Proofs.Tryz.prog 46 xO [.c 2 2 true 39] 1:=Told.of Go.Proofs.Tryz.func46 (by decide +kernel)
theorem Pg : av Go.Proofs.Tryz.prog 46 = true:=by decide +kernel
theorem V1 : Told Go.Proofs.Tryz.prog 48 pn [.t 4] 2:=Told.of Go.Proofs.Tryz.func48 (by decide +kernel)
theorem Ph : av Go.Proofs.Tryz.prog 48 = true:=by decide +kernel
theorem V2 : Told Go.Proofs.Tryz.prog 49 xC [.t 4] 2:=Told.of Go.Proofs.Tryz.func49 (by decide +kernel)
theorem Pj : av Go.Proofs.Tryz.prog 49 = true:=by decide +kernel
theorem V3 : Told Go.Proofs.Tryz.prog 56 yw [.t 4] 2:=Told.of Go.Proofs.Tryz.func56 (by decide +kernel)
theorem Pk : av Go.Proofs.Tryz.prog 56 = true:=by decide +kernel
theorem V4 : Told Go.Proofs.Tryz.prog 61 wH [.t 4] 2:=Told.of Go.Proofs.Tryz.func61 (by decide +kernel)
theorem Pm : av Go.Proofs.Tryz.prog 61 = true:=by decide +kernel
theorem V5 : Told Go.Proofs.Tryz.prog 67 pJ [.t 4] 2:=Told.of Go.Proofs.Tryz.func67 (by decide +kernel)
theorem Pn : av Go.Proofs.Tryz.prog 67 = true:=by decide +kernel
theorem V6 : Told Go.Proofs.Tryz.prog 68 pE [.t 4] 2:=Told.of Go.Proofs.Tryz.func68 (by decide +kernel)
theorem Po : av Go.Proofs.Tryz.prog 68 = true:=by decide +kernel
theorem V7 : Told Go.Proofs.Tryz.prog 69 pH [.t 4] 2:=Told.of Go.Proofs.Tryz.func69 (by decide +kernel)
theorem Pp : av Go.Proofs.Tryz.prog 69 = true:=by decide +kernel
theorem V8 : Told Go.Proofs.Tryz.prog 73 xR [.t 2] 1:=Told.of Go.Proofs.Tryz.func73 (by decide +kernel)
theorem Pq : av Go.Proofs.Tryz.prog 73 = true:=by decide +kernel
theorem V9 : Told Go.Proofs.Tryz.prog 74 xM [.t 2] 1:=Told.of Go.Proofs.Tryz.func74 (by decide +kernel)
theorem Pr : av Go.Proofs.Tryz.prog 74 = true:=by decide +kernel
theorem Wa : Told Go.Proofs.Tryz.prog 75 xP [.t 2] 1:=Told.of Go.Proofs.Tryz.func75 (by decide +kernel)
theorem Pt : av Go.Proofs.Tryz.prog 75 = true:=by decide +kernel
theorem Wb : Told Go.Proofs.Tryz.prog 77 xm [.t 4] 2:=Told.of Go.Proofs.Tryz.func77 (by decide +kernel)
theorem Pu : av Go.Proofs.Tryz.prog 77 = true:=by decide +kernel
theorem Wc : Told Go.Proofs.Tryz.prog 78 nS [.t 4] 2:=Told.of Go.Proofs.Tryz.func78 (by decide +kernel)
theorem Pv : av Go.Proofs.Tryz.prog 78 = true:=by decide +kernel
theorem Wd : Told Go.Proofs.Tryz.prog 79 xl [.t 4] 2:=Told.of Go.Proofs.Tryz.func79 (by decide +kernel)
theorem Pw : av Go.Proofs.Tryz.prog 79 = true:=by decide +kernel
theorem Wf : Told Go.Proofs.Tryz.prog 80 xj [.t 4] 2:=Told.of Go.Proofs.Tryz.func80 (by decide +kernel)
theorem Py : av Go.Proofs.Tryz.prog 80 = true:=by decide +kernel
theorem Wg : Told Go.Proofs.Tryz.prog 81 xk [.t 4] 2:=Told.of Go.Proofs.Tryz.func81 (by decide +kernel)
theorem Pz : av Go.Proofs.Tryz.prog 81 = true:=by decide +kernel
theorem Wh : Told Go.Proofs.Tryz.prog 82 xE [.t 4] 2:=Told.of Go.Proofs.Tryz.func82 (by decide +kernel)
theorem PA : av Go.Proofs.Tryz.prog 82 = true:=by decide +kernel
theorem Wi : Told Go.Proofs.Tryz.prog 83 xB [.t 4] 2:=Told.of Go.Proofs.Tryz.func83 (by decide +kernel)
theorem PB : av Go.Proofs.Tryz.prog 83 = true:=by decide +kernel
theorem Wj : Told Go.Proofs.Tryz.prog 84 xD [.t 4] 2:=Told.of Go.Proofs.Tryz.func84 (by decide +kernel)
theorem PC : av Go.Proofs.Tryz.prog 84 = true:=by decide +kernel
theorem Wk : Told Go.Proofs.Tryz.prog 85 xI [.t 4] 2:=Told.of Go.Proofs.Tryz.func85 (by decide +kernel)
theorem PD : av Go.Proofs.Tryz.prog 85 = true:=by decide +kernel
theorem Wl : Told Go.Proofs.Tryz.prog 86 xG [.t 4] 2:=Told.of Go.Proofs.Tryz.func86 (by decide +kernel)
theorem PE : av Go.Proofs.Tryz.prog 86 = true:=by decide +kernel
theorem Wm : Told Go.Proofs.Tryz.prog 87 xy [.t 4] 2:=Told.of Go.Proofs.Tryz.func87 (by decide +kernel)
theorem PF : av Go.Proofs.Tryz.prog 87 = true:=by decide +kernel
theorem Wn : Told Go.Proofs.Tryz.prog 89 jY [.t 2] 1:=Told.of Go.Proofs.Tryz.func89 (by decide +kernel)
theorem PG : av Go.Proofs.Tryz.prog 89 = true:=by decide +kernel
theorem Wo : Told Go.Proofs.Tryz.prog 91 yG [.c 2 7 true 61] 1:=Told.of Go.Proofs.Tryz.func91 (by decide +kernel)
theorem PI : av Go.Proofs.Tryz.prog 91 = true:=by decide +kernel
theorem Wp : Told Go.Proofs.Tryz.prog 92 ji [.t 2] 1:=Told.of Go.Proofs.Tryz.func92 (by decide +kernel)
theorem PJ : av Go.Proofs.Tryz.prog 92 = true:=by decide +kernel
theorem Wq : Told Go.Proofs.Tryz.prog 94 kY [.t 2] 1:=Told.of Go.Proofs.Tryz.func94 (by decide +kernel)
theorem PK : av Go.Proofs.Tryz.prog 94 = true:=by decide +kernel
theorem Ws : Told Go.Proofs.Tryz.prog 95 yN [.c 2 6 true 43] 1:=Told.of Go.Proofs.Tryz.func95 (by decide +kernel)
theorem PL : av Go.Proofs.Tryz.prog 95 = true:=by decide +kernel
theorem Wt : Told Go.Proofs.Tryz.prog 96 uE [.c 6 6 true 43] 3:=Told.of Go.Proofs.Tryz.func96 (by decide +kernel)
theorem PN : av Go.Proofs.Tryz.prog 96 = true:=by decide +kernel
theorem Wu : Told Go.Proofs.Tryz.prog 97 qg [.t 4] 2:=Told.of Go.Proofs.Tryz.func97 (by decide +kernel)
theorem PO : av Go.Proofs.Tryz.prog 97 = true:=by decide +kernel
theorem Wv : Told Go.Proofs.Tryz.prog 99 yu [.c 2 2 true 39] 1:=Told.of Go.Proofs.Tryz.func99 (by decide +kernel)
theorem PR : av Go.Proofs.Tryz.prog 99 = true:=by decide +kernel
theorem T5 : Told Go.Proofs.Tryz.prog 100 wZ [.c 2 6 true 43] 1:=Told.of Go.Proofs.Tryz.func100 (by decide +kernel)
theorem Ng : av Go.Proofs.Tryz.prog 100 = true:=by decide +kernel
theorem T6 : Told Go.Proofs.Tryz.prog 102 xq [.t 4] 2:=Told.of Go.Proofs.Tryz.func102 (by decide +kernel)
theorem Nh : av Go.Proofs.Tryz.prog 102 = true:=by decide +kernel
theorem T7 : Told Go.Proofs.Tryz.prog 103 xw [.t 4] 2:=Told.of Go.Proofs.Tryz.func103 (by decide +kernel)
theorem Ni : av Go.Proofs.Tryz.prog 103 = true:=by decide +kernel
theorem T8 : Told Go.Proofs.Tryz.prog 104 xp [.t 4] 2:=Told.of Go.Proofs.Tryz.func104 (by decide +kernel)
theorem Nj : av Go.Proofs.Tryz.prog 104 = true:=by decide +kernel
theorem T9 : Told Go.Proofs.Tryz.prog 105 pM [.t 4] 2:=Told.of Go.Proofs.Tryz.func105 (by decide +kernel)
theorem Nk : av Go.Proofs.Tryz.prog 105 = true:=by decide +kernel
theorem Ua : Told Go.Proofs.Tryz.prog 106 pK [.t 4] 2:=Told.of Go.Proofs.Tryz.func106 (by decide +kernel)
theorem Nl : av Go.Proofs.Tryz.prog 106 = true:=by decide +kernel
theorem Ub : Told Go.Proofs.Tryz.prog 107 uf [.t 2] 1:=Told.of Go.Proofs.Tryz.func107 (by decide +kernel)
theorem Nn : av Go.Proofs.Tryz.prog 107 = true:=by decide +kernel
theorem Uc : Told Go.Proofs.Tryz.prog 108 iP [.t 2] 1:=Told.of Go.Proofs.Tryz.func108 (by decide +kernel)
theorem Np : av Go.Proofs.Tryz.prog 108 = true:=by decide +kernel
theorem Ud : Told Go.Proofs.Tryz.prog 109 qi [.t 4] 2:=Told.of Go.Proofs.Tryz.func109 (by decide +kernel)
theorem Nq : av Go.Proofs.Tryz.prog 109 = true:=by decide +kernel
theorem Ue : Told Go.Proofs.Tryz.prog 110 yM [.t 2] 1:=Told.of Go.Proofs.Tryz.func110 (by decide +kernel)
theorem Nr : av Go.Proofs.Tryz.prog 110 = true:=by decide +kernel
theorem Uf : Told Go.Proofs.Tryz.prog 111 xW [.t 2] 1:=Told.of Go.Proofs.Tryz.func111 (by decide +kernel)
theorem Ns : av Go.Proofs.Tryz.prog 111 = true:=by decide +kernel
theorem Ug : Told Go.Proofs.Tryz.prog 112 xU [.c 2 3 true 59] 1:=Told.of Go.Proofs.Tryz.func112 (by decide +kernel)
theorem Nt : av Go.Proofs.Tryz.prog 112 = true:=by decide +kernel
theorem Uh : Told Go.Proofs.Tryz.prog 113 mh [.t 4] 2:=Told.of Go.Proofs.Tryz.func113 (by decide +kernel)
theorem Nu : av Go.Proofs.Tryz.prog 113 = true:=by decide +kernel
theorem Ui : Told Go.Proofs.Tryz.prog 118 pN [.t 4] 2:=Told.of Go.Proofs.Tryz.func118 (by decide +kernel)
theorem Nv : av Go.Proofs.Tryz.prog 118 = true:=by decide +kernel
theorem Uj : Told Go.Proofs.Tryz.prog 119 yo [.t 2] 1:=Told.of Go.Proofs.Tryz.func119 (by decide +kernel)
theorem Nw : av Go.Proofs.Tryz.prog 119 = true:=by decide +kernel
theorem Uk : Told Go.Proofs.Tryz.prog 126 yH [.c 2 2 true 39] 1:=Told.of Go.Proofs.Tryz.func126 (by decide +kernel)
theorem Nx : av Go.Proofs.Tryz.prog 126 = true:=by decide +kernel
theorem Ul : Told Go.Proofs.Tryz.prog 127 xX [.t 2] 1:=Told.of Go.Proofs.Tryz.func127 (by decide +kernel)
theorem Ny : av Go.Proofs.Tryz.prog 127 = true:=by decide +kernel
theorem Um : Told Go.Proofs.Tryz.prog 128 wE [.t 2] 1:=Told.of Go.Proofs.Tryz.func128 (by decide +kernel)
theorem Nz : av Go.Proofs.Tryz.prog 128 = true:=by decide +kernel
theorem Un : Told Go.Proofs.Tryz.prog 131 wV [.c 2 2 true 39] 1:=Told.of Go.Proofs.Tryz.func131 (by decide +kernel)
theorem NA : av Go.Proofs.Tryz.prog 131 = true:=by decide +kernel
theorem Uo : Told Go.Proofs.Tryz.prog 132 xo [.t 4] 2:=Told.of Go.Proofs.Tryz.func132 (by decide +kernel)
theorem NB : av Go.Proofs.Tryz.prog 132 = true:=by decide +kernel
theorem Up : Told Go.Proofs.Tryz.prog 133 xK [.t 4] 2:=Told.of Go.Proofs.Tryz.func133 (by decide +kernel)
theorem NC : av Go.Proofs.Tryz.prog 133 = true:=by decide +kernel
theorem Uq : Told Go.Proofs.Tryz.prog 137 yZ [.t 6] 3:=Told.of Go.Proofs.Tryz.func137 (by decide +kernel)
theorem ND : av Go.Proofs.Tryz.prog 137 = true:=by decide +kernel
theorem Ur : Told Go.Proofs.Tryz.prog 139 ju [.t 4] 2:=Told.of Go.Proofs.Tryz.func139 (by decide +kernel)
theorem NF : av Go.Proofs.Tryz.prog 139 = true:=by decide +kernel
theorem Us : Told Go.Proofs.Tryz.prog 143 w9 [.t 2] 1:=Told.of Go.Proofs.Tryz.func143 (by decide +kernel)
theorem NG : av Go.Proofs.Tryz.prog 143 = true:=by decide +kernel
theorem Ut : Told Go.Proofs.Tryz.prog 145 kL [.t 4] 2:=Told.of Go.Proofs.Tryz.func145 (by decide +kernel)
theorem NH : av Go.Proofs.Tryz.prog 145 = true:=by decide +kernel
theorem Uu : Told Go.Proofs.Tryz.prog 158 s6 [.t 4] 2:=Told.of Go.Proofs.Tryz.func158 (by decide +kernel)
theorem NI : av Go.Proofs.Tryz.prog 158 = true:=by decide +kernel
theorem Uv : Told Go.Proofs.Tryz.prog 159 pI [.t 4] 2:=Told.of Go.Proofs.Tryz.func159 (by decide +kernel)
theorem NJ : av Go.Proofs.Tryz.prog 159 = true:=by decide +kernel
theorem Uw : Told Go.Proofs.Tryz.prog 160 og [.t 2] 1:=Told.of Go.Proofs.Tryz.func160 (by decide +kernel)
theorem NK : av Go.Proofs.Tryz.prog 160 = true:=by decide +kernel
theorem Ux : Told Go.Proofs.Tryz.prog 161 yq [.t 2] 1:=Told.of Go.Proofs.Tryz.func161 (by decide +kernel)
theorem NL : av Go.Proofs.Tryz.prog 161 = true:=by decide +kernel
theorem Uy : Told Go.Proofs.Tryz.prog 162 tZ [.t 4,.t 5] 2:=Told.of Go.Proofs.Tryz.func162 (by decide +kernel)
theorem NM : av Go.Proofs.Tryz.prog 162 = true:=by decide +kernel
theorem Uz : Told Go.Proofs.Tryz.prog 166 xS [.c 2 9 true 108] 1:=Told.of Go.Proofs.Tryz.func166 (by decide +kernel)
theorem NN : av Go.Proofs.Tryz.prog 166 = true:=by decide +kernel
theorem UA : Told Go.Proofs.Tryz.prog 167 xQ [.c 2 2 true 214] 1:=Told.of Go.Proofs.Tryz.func167 (by decide +kernel)
theorem NO : av Go.Proofs.Tryz.prog 167 = true:=by decide +kernel
theorem UB : Told Go.Proofs.Tryz.prog 169 nR [.t 4] 2:=Told.of Go.Proofs.Tryz.func169 (by decide +kernel)
theorem NP : av Go.Proofs.Tryz.prog 169 = true:=by decide +kernel
theorem UC : Told Go.Proofs.Tryz.prog 170 mz [.t 4] 2:=Told.of Go.Proofs.Tryz.func170 (by decide +kernel)
theorem NQ : av Go.Proofs.Tryz.prog 170 = true:=by decide +kernel
theorem UD : Told Go.Proofs.Tryz.prog 171 pq [.t 4] 2:=Told.of Go.Proofs.Tryz.func171 (by decide +kernel)
theorem NR : av Go.Proofs.Tryz.prog 171 = true:=by decide +kernel
theorem UE : Told Go.Proofs.Tryz.prog 172 sW [.t 2] 1:=Told.of Go.Proofs.Tryz.func172 (by decide +kernel)
theorem NS : av Go.Proofs.Tryz.prog 172 = true:=by decide +kernel
theorem UF : Told Go.Proofs.Tryz.prog 173 xu [.t 4] 2:=Told.of Go.Proofs.Tryz.func173 (by decide +kernel)
theorem NT : av Go.Proofs.Tryz.prog 173 = true:=by decide +kernel
theorem UG : Told Go.Proofs.Tryz.prog 175 qk [.t 4] 2:=Told.of Go.Proofs.Tryz.func175 (by decide +kernel)
theorem NU : av Go.Proofs.Tryz.prog 175 = true:=by decide +kernel
theorem UH : Told Go.Proofs.Tryz.prog 177 y9 [.c 2 3 true 59] 1:=Told.of Go.Proofs.Tryz.func177 (by decide +kernel)
theorem NV : av Go.Proofs.Tryz.prog 177 = true:=by decide +kernel
theorem UI : Told Go.Proofs.Tryz.prog 178 kJ [.t 2] 1:=Told.of Go.Proofs.Tryz.func178 (by decide +kernel)
theorem NW : av Go.Proofs.Tryz.prog 178 = true:=by decide +kernel
theorem UJ : Told Go.Proofs.Tryz.prog 179 w8 [.t 2] 1:=Told.of Go.Proofs.Tryz.func179 (by decide +kernel)
theorem NX : av Go.Proofs.Tryz.prog 179 = true:=by decide +kernel
theorem UL : Told Go.Proofs.Tryz.prog 180 w6 [.t 6] 3:=Told.of Go.Proofs.Tryz.func180 (by decide +kernel)
theorem NZ : av Go.Proofs.Tryz.prog 180 = true:=by decide +kernel
theorem UM : Told Go.Proofs.Tryz.prog 181 wM [.t 2] 1:=Told.of Go.Proofs.Tryz.func181 (by decide +kernel)
theorem N0 : av Go.Proofs.Tryz.prog 181 = true:=by decide +kernel
theorem UN : Told Go.Proofs.Tryz.prog 183 wX [.c 2 7 true 61] 1:=Told.of Go.Proofs.Tryz.func183 (by decide +kernel)
theorem N1 : av Go.Proofs.Tryz.prog 183 = true:=by decide +kernel
theorem UO : Told Go.Proofs.Tryz.prog 184 yC [.t 2] 1:=Told.of Go.Proofs.Tryz.func184 (by decide +kernel)
theorem N2 : av Go.Proofs.Tryz.prog 184 = true:=by decide +kernel
theorem UP : Told Go.Proofs.Tryz.prog 185 oc [.t 2] 1:=Told.of Go.Proofs.Tryz.func185 (by decide +kernel)
theorem N3 : av Go.Proofs.Tryz.prog 185 = true:=by decide +kernel
theorem UQ : Told Go.Proofs.Tryz.prog 186 yp [.c 6 2 true 39,.t 7] 3:=Told.of Go.Proofs.Tryz.func186 (by decide +kernel)
theorem N4 : av Go.Proofs.Tryz.prog 186 = true:=by decide +kernel
theorem UR : Told Go.Proofs.Tryz.prog 187 uw [.t 2] 1:=Told.of Go.Proofs.Tryz.func187 (by decide +kernel)
theorem N5 : av Go.Proofs.Tryz.prog 187 = true:=by decide +kernel
theorem US : Told Go.Proofs.Tryz.prog 188 yB [.t 2] 1:=Told.of Go.Proofs.Tryz.func188 (by decide +kernel)
theorem N6 : av Go.Proofs.Tryz.prog 188 = true:=by decide +kernel
theorem UT : Told Go.Proofs.Tryz.prog 189 qd [.t 2] 1:=Told.of Go.Proofs.Tryz.func189 (by decide +kernel)
theorem N7 : av Go.Proofs.Tryz.prog 189 = true:=by decide +kernel
theorem UU : Told Go.Proofs.Tryz.prog 190 yK [.c 6 2 true 39] 3:=Told.of Go.Proofs.Tryz.func190 (by decide +kernel)
theorem N8 : av Go.Proofs.Tryz.prog 190 = true:=by decide +kernel
theorem UW : Told Go.Proofs.Tryz.prog 191 wW [.t 2] 1:=Told.of Go.Proofs.Tryz.func191 (by decide +kernel)
theorem N9 : av Go.Proofs.Tryz.prog 191 = true:=by decide +kernel
theorem UY : Told Go.Proofs.Tryz.prog 193 so [] 3:=Told.of Go.Proofs.Tryz.func193 (by decide +kernel)
theorem Oa : av Go.Proofs.Tryz.prog 193 = true:=by decide +kernel
theorem UZ : Told Go.Proofs.Tryz.prog 194 oX [.t 4] 2:=Told.of Go.Proofs.Tryz.func194 (by decide +kernel)
theorem Oc : av Go.Proofs.Tryz.prog 194 = true:=by decide +kernel
theorem U0 : Told Go.Proofs.Tryz.prog 196 wF [] 1:=Told.of Go.Proofs.Tryz.func196 (by decide +kernel)
theorem Od : av Go.Proofs.Tryz.prog 196 = true:=by decide +kernel
theorem U1 : Told Go.Proofs.Tryz.prog 197 uV [.t 4] 2:=Told.of Go.Proofs.Tryz.func197 (by decide +kernel)
theorem Oe : av Go.Proofs.Tryz.prog 197 = true:=by decide +kernel
theorem U2 : Told Go.Proofs.Tryz.prog 199 xA [.t 4] 2:=Told.of Go.Proofs.Tryz.func199 (by decide +kernel)
theorem Og : av Go.Proofs.Tryz.prog 199 = true:=by decide +kernel
theorem U3 : Told Go.Proofs.Tryz.prog 200 ug [.t 2] 1:=Told.of Go.Proofs.Tryz.func200 (by decide +kernel)
theorem Oh : av Go.Proofs.Tryz.prog 200 = true:=by decide +kernel
theorem U4 : Told Go.Proofs.Tryz.prog 201 oa [.t 2] 1:=Told.of Go.Proofs.Tryz.func201 (by decide +kernel)
theorem Oi : av Go.Proofs.Tryz.prog 201 = true:=by decide +kernel
theorem U5 : Told Go.Proofs.Tryz.prog 202 y8 [.t 2] 1:=Told.of Go.Proofs.Tryz.func202 (by decide +kernel)
theorem Oj : av Go.Proofs.Tryz.prog 202 = true:=by decide +kernel
theorem U6 : Told Go.Proofs.Tryz.prog 203 yF [.t 2] 1:=Told.of Go.Proofs.Tryz.func203 (by decide +kernel)
theorem Ol : av Go.Proofs.Tryz.prog 203 = true:=by decide +kernel
theorem U7 : Told Go.Proofs.Tryz.prog 204 si [.t 2] 1:=Told.of Go.Proofs.Tryz.func204 (by decide +kernel)
theorem Om : av Go.Proofs.Tryz.prog 204 = true:=by decide +kernel
theorem U8 : Told Go.Proofs.Tryz.prog 205 iJ [.t 2] 1:=Told.of Go.Proofs.Tryz.func205 (by decide +kernel)
theorem On : av Go.Proofs.Tryz.prog 205 = true:=by decide +kernel
theorem U9 : Told Go.Proofs.Tryz.prog 206 wJ [.t 4] 3:=Told.of Go.Proofs.Tryz.func206 (by decide +kernel)
theorem Oo : av Go.Proofs.Tryz.prog 206 = true:=by decide +kernel
theorem Va : Told Go.Proofs.Tryz.prog 207 oZ [.t 4] 2:=Told.of Go.Proofs.Tryz.func207 (by decide +kernel)
theorem Oq : av Go.Proofs.Tryz.prog 207 = true:=by decide +kernel
theorem Vb : Told Go.Proofs.Tryz.prog 208 sA [.t 2] 1:=Told.of Go.Proofs.Tryz.func208 (by decide +kernel)
theorem Ot : av Go.Proofs.Tryz.prog 208 = true:=by decide +kernel
theorem Vd : Told Go.Proofs.Tryz.prog 211 s8 [.t 4] 2:=Told.of Go.Proofs.Tryz.func211 (by decide +kernel)
theorem Ov : av Go.Proofs.Tryz.prog 211 = true:=by decide +kernel
theorem Ve : Told Go.Proofs.Tryz.prog 218 xY [.c 2 2 true 246] 1:=Told.of Go.Proofs.Tryz.func218 (by decide +kernel)
theorem Ow : av Go.Proofs.Tryz.prog 218 = true:=by decide +kernel
theorem Vf : Told Go.Proofs.Tryz.prog 219 w7 [.t 2] 1:=Told.of Go.Proofs.Tryz.func219 (by decide +kernel)
theorem Ox : av Go.Proofs.Tryz.prog 219 = true:=by decide +kernel
theorem Vg : Told Go.Proofs.Tryz.prog 223 uU [.t 4] 2:=Told.of Go.Proofs.Tryz.func223 (by decide +kernel)
theorem Oy : av Go.Proofs.Tryz.prog 223 = true:=by decide +kernel
theorem Vj : Told Go.Proofs.Tryz.prog 227 pz [.t 4] 2:=Told.of Go.Proofs.Tryz.func227 (by decide +kernel)
theorem Oz : av Go.Proofs.Tryz.prog 227 = true:=by decide +kernel
theorem Vk : Told Go.Proofs.Tryz.prog 234 rX [.t 4,.t 5] 2:=Told.of Go.Proofs.Tryz.func234 (by decide +kernel)
theorem OA : av Go.Proofs.Tryz.prog 234 = true:=by decide +kernel
theorem Vm : Told Go.Proofs.Tryz.prog 243 zC [.t 4] 2:=Told.of Go.Proofs.Tryz.func243 (by decide +kernel)
theorem OC : av Go.Proofs.Tryz.prog 243 = true:=by decide +kernel
theorem Vn : Told Go.Proofs.Tryz.prog 246 wY [.c 2 3 true 59] 1:=Told.of Go.Proofs.Tryz.func246 (by decide +kernel)
theorem OD : av Go.Proofs.Tryz.prog 246 = true:=by decide +kernel
theorem Vp : Told Go.Proofs.Tryz.prog 250 r8 [.t 2] 1:=Told.of Go.Proofs.Tryz.func250 (by decide +kernel)
theorem OG : av Go.Proofs.Tryz.prog 250 = true:=by decide +kernel
theorem Vq : Told Go.Proofs.Tryz.prog 251 nK [.t 2] 1:=Told.of Go.Proofs.Tryz.func251 (by decide +kernel)
theorem OH : av Go.Proofs.Tryz.prog 251 = true:=by decide +kernel
theorem Vr : Told Go.Proofs.Tryz.prog 252 uG [.t 4] 2:=Told.of Go.Proofs.Tryz.func252 (by decide +kernel)
theorem OI : av Go.Proofs.Tryz.prog 252 = true:=by decide +kernel
theorem Vs : Told Go.Proofs.Tryz.prog 253 yA [.t 2] 1:=Told.of Go.Proofs.Tryz.func253 (by decide +kernel)
theorem OJ : av Go.Proofs.Tryz.prog 253 = true:=by decide +kernel
theorem Vt : Told Go.Proofs.Tryz.prog 254 yy [.t 2] 1:=Told.of Go.Proofs.Tryz.func254 (by decide +kernel)
theorem OK : av Go.Proofs.Tryz.prog 254 = true:=by decide +kernel
theorem Vu : Told Go.Proofs.Tryz.prog 258 y7 [.t 2] 1:=Told.of Go.Proofs.Tryz.func258 (by decide +kernel)
theorem OL : av Go.Proofs.Tryz.prog 258 = true:=by decide +kernel
theorem Vv : Told Go.Proofs.Tryz.prog 259 o6 [.t 2] 1:=Told.of Go.Proofs.Tryz.func259 (by decide +kernel)
theorem OM : av Go.Proofs.Tryz.prog 259 = true:=by decide +kernel
theorem Vw : Told Go.Proofs.Tryz.prog 260 wQ [.t 2] 1:=Told.of Go.Proofs.Tryz.func260 (by decide +kernel)
theorem ON : av Go.Proofs.Tryz.prog 260 = true:=by decide +kernel
theorem Vx : Told Go.Proofs.Tryz.prog 261 nM [.t 2] 1:=Told.of Go.Proofs.Tryz.func261 (by decide +kernel)
theorem OO : av Go.Proofs.Tryz.prog 261 = true:=by decide +kernel
theorem Vy : Told Go.Proofs.Tryz.prog 262 wK [.t 3] 2:=Told.of Go.Proofs.Tryz.func262 (by decide +kernel)
theorem OP : av Go.Proofs.Tryz.prog 262 = true:=by decide +kernel
theorem Vz : Told Go.Proofs.Tryz.prog 264 yE [.t 2] 1:=Told.of Go.Proofs.Tryz.func264 (by decide +kernel)
theorem OQ : av Go.Proofs.Tryz.prog 264 = true:=by decide +kernel
theorem VA : Told Go.Proofs.Tryz.prog 266 wP [.t 2] 1:=Told.of Go.Proofs.Tryz.func266 (by decide +kernel)
theorem OR : av Go.Proofs.Tryz.prog 266 = true:=by decide +kernel
theorem VB : Told Go.Proofs.Tryz.prog 268 mM [.t 4] 2:=Told.of Go.Proofs.Tryz.func268 (by decide +kernel)
theorem OS : av Go.Proofs.Tryz.prog 268 = true:=by decide +kernel
theorem VC : Told Go.Proofs.Tryz.prog 269 yt [.t 2] 1:=Told.of Go.Proofs.Tryz.func269 (by decide +kernel)
theorem OT : av Go.Proofs.Tryz.prog 269 = true:=by decide +kernel
theorem VE : Told Go.Proofs.Tryz.prog 270 sj [.t 2] 1:=Told.of Go.Proofs.Tryz.func270 (by decide +kernel)
theorem OV : av Go.Proofs.Tryz.prog 270 = true:=by decide +kernel
theorem VF : Told Go.Proofs.Tryz.prog 271 xd [.t 2] 1:=Told.of Go.Proofs.Tryz.func271 (by decide +kernel)
theorem OW : av Go.Proofs.Tryz.prog 271 = true:=by decide +kernel
theorem VG : Told Go.Proofs.Tryz.prog 272 wT [.t 2] 1:=Told.of Go.Proofs.Tryz.func272 (by decide +kernel)
theorem OX : av Go.Proofs.Tryz.prog 272 = true:=by decide +kernel
theorem VI : Told Go.Proofs.Tryz.prog 294 wG [.t 2] 1:=Told.of Go.Proofs.Tryz.func294 (by decide +kernel)
theorem OZ : av Go.Proofs.Tryz.prog 294 = true:=by decide +kernel
theorem VJ : Told Go.Proofs.Tryz.prog 296 w5 [.t 4] 2:=Told.of Go.Proofs.Tryz.func296 (by decide +kernel)
theorem O0 : av Go.Proofs.Tryz.prog 296 = true:=by decide +kernel
theorem VK : Told Go.Proofs.Tryz.prog 297 wO [.t 2] 1:=Told.of Go.Proofs.Tryz.func297 (by decide +kernel)
theorem O1 : av Go.Proofs.Tryz.prog 297 = true:=by decide +kernel
theorem VL : Told Go.Proofs.Tryz.prog 299 wI [.t 2] 1:=Told.of Go.Proofs.Tryz.func299 (by decide +kernel)
theorem O2 : av Go.Proofs.Tryz.prog 299 = true:=by decide +kernel
theorem VN : Told Go.Proofs.Tryz.prog 305 wU [.t 4] 2:=Told.of Go.Proofs.Tryz.func305 (by decide +kernel)
theorem O3 : av Go.Proofs.Tryz.prog 305 = true:=by decide +kernel
theorem VO : Told Go.Proofs.Tryz.prog 306 wR [.t 2] 1:=Told.of Go.Proofs.Tryz.func306 (by decide +kernel)
theorem O4 : av Go.Proofs.Tryz.prog 306 = true:=by decide +kernel
theorem VP : Told Go.Proofs.Tryz.prog 309 xb [.t 2] 1:=Told.of Go.Proofs.Tryz.func309 (by decide +kernel)
theorem O5 : av Go.Proofs.Tryz.prog 309 = true:=by decide +kernel
theorem VQ : Told Go.Proofs.Tryz.prog 320 uY [.t 4] 2:=Told.of Go.Proofs.Tryz.func320 (by decide +kernel)
theorem O6 : av Go.Proofs.Tryz.prog 320 = true:=by decide +kernel
theorem VR : Told Go.Proofs.Tryz.prog 321 w4 [.t 3] 2:=Told.of Go.Proofs.Tryz.func321 (by decide +kernel)
theorem O7 : av Go.Proofs.Tryz.prog 321 = true:=by decide +kernel
theorem UX : Told Go.Proofs.Tryz.prog 192 (nq 4 48) [.t 2] 1:=Told.of Go.Proofs.Tryz.func192 (by decide +kernel)
theorem VM : Told Go.Proofs.Tryz.prog 304 (nq 2 32) [.t 2] 1:=Told.of Go.Proofs.Tryz.func304 (by decide +kernel)
theorem Vi : Told Go.Proofs.Tryz.prog 226 (nq 2 24) [.t 2] 1:=Told.of Go.Proofs.Tryz.func226 (by decide +kernel)
theorem Vh : Told Go.Proofs.Tryz.prog 225 (nq 1 16) [.t 2] 1:=Told.of Go.Proofs.Tryz.func225 (by decide +kernel)
theorem WU : TT.Ok Go.Proofs.Tryz.prog:=by
 refine ⟨fun f F h=>?_,fun f F h=>?_⟩
 ·unfold TT at h
  split at h
  ·cases h; exact We
  ·cases h; exact UK
  ·cases h; exact Vc
  ·cases h; exact Vl
  ·cases h; exact Vo
  ·cases h; exact VD
  ·cases h; exact VH
  ·cases h; exact VS
  ·cases h; exact VT
  ·cases h; exact VU
  ·cases h; exact VV
  ·cases h; exact VW
  ·cases h; exact VX
  ·cases h; exact VY
  ·cases h; exact VZ
  ·cases h; exact V0
  ·cases h; exact V1
  ·cases h; exact V2
  ·cases h; exact V3
  ·cases h; exact V4
  ·cases h; exact V5
  ·cases h; exact V6
  ·cases h; exact V7
  ·cases h; exact V8
  ·cases h; exact V9
  ·cases h; exact Wa
  ·cases h; exact Wb
  ·cases h; exact Wc
  ·cases h; exact Wd
  ·cases h; exact Wf
  ·cases h; exact Wg
  ·cases h; exact Wh
  ·cases h; exact Wi
  ·cases h; exact Wj
  ·cases h; exact Wk
  ·cases h; exact Wl
  ·cases h; exact Wm
  ·cases h; exact Wn
  ·cases h; exact Wo
  ·cases h; exact Wp
  ·cases h; exact Wq
  ·cases h; exact Ws
  ·cases h; exact Wt
  ·cases h; exact Wu
  ·cases h; exact Wv
  ·cases h; exact T5
  ·cases h; exact T6
  ·cases h; exact T7
  ·cases h; exact T8
  ·cases h; exact T9
  ·cases h; exact Ua
  ·cases h; exact Ub
  ·cases h; exact Uc
  ·cases h; exact Ud
  ·cases h; exact Ue
  ·cases h; exact Uf
  ·cases h; exact Ug
  ·cases h; exact Uh
  ·cases h; exact Ui
  ·cases h; exact Uj
  ·cases h; exact Uk
  ·cases h; exact Ul
  ·cases h; exact Um
  ·cases h; exact Un
  ·cases h; exact Uo
  ·cases h; exact Up
  ·cases h; exact Uq
  ·cases h; exact Ur
  ·cases h; exact Us
  ·cases h; exact Ut
  ·cases h; exact Uu
  ·cases h; exact Uv
  ·cases h; exact Uw
  ·cases h; exact Ux
  ·cases h; exact Uy
  ·cases h; exact Uz
  ·cases h; exact UA
  ·cases h; exact UB
  ·cases h; exact UC
  ·cases h; exact UD
  ·cases h; exact UE
  ·cases h; exact UF
  ·cases h; exact UG
  ·cases h; exact UH
  ·cases h; exact UI
  ·cases h; exact UJ
  ·cases h; exact UL
  ·cases h; exact UM
  ·cases h; exact UN
  ·cases h; exact UO
  ·cases h; exact UP
  ·cases h; exact UQ
  ·cases h; exact UR
  ·cases h; exact US
  ·cases h; exact UT
  ·cases h; exact UU
  ·cases h; exact UW
  ·cases h; exact UY
  ·cases h; exact UZ
  ·cases h; exact U0
  ·cases h; exact U1
  ·cases h; exact U2
  ·cases h; exact U3
  ·cases h; exact U4
  ·cases h; exact U5
  ·cases h; exact U6
  ·cases h; exact U7
  ·cases h; exact U8
  ·cases h; exact U9
  ·cases h; exact Va
  ·cases h; exact Vb
  ·cases h; exact Vd
  ·cases h; exact Ve
  ·cases h; exact Vf
  ·cases h; exact Vg
  ·cases h; exact Vj
  ·cases h; exact Vk
  ·cases h; exact Vm
  ·cases h; exact Vn
  ·cases h; exact Vp
  ·cases h; exact Vq
  ·cases h; exact Vr
  ·cases h; exact Vs
  ·cases h; exact Vt
  ·cases h; exact Vu
  ·cases h; exact Vv
  ·cases h; exact Vw
  ·cases h; exact Vx
  ·cases h; exact Vy
  ·cases h; exact Vz
  ·cases h; exact VA
  ·cases h; exact VB
  ·cases h; exact VC
  ·cases h; exact VE
  ·cases h; exact VF
  ·cases h; exact VG
  ·cases h; exact VI
  ·cases h; exact VJ
  ·cases h; exact VK
  ·cases h; exact VL
  ·cases h; exact VN
  ·cases h; exact VO
  ·cases h; exact VP
  ·cases h; exact VQ
  ·cases h; exact VR
  ·cases h
 ·unfold TT at h
  split at h
  ·cases h; exact Px
  ·cases h; exact NY
  ·cases h; exact Ou
  ·cases h; exact OB
  ·cases h; exact OE
  ·cases h; exact OU
  ·cases h; exact OY
  ·cases h; exact O8
  ·cases h; exact O9
  ·cases h; exact Pa
  ·cases h; exact Pb
  ·cases h; exact Pc
  ·cases h; exact Pd
  ·cases h; exact Pe
  ·cases h; exact Pf
  ·cases h; exact Pg
  ·cases h; exact Ph
  ·cases h; exact Pj
  ·cases h; exact Pk
  ·cases h; exact Pm
  ·cases h; exact Pn
  ·cases h; exact Po
  ·cases h; exact Pp
  ·cases h; exact Pq
  ·cases h; exact Pr
  ·cases h; exact Pt
  ·cases h; exact Pu
  ·cases h; exact Pv
  ·cases h; exact Pw
  ·cases h; exact Py
  ·cases h; exact Pz
  ·cases h; exact PA
  ·cases h; exact PB
  ·cases h; exact PC
  ·cases h; exact PD
  ·cases h; exact PE
  ·cases h; exact PF
  ·cases h; exact PG
  ·cases h; exact PI
  ·cases h; exact PJ
  ·cases h; exact PK
  ·cases h; exact PL
  ·cases h; exact PN
  ·cases h; exact PO
  ·cases h; exact PR
  ·cases h; exact Ng
  ·cases h; exact Nh
  ·cases h; exact Ni
  ·cases h; exact Nj
  ·cases h; exact Nk
  ·cases h; exact Nl
  ·cases h; exact Nn
  ·cases h; exact Np
  ·cases h; exact Nq
  ·cases h; exact Nr
  ·cases h; exact Ns
  ·cases h; exact Nt
  ·cases h; exact Nu
  ·cases h; exact Nv
  ·cases h; exact Nw
  ·cases h; exact Nx
  ·cases h; exact Ny
  ·cases h; exact Nz
  ·cases h; exact NA
  ·cases h; exact NB
  ·cases h; exact NC
  ·cases h; exact ND
  ·cases h; exact NF
  ·cases h; exact NG
  ·cases h; exact NH
  ·cases h; exact NI
  ·cases h; exact NJ
  ·cases h; exact NK
  ·cases h; exact NL
  ·cases h; exact NM
  ·cases h; exact NN
  ·cases h; exact NO
  ·cases h; exact NP
  ·cases h; exact NQ
  ·cases h; exact NR
  ·cases h; exact NS
  ·cases h; exact NT
  ·cases h; exact NU
  ·cases h; exact NV
  ·cases h; exact NW
  ·cases h; exact NX
  ·cases h; exact NZ
  ·cases h; exact N0
  ·cases h; exact N1
  ·cases h; exact N2
  ·cases h; exact N3
  ·cases h; exact N4
  ·cases h; exact N5
  ·cases h; exact N6
  ·cases h; exact N7
  ·cases h; exact N8
  ·cases h; exact N9
  ·cases h; exact Oa
  ·cases h; exact Oc
  ·cases h; exact Od
  ·cases h; exact Oe
  ·cases h; exact Og
  ·cases h; exact Oh
  ·cases h; exact Oi
  ·cases h; exact Oj
  ·cases h; exact Ol
  ·cases h; exact Om
  ·cases h; exact On
  ·cases h; exact Oo
  ·cases h; exact Oq
  ·cases h; exact Ot
  ·cases h; exact Ov
  ·cases h; exact Ow
  ·cases h; exact Ox
  ·cases h; exact Oy
  ·cases h; exact Oz
  ·cases h; exact OA
  ·cases h; exact OC
  ·cases h; exact OD
  ·cases h; exact OG
  ·cases h; exact OH
  ·cases h; exact OI
  ·cases h; exact OJ
  ·cases h; exact OK
  ·cases h; exact OL
  ·cases h; exact OM
  ·cases h; exact ON
  ·cases h; exact OO
  ·cases h; exact OP
  ·cases h; exact OQ
  ·cases h; exact OR
  ·cases h; exact OS
  ·cases h; exact OT
  ·cases h; exact OV
  ·cases h; exact OW
  ·cases h; exact OX
  ·cases h; exact OZ
  ·cases h; exact O0
  ·cases h; exact O1
  ·cases h; exact O2
  ·cases h; exact O3
  ·cases h; exact O4
  ·cases h; exact O5
  ·cases h; exact O6
  ·cases h; exact O7
  ·cases h
theorem WT (htab : Lib.TabIs Go.Proofs.Tryz.prog Bs.W0 "internal/strconv.uint64pow10" .u64 Lib.pow10Tab) (hmax : ∃ m,Bs.W0.cell? ⟨1,0,none⟩ = some (.int .i64 m)) : LI.Sound Go.Proofs.Tryz.prog:=(mG (M4 fun A cap fs w h1 h2 h3=>Go.Proofs.PW A cap fs w h1 h2 h3) (mG (vA UX) (mG (vA VM) (mG (vA Vi) (mG (vA Vh) (mG (Rc htab fun n h0 h1 w ht=>Go.Proofs.Tryz.strconv_Itoa n h0 h1 w ht) (mG (Ql fun s p w=>Go.Proofs.Tryz.strings_HasPrefix s p w) (mG (TK (g1:=1) (t9:=_) hmax fun s sep m w h1 h2 h3=>Go.Proofs.Tryz.strings_Split s sep m w h1 h2 h3) (Ww fun s c h w hs=>Go.Proofs.Tryz.strings_Trim_one s c h w hs)))))))))
end M
