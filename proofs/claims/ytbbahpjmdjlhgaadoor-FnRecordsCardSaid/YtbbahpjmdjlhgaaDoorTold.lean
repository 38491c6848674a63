/- Each function of the table is the program's, and the library is as it is said to be; no conditions. -/
import Derived.Test.YtbbahpjmdjlhgaaDoorProg
import Derived.Test.YtbbahpjmdjlhgaaDoorLay
import Derived.Test.YtbbahpjmdjlhgaaDoorTab
import Derived.Test.YtbbahpjmdjlhgaaDoorMc
set_option linter.unusedSectionVars false
set_option linter.unusedVariables false
set_option linter.unusedSimpArgs false
set_option linter.unusedVariables false
set_option linter.unusedSectionVars false
set_option maxRecDepth 100000
namespace Go.Proofs
open Go.RowKit
set_option maxHeartbeats 2000000 in
set_option maxRecDepth 100000 in
theorem DJ (s : ByteArray) (h : 7 < s.size) (w : World) :
    Calls Go.Proofs.Tryd.prog 37 #[.string s] w fun e w'=>e = .returned (.tuple #[.int .i64 0,.bool false])∧w' = w:=by
  go_enter Tryd.func37,Tryd.ntmps37
  go_wp2
  · go_ret2; exact ⟨rfl,rfl⟩
set_option maxHeartbeats 2000000 in
set_option maxRecDepth 100000 in
theorem DL (s : ByteArray) (h : ¬ 7 < s.size) (v : Int) (hv : Lib.atoiAll s.data.toList = .ok v) (w : World) (htab : Lib.TabIs Go.Proofs.Tryd.prog w "internal/strconv.uint64pow10" .u64 Lib.pow10Tab) :
    Calls Go.Proofs.Tryd.prog 37 #[.string s] w fun e w'=>e = .returned (.tuple #[.int .i64 (ld v s.data.toList),.bool (gw v s.data.toList)])∧Below w.heap.size w w':=by
  have eR:=Lib.atoiAll_bounds hv
  go_enter Tryd.func37,Tryd.ntmps37
  go_wp2_with (first
    | (go_at_call 59; refine (Tryd.strconv_Atoi_ok s (by omega) v hv _).mono ?_; rintro e W1 ⟨rfl,xj⟩; have fo : Below w.heap.size w W1:=(by rcases xj with rfl | ⟨t,rfl⟩; exact Below.refl _ _; exact Lib.bytesWorld_below _ _ _); clear xj)
    | (go_at_call 32; refine (Tryd.strconv_Itoa v eR.1 eR.2 _ (Fy htab fo)).mono ?_; rintro e W2 ⟨rfl,k,os,xk⟩; have kL : Below w.heap.size w W2:=(by subst xk; exact fo.trans ((BW W1 k os).mono fo.size)); clear xk)
    | go_in)
  all_goals go_ret2
  all_goals refine ⟨?_,by assumption⟩
  all_goals first
    | (have hb : gw v s.data.toList = true:=(by
        unfold gw
        rw [decide_eq_true_eq]
        refine ⟨by assumption,by assumption,?_⟩
        rw [← Lib.toList_data]
        rename_i hz
        simpa using hz)
       rw [ld,if_pos hb,hb]; rfl)
    | (have hb : gw v s.data.toList = false:=(by
        unfold gw
        rw [decide_eq_false_iff_not]
        rintro ⟨h1,h2,h3⟩
        first
        | omega
        | (rw [← Lib.toList_data] at h3
           rename_i hz
           simp [h3] at hz))
       rw [ld,hb]; rfl)
set_option maxHeartbeats 2000000 in
set_option maxRecDepth 100000 in
theorem DI (s : ByteArray) (h : ¬ 7 < s.size) (w : World)
    (hA : Calls Go.Proofs.Tryd.prog 59 #[.string s] w fun e w'=>∃ n t N,e = .returned (.tuple #[.int .i64 n,.iface t (.pointer (some ⟨N,0,none⟩))])∧Below w.heap.size w w') :
    Calls Go.Proofs.Tryd.prog 37 #[.string s] w fun e w'=>e = .returned (.tuple #[.int .i64 0,.bool false])∧Below w.heap.size w w':=by
  go_enter Tryd.func37,Tryd.ntmps37
  go_wp2_with (first
    | (go_at_call 59; refine hA.mono ?_; rintro e W1 ⟨n,t,N,rfl,fo⟩)
    | go_in)
  all_goals go_ret2
  all_goals exact ⟨rfl,by assumption⟩
theorem DH [B : M.Bs] (htab : Lib.TabIs Go.Proofs.Tryd.prog B.W0 "internal/strconv.uint64pow10" .u64 Lib.pow10Tab) (mU : ∃ te pe,B.W0.var? Go.Proofs.Tryd.prog "strconv.ErrSyntax" = some #[.iface te pe]) (dL : ∃ te pe,B.W0.var? Go.Proofs.Tryd.prog "strconv.ErrRange" = some #[.iface te pe])
    (s : ByteArray) (w : World) (hw : M.fY w) (hs : s.size≤9223372036854775807) :
    Calls Go.Proofs.Tryd.prog 37 #[.string s] w fun e w'=>e = .returned (.tuple #[.int .i64 (((M.bH s.data.toList).getD 0 : Nat) : Int),.bool (M.bH s.data.toList).isSome])∧Below w.heap.size w w':=by
  refine DK (a:=0) hs (fun h=>DJ s h w) (fun h v hv=>DL s h v hv w (M.TabIs.same htab hw)) fun h hv=>?_
  refine DI s h w ?_
  rcases b9 : Lib.atoiAll s.data.toList with v | _ | _
  · exact absurd b9 (hv v)
  · obtain ⟨te,pe,h1⟩:=mU
    exact (Any.strconv_Atoi_syntax_var Tryd.laysC172 s (by omega) b9 te pe w (zK h1 hw)).mono fun e w' ⟨N,he,_,_,hb⟩=>⟨_,_,N,he,hb⟩
  · obtain ⟨te,pe,h1⟩:=dL
    exact (Any.strconv_Atoi_range_var Tryd.laysC172 s (by omega) b9 te pe w (zK h1 hw)).mono fun e w' ⟨N,he,_,_,hb⟩=>⟨_,_,N,he,hb⟩
end Go.Proofs
namespace M
open Go
variable [Bs]
theorem FO : Told Go.Proofs.Tryd.prog 3 ja [.t 2] 1:=Told.of Go.Proofs.Tryd.func3 (by decide +kernel)
theorem Bv : bp Go.Proofs.Tryd.prog 3 = true:=by decide +kernel
theorem F1 : Told Go.Proofs.Tryd.prog 6 qA [.t 2] 1:=Told.of Go.Proofs.Tryd.func6 (by decide +kernel)
theorem BH : bp Go.Proofs.Tryd.prog 6 = true:=by decide +kernel
theorem F3 : Told Go.Proofs.Tryd.prog 7 lA [.t 2,.t 3] 1:=Told.of Go.Proofs.Tryd.func7 (by decide +kernel)
theorem BJ : bp Go.Proofs.Tryd.prog 7 = true:=by decide +kernel
theorem F4 : Told Go.Proofs.Tryd.prog 8 kU [.t 4] 2:=Told.of Go.Proofs.Tryd.func8 (by decide +kernel)
theorem BK : bp Go.Proofs.Tryd.prog 8 = true:=by decide +kernel
theorem F5 : Told Go.Proofs.Tryd.prog 9 lC [.t 4] 2:=Told.of Go.Proofs.Tryd.func9 (by decide +kernel)
theorem BL : bp Go.Proofs.Tryd.prog 9 = true:=by decide +kernel
theorem FD : Told Go.Proofs.Tryd.prog 10 fR [.t 2,.t 3,.t 4] 1:=Told.of Go.Proofs.Tryd.func10 (by decide +kernel)
theorem Bi : bp Go.Proofs.Tryd.prog 10 = true:=by decide +kernel
theorem FE : Told Go.Proofs.Tryd.prog 11 kY [.t 4] 2:=Told.of Go.Proofs.Tryd.func11 (by decide +kernel)
theorem Bj : bp Go.Proofs.Tryd.prog 11 = true:=by decide +kernel
theorem FF : Told Go.Proofs.Tryd.prog 12 qP [.t 2] 1:=Told.of Go.Proofs.Tryd.func12 (by decide +kernel)
theorem Bk : bp Go.Proofs.Tryd.prog 12 = true:=by decide +kernel
theorem FG : Told Go.Proofs.Tryd.prog 13 hO [.t 2,.t 3,.t 4] 1:=Told.of Go.Proofs.Tryd.func13 (by decide +kernel)
theorem Bl : bp Go.Proofs.Tryd.prog 13 = true:=by decide +kernel
theorem FH : Told Go.Proofs.Tryd.prog 14 qR [.t 2] 1:=Told.of Go.Proofs.Tryd.func14 (by decide +kernel)
theorem Bm : bp Go.Proofs.Tryd.prog 14 = true:=by decide +kernel
theorem FI : Told Go.Proofs.Tryd.prog 15 qv [.t 2] 1:=Told.of Go.Proofs.Tryd.func15 (by decide +kernel)
theorem Bo : bp Go.Proofs.Tryd.prog 15 = true:=by decide +kernel
theorem FJ : Told Go.Proofs.Tryd.prog 16 qT [.t 2] 1:=Told.of Go.Proofs.Tryd.func16 (by decide +kernel)
theorem Bp : bp Go.Proofs.Tryd.prog 16 = true:=by decide +kernel
theorem FK : Told Go.Proofs.Tryd.prog 26 qZ [.t 2] 1:=Told.of Go.Proofs.Tryd.func26 (by decide +kernel)
theorem Bq : bp Go.Proofs.Tryd.prog 26 = true:=by decide +kernel
theorem FL : Told Go.Proofs.Tryd.prog 27 qW [.t 2] 1:=Told.of Go.Proofs.Tryd.func27 (by decide +kernel)
theorem Br : bp Go.Proofs.Tryd.prog 27 = true:=by decide +kernel
theorem FM : Told Go.Proofs.Tryd.prog 28 q5 [.t 4] 2:=Told.of Go.Proofs.Tryd.func28 (by decide +kernel)
theorem Bt : bp Go.Proofs.Tryd.prog 28 = true:=by decide +kernel
theorem FN : Told Go.Proofs.Tryd.prog 29 j7 [.t 4] 2:=Told.of Go.Proofs.Tryd.func29 (by decide +kernel)
theorem Bu : bp Go.Proofs.Tryd.prog 29 = true:=by decide +kernel
theorem FP : Told Go.Proofs.Tryd.prog 30 q6 [.t 4] 2:=Told.of Go.Proofs.Tryd.func30 (by decide +kernel)
theorem Bw : bp Go.Proofs.Tryd.prog 30 = true:=by decide +kernel
theorem FQ : Told Go.Proofs.Tryd.prog 31 qw [.t 6] 3:=Told.of Go.Proofs.Tryd.func31 (by decide +kernel)
theorem Bx : bp Go.Proofs.Tryd.prog 31 = true:=by decide +kernel
theorem FR : Told Go.Proofs.Tryd.prog 33 qX [.t 6] 3:=Told.of Go.Proofs.Tryd.func33 (by decide +kernel)
theorem Bz : bp Go.Proofs.Tryd.prog 33 = true:=by decide +kernel
theorem FT : Told Go.Proofs.Tryd.prog 34 n9 [.t 2] 1:=Told.of Go.Proofs.Tryd.func34 (by decide +kernel)
theorem BA : bp Go.Proofs.Tryd.prog 34 = true:=by decide +kernel
theorem FU : Told Go.Proofs.Tryd.prog 38 jg [.t 6] 3:=Told.of Go.Proofs.Tryd.func38 (by decide +kernel)
theorem BB : bp Go.Proofs.Tryd.prog 38 = true:=by decide +kernel
theorem FV : Told Go.Proofs.Tryd.prog 39 n8 [.t 4,.t 5] 2:=Told.of Go.Proofs.Tryd.func39 (by decide +kernel)
theorem BC : bp Go.Proofs.Tryd.prog 39 = true:=by decide +kernel
theorem FW : Told Go.Proofs.Tryd.prog 40 q8 [.t 2] 1:=Told.of Go.Proofs.Tryd.func40 (by decide +kernel)
theorem BD : bp Go.Proofs.Tryd.prog 40 = true:=by decide +kernel
theorem FX : Told Go.Proofs.Tryd.prog 41 jf [.t 2,.t 3] 1:=Told.of Go.Proofs.Tryd.func41 (by decide +kernel)
theorem BE : bp Go.Proofs.Tryd.prog 41 = true:=by decide +kernel
theorem FY : Told Go.Proofs.Tryd.prog 54 q7 [.t 4] 2:=Told.of Go.Proofs.Tryd.func54 (by decide +kernel)
theorem BF : bp Go.Proofs.Tryd.prog 54 = true:=by decide +kernel
theorem FZ : Told Go.Proofs.Tryd.prog 55 lD [.t 2] 1:=Told.of Go.Proofs.Tryd.func55 (by decide +kernel)
theorem BG : bp Go.Proofs.Tryd.prog 55 = true:=by decide +kernel
theorem F2 : Told Go.Proofs.Tryd.prog 60 lB [.t 2] 1:=Told.of Go.Proofs.Tryd.func60 (by decide +kernel)
theorem BI : bp Go.Proofs.Tryd.prog 60 = true:=by decide +kernel
theorem z7 : TT.Ok Go.Proofs.Tryd.prog:=by
  refine ⟨fun f F h=>?_,fun f F h=>?_⟩
  · unfold TT at h
    split at h
    · cases h; exact FO
    · cases h; exact F1
    · cases h; exact F3
    · cases h; exact F4
    · cases h; exact F5
    · cases h; exact FD
    · cases h; exact FE
    · cases h; exact FF
    · cases h; exact FG
    · cases h; exact FH
    · cases h; exact FI
    · cases h; exact FJ
    · cases h; exact FK
    · cases h; exact FL
    · cases h; exact FM
    · cases h; exact FN
    · cases h; exact FP
    · cases h; exact FQ
    · cases h; exact FR
    · cases h; exact FT
    · cases h; exact FU
    · cases h; exact FV
    · cases h; exact FW
    · cases h; exact FX
    · cases h; exact FY
    · cases h; exact FZ
    · cases h; exact F2
    · cases h
  · unfold TT at h
    split at h
    · cases h; exact Bv
    · cases h; exact BH
    · cases h; exact BJ
    · cases h; exact BK
    · cases h; exact BL
    · cases h; exact Bi
    · cases h; exact Bj
    · cases h; exact Bk
    · cases h; exact Bl
    · cases h; exact Bm
    · cases h; exact Bo
    · cases h; exact Bp
    · cases h; exact Bq
    · cases h; exact Br
    · cases h; exact Bt
    · cases h; exact Bu
    · cases h; exact Bw
    · cases h; exact Bx
    · cases h; exact Bz
    · cases h; exact BA
    · cases h; exact BB
    · cases h; exact BC
    · cases h; exact BD
    · cases h; exact BE
    · cases h; exact BF
    · cases h; exact BG
    · cases h; exact BI
    · cases h
theorem zP (htab : Lib.TabIs Go.Proofs.Tryd.prog Bs.W0 "internal/strconv.uint64pow10" .u64 Lib.pow10Tab) (hmax : ∃ m,Bs.W0.cell? ⟨0,0,none⟩ = some (.int .i64 m)) (mU : ∃ te pe,Bs.W0.var? Go.Proofs.Tryd.prog "strconv.ErrSyntax" = some #[.iface te pe]) (dL : ∃ te pe,Bs.W0.var? Go.Proofs.Tryd.prog "strconv.ErrRange" = some #[.iface te pe]) : LI.Sound Go.Proofs.Tryd.prog:=(uh (DM fun s w hw hs=>Go.Proofs.DH htab mU dL s w hw hs) (uh (C8 htab fun n h0 h1 w ht=>Go.Proofs.Tryd.strconv_Itoa n h0 h1 w ht) (uh (AX (g1:=0) hmax fun s sep m w h1 h2=>Go.Proofs.Tryd.strings_Cut s sep m w h1 h2) (Fk (g1:=0) (t9:=_) hmax fun s sep m w h1 h2 h3=>Go.Proofs.Tryd.strings_Split s sep m w h1 h2 h3))))
end M
