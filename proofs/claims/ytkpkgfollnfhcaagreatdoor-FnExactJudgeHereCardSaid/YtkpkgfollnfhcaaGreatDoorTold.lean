/- Each function of the table is the program's, and the library is as it is said to be; no conditions. -/
import Derived.Test.YtkpkgfollnfhcaaGreatDoorProg
import Derived.Test.YtkpkgfollnfhcaaGreatDoorLay
import Derived.Test.YtkpkgfollnfhcaaGreatDoorTab
import Derived.Test.YtkpkgfollnfhcaaGreatDoorMc
set_option linter.unusedSectionVars false
set_option linter.unusedVariables false
set_option linter.unusedSimpArgs false
set_option linter.unusedVariables false
set_option linter.unusedSectionVars false
set_option maxRecDepth 100000
namespace Go.Proofs
open Go.RowKit
set_option maxHeartbeats 2000000 in
set_option maxRecDepth 100000 in
theorem R2 (s : ByteArray) (h : 7 < s.size) (w : World) :
    Calls Go.Proofs.Tryz.prog 300 #[.string s] w fun e w'=>e = .returned (.tuple #[.int .i64 0,.bool false])∧w' = w:=by
  go_enter Tryz.func300,Tryz.ntmps300
  go_wp2
  · go_ret2; exact ⟨rfl,rfl⟩
set_option maxHeartbeats 2000000 in
set_option maxRecDepth 100000 in
theorem R4 (s : ByteArray) (h : ¬ 7 < s.size) (v : Int) (hv : Lib.atoiAll s.data.toList = .ok v) (w : World) (htab : Lib.TabIs Go.Proofs.Tryz.prog w "internal/strconv.uint64pow10" .u64 Lib.pow10Tab) :
    Calls Go.Proofs.Tryz.prog 300 #[.string s] w fun e w'=>e = .returned (.tuple #[.int .i64 (qC v s.data.toList),.bool (jR v s.data.toList)])∧Below w.heap.size w w':=by
  have gO:=Lib.atoiAll_bounds hv
  go_enter Tryz.func300,Tryz.ntmps300
  go_wp2_with (first
    | (go_at_call 323; refine (Tryz.strconv_Atoi_ok s (by omega) v hv _).mono ?_; rintro e W1 ⟨rfl,F1⟩; have cS : Below w.heap.size w W1:=(by rcases F1 with rfl | ⟨t,rfl⟩; exact Below.refl _ _; exact Lib.bytesWorld_below _ _ _); clear F1)
    | (go_at_call 265; refine (Tryz.strconv_Itoa v gO.1 gO.2 _ (TP htab cS)).mono ?_; rintro e W2 ⟨rfl,k,os,F2⟩; have iw : Below w.heap.size w W2:=(by subst F2; exact cS.trans ((P2 W1 k os).mono cS.size)); clear F2)
    | go_in)
  all_goals go_ret2
  all_goals refine ⟨?_,by assumption⟩
  all_goals first
    | (have hb : jR v s.data.toList = true:=(by
        unfold jR
        rw [decide_eq_true_eq]
        refine ⟨by assumption,by assumption,?_⟩
        rw [← Lib.toList_data]
        rename_i hz
        simpa using hz)
       rw [qC,if_pos hb,hb]; rfl)
    | (have hb : jR v s.data.toList = false:=(by
        unfold jR
        rw [decide_eq_false_iff_not]
        rintro ⟨h1,h2,h3⟩
        first
        | omega
        | (rw [← Lib.toList_data] at h3
           rename_i hz
           simp [h3] at hz))
       rw [qC,hb]; rfl)
set_option maxHeartbeats 2000000 in
set_option maxRecDepth 100000 in
theorem R1 (s : ByteArray) (h : ¬ 7 < s.size) (w : World)
    (hA : Calls Go.Proofs.Tryz.prog 323 #[.string s] w fun e w'=>∃ n t N,e = .returned (.tuple #[.int .i64 n,.iface t (.pointer (some ⟨N,0,none⟩))])∧Below w.heap.size w w') :
    Calls Go.Proofs.Tryz.prog 300 #[.string s] w fun e w'=>e = .returned (.tuple #[.int .i64 0,.bool false])∧Below w.heap.size w w':=by
  go_enter Tryz.func300,Tryz.ntmps300
  go_wp2_with (first
    | (go_at_call 323; refine hA.mono ?_; rintro e W1 ⟨n,t,N,rfl,cS⟩)
    | go_in)
  all_goals go_ret2
  all_goals exact ⟨rfl,by assumption⟩
theorem R0 [B : M.Bs] (htab : Lib.TabIs Go.Proofs.Tryz.prog B.W0 "internal/strconv.uint64pow10" .u64 Lib.pow10Tab) (Bl : ∃ te pe,B.W0.var? Go.Proofs.Tryz.prog "strconv.ErrSyntax" = some #[.iface te pe]) (gv : ∃ te pe,B.W0.var? Go.Proofs.Tryz.prog "strconv.ErrRange" = some #[.iface te pe])
    (s : ByteArray) (w : World) (hw : M.jt w) (hs : s.size≤9223372036854775807) :
    Calls Go.Proofs.Tryz.prog 300 #[.string s] w fun e w'=>e = .returned (.tuple #[.int .i64 (((M.cr s.data.toList).getD 0 : Nat) : Int),.bool (M.cr s.data.toList).isSome])∧Below w.heap.size w w':=by
  refine R3 (a:=0) hs (fun h=>R2 s h w) (fun h v hv=>R4 s h v hv w (M.TabIs.same htab hw)) fun h hv=>?_
  refine R1 s h w ?_
  rcases di : Lib.atoiAll s.data.toList with v | _ | _
  · exact absurd di (hv v)
  · obtain ⟨te,pe,h1⟩:=Bl
    exact (Any.strconv_Atoi_syntax_var Tryz.laysC172 s (by omega) di te pe w (Ib h1 hw)).mono fun e w' ⟨N,he,_,_,hb⟩=>⟨_,_,N,he,hb⟩
  · obtain ⟨te,pe,h1⟩:=gv
    exact (Any.strconv_Atoi_range_var Tryz.laysC172 s (by omega) di te pe w (Ib h1 hw)).mono fun e w' ⟨N,he,_,_,hb⟩=>⟨_,_,N,he,hb⟩
end Go.Proofs
namespace M
open Go
variable [Bs]
theorem V8 : Told Go.Proofs.Tryz.prog 4 tq [.t 2] 1:=Told.of Go.Proofs.Tryz.func4 (by decide +kernel)
theorem O9 : ak Go.Proofs.Tryz.prog 4 = true:=by decide +kernel
theorem TY : Told Go.Proofs.Tryz.prog 11 mG [.t 4] 2:=Told.of Go.Proofs.Tryz.func11 (by decide +kernel)
theorem MQ : ak Go.Proofs.Tryz.prog 11 = true:=by decide +kernel
theorem T7 : Told Go.Proofs.Tryz.prog 13 xV [.c 2 10 true 48] 1:=Told.of Go.Proofs.Tryz.func13 (by decide +kernel)
theorem MY : ak Go.Proofs.Tryz.prog 13 = true:=by decide +kernel
theorem Un : Told Go.Proofs.Tryz.prog 15 kQ [.t 4] 2:=Told.of Go.Proofs.Tryz.func15 (by decide +kernel)
theorem Ng : ak Go.Proofs.Tryz.prog 15 = true:=by decide +kernel
theorem Uy : Told Go.Proofs.Tryz.prog 16 uI [.t 2] 1:=Told.of Go.Proofs.Tryz.func16 (by decide +kernel)
theorem Nt : ak Go.Proofs.Tryz.prog 16 = true:=by decide +kernel
theorem UJ : Told Go.Proofs.Tryz.prog 17 sU [.t 2] 1:=Told.of Go.Proofs.Tryz.func17 (by decide +kernel)
theorem NF : ak Go.Proofs.Tryz.prog 17 = true:=by decide +kernel
theorem US : Told Go.Proofs.Tryz.prog 18 oa [.t 4] 2:=Told.of Go.Proofs.Tryz.func18 (by decide +kernel)
theorem NO : ak Go.Proofs.Tryz.prog 18 = true:=by decide +kernel
theorem UZ : Told Go.Proofs.Tryz.prog 19 n9 [.t 4] 2:=Told.of Go.Proofs.Tryz.func19 (by decide +kernel)
theorem NU : ak Go.Proofs.Tryz.prog 19 = true:=by decide +kernel
theorem U4 : Told Go.Proofs.Tryz.prog 21 yj [.c 2 6 true 43] 1:=Told.of Go.Proofs.Tryz.func21 (by decide +kernel)
theorem NZ : ak Go.Proofs.Tryz.prog 21 = true:=by decide +kernel
theorem U9 : Told Go.Proofs.Tryz.prog 22 ye [.c 2 4 true 66] 1:=Told.of Go.Proofs.Tryz.func22 (by decide +kernel)
theorem N4 : ak Go.Proofs.Tryz.prog 22 = true:=by decide +kernel
theorem Vn : Told Go.Proofs.Tryz.prog 24 kR [.t 4] 2:=Told.of Go.Proofs.Tryz.func24 (by decide +kernel)
theorem Ol : ak Go.Proofs.Tryz.prog 24 = true:=by decide +kernel
theorem Vy : Told Go.Proofs.Tryz.prog 25 kS [.t 4] 2:=Told.of Go.Proofs.Tryz.func25 (by decide +kernel)
theorem Oz : ak Go.Proofs.Tryz.prog 25 = true:=by decide +kernel
theorem VJ : Told Go.Proofs.Tryz.prog 26 mF [.t 4] 2:=Told.of Go.Proofs.Tryz.func26 (by decide +kernel)
theorem OL : ak Go.Proofs.Tryz.prog 26 = true:=by decide +kernel
theorem V5 : Told Go.Proofs.Tryz.prog 33 qg [.t 4] 2:=Told.of Go.Proofs.Tryz.func33 (by decide +kernel)
theorem O6 : ak Go.Proofs.Tryz.prog 33 = true:=by decide +kernel
theorem V6 : Told Go.Proofs.Tryz.prog 35 xU [.c 2 4 true 83] 1:=Told.of Go.Proofs.Tryz.func35 (by decide +kernel)
theorem O7 : ak Go.Proofs.Tryz.prog 35 = true:=by decide +kernel
theorem V7 : Told Go.Proofs.Tryz.prog 38 mH [.t 4] 2:=Told.of Go.Proofs.Tryz.func38 (by decide +kernel)
theorem O8 : ak Go.Proofs.Tryz.prog 38 = true:=by decide +kernel
theorem V9 : Told Go.Proofs.Tryz.prog 40 yb [.c 2 7 true 61] 1:=Told.of Go.Proofs.Tryz.func40 (by decide +kernel)
theorem Pa : ak Go.Proofs.Tryz.prog 40 = true:=by decide +kernel
theorem Wa : Told Go.Proofs.Tryz.prog 44 qh [.t 4] 2:=Told.of Go.Proofs.Tryz.func44 (by decide +kernel)
theorem Pb : ak Go.Proofs.Tryz.prog 44 = true:=by decide +kernel
theorem Wb : Told Go.Proofs.Tryz.prog 46 xW [.c 2 2 true 39] 1:=Told.of Go.Proofs.Tryz.func46 (by decide +kernel)
theorem Pc : ak Go.Proofs.Tryz.prog 46 = true:=by decide +kernel
theorem Wc : Told Go.Proofs.Tryz.prog 48 qa [.t 4] 2:=Told.of Go.Proofs.Tryz.func48 (by decide +kernel)
theorem Pd : ak Go.Proofs.Tryz.prog 48 = true:=by decide +kernel
theorem Wd : Told Go.Proofs.Tryz.prog 50 qk [.t 4] 2:=Told.of Go.Proofs.Tryz.func50 (by decide +kernel)
theorem Pe : ak Go.Proofs.Tryz.prog 50 = true:=by decide +kernel
theorem We : Told Go.Proofs.Tryz.prog 51 qo [.t 4] 2:=Told.of Go.Proofs.Tryz.func51 (by decide +kernel)
theorem Pf : ak Go.Proofs.Tryz.prog 51 = true:=by decide +kernel
theorem Wf : Told Go.Proofs.Tryz.prog 52 qm [.t 4] 2:=Told.of Go.Proofs.Tryz.func52 (by decide +kernel)
theorem Pg : ak Go.Proofs.Tryz.prog 52 = true:=by decide +kernel
theorem Wg : Told Go.Proofs.Tryz.prog 53 jX [.t 2] 1:=Told.of Go.Proofs.Tryz.func53 (by decide +kernel)
theorem Ph : ak Go.Proofs.Tryz.prog 53 = true:=by decide +kernel
theorem Wh : Told Go.Proofs.Tryz.prog 54 zc [.t 4] 2:=Told.of Go.Proofs.Tryz.func54 (by decide +kernel)
theorem Pj : ak Go.Proofs.Tryz.prog 54 = true:=by decide +kernel
theorem Wi : Told Go.Proofs.Tryz.prog 55 zd [.t 4] 2:=Told.of Go.Proofs.Tryz.func55 (by decide +kernel)
theorem Pk : ak Go.Proofs.Tryz.prog 55 = true:=by decide +kernel
theorem Wj : Told Go.Proofs.Tryz.prog 57 xZ [.t 2] 1:=Told.of Go.Proofs.Tryz.func57 (by decide +kernel)
theorem Pm : ak Go.Proofs.Tryz.prog 57 = true:=by decide +kernel
theorem Wk : Told Go.Proofs.Tryz.prog 58 yg [.t 2] 1:=Told.of Go.Proofs.Tryz.func58 (by decide +kernel)
theorem Pn : ak Go.Proofs.Tryz.prog 58 = true:=by decide +kernel
theorem Wl : Told Go.Proofs.Tryz.prog 59 yc [.t 2] 1:=Told.of Go.Proofs.Tryz.func59 (by decide +kernel)
theorem Po : ak Go.Proofs.Tryz.prog 59 = true:=by decide +kernel
theorem Wm : Told Go.Proofs.Tryz.prog 60 kK [.t 2] 1:=Told.of Go.Proofs.Tryz.func60 (by decide +kernel)
theorem Pp : ak Go.Proofs.Tryz.prog 60 = true:=by decide +kernel
theorem Wn : Told Go.Proofs.Tryz.prog 62 xL [.t 4] 2:=Told.of Go.Proofs.Tryz.func62 (by decide +kernel)
theorem Pq : ak Go.Proofs.Tryz.prog 62 = true:=by decide +kernel
theorem Wo : Told Go.Proofs.Tryz.prog 63 xP [.t 4] 2:=Told.of Go.Proofs.Tryz.func63 (by decide +kernel)
theorem Pr : ak Go.Proofs.Tryz.prog 63 = true:=by decide +kernel
theorem Wp : Told Go.Proofs.Tryz.prog 64 xO [.t 4] 2:=Told.of Go.Proofs.Tryz.func64 (by decide +kernel)
theorem Pt : ak Go.Proofs.Tryz.prog 64 = true:=by decide +kernel
theorem Wq : Told Go.Proofs.Tryz.prog 65 jo [.t 4] 2:=Told.of Go.Proofs.Tryz.func65 (by decide +kernel)
theorem Pu : ak Go.Proofs.Tryz.prog 65 = true:=by decide +kernel
theorem Ws : Told Go.Proofs.Tryz.prog 66 iW [.t 4] 2:=Told.of Go.Proofs.Tryz.func66 (by decide +kernel)
theorem Pv : ak Go.Proofs.Tryz.prog 66 = true:=by decide +kernel
theorem Wt : Told Go.Proofs.Tryz.prog 67 ql [.t 4] 2:=Told.of Go.Proofs.Tryz.func67 (by decide +kernel)
theorem Pw : ak Go.Proofs.Tryz.prog 67 = true:=by decide +kernel
theorem Wu : Told Go.Proofs.Tryz.prog 68 qd [.t 4] 2:=Told.of Go.Proofs.Tryz.func68 (by decide +kernel)
theorem Px : ak Go.Proofs.Tryz.prog 68 = true:=by decide +kernel
theorem Wv : Told Go.Proofs.Tryz.prog 69 qi [.t 4] 2:=Told.of Go.Proofs.Tryz.func69 (by decide +kernel)
theorem Py : ak Go.Proofs.Tryz.prog 69 = true:=by decide +kernel
theorem Ww : Told Go.Proofs.Tryz.prog 70 qR [.t 2] 1:=Told.of Go.Proofs.Tryz.func70 (by decide +kernel)
theorem Pz : ak Go.Proofs.Tryz.prog 70 = true:=by decide +kernel
theorem Wx : Told Go.Proofs.Tryz.prog 71 yJ [.c 2 6 true 122] 1:=Told.of Go.Proofs.Tryz.func71 (by decide +kernel)
theorem PA : ak Go.Proofs.Tryz.prog 71 = true:=by decide +kernel
theorem Wy : Told Go.Proofs.Tryz.prog 72 yO [.t 6] 3:=Told.of Go.Proofs.Tryz.func72 (by decide +kernel)
theorem PB : ak Go.Proofs.Tryz.prog 72 = true:=by decide +kernel
theorem Wz : Told Go.Proofs.Tryz.prog 73 x9 [.t 2] 1:=Told.of Go.Proofs.Tryz.func73 (by decide +kernel)
theorem PC : ak Go.Proofs.Tryz.prog 73 = true:=by decide +kernel
theorem WA : Told Go.Proofs.Tryz.prog 74 xT [.t 2] 1:=Told.of Go.Proofs.Tryz.func74 (by decide +kernel)
theorem PD : ak Go.Proofs.Tryz.prog 74 = true:=by decide +kernel
theorem WB : Told Go.Proofs.Tryz.prog 75 xX [.t 2] 1:=Told.of Go.Proofs.Tryz.func75 (by decide +kernel)
theorem PE : ak Go.Proofs.Tryz.prog 75 = true:=by decide +kernel
theorem WC : Told Go.Proofs.Tryz.prog 77 xQ [.t 4] 2:=Told.of Go.Proofs.Tryz.func77 (by decide +kernel)
theorem PF : ak Go.Proofs.Tryz.prog 77 = true:=by decide +kernel
theorem WD : Told Go.Proofs.Tryz.prog 78 n5 [.t 4] 2:=Told.of Go.Proofs.Tryz.func78 (by decide +kernel)
theorem PG : ak Go.Proofs.Tryz.prog 78 = true:=by decide +kernel
theorem WE : Told Go.Proofs.Tryz.prog 79 xN [.t 4] 2:=Told.of Go.Proofs.Tryz.func79 (by decide +kernel)
theorem PI : ak Go.Proofs.Tryz.prog 79 = true:=by decide +kernel
theorem WG : Told Go.Proofs.Tryz.prog 80 xJ [.t 4] 2:=Told.of Go.Proofs.Tryz.func80 (by decide +kernel)
theorem PJ : ak Go.Proofs.Tryz.prog 80 = true:=by decide +kernel
theorem WH : Told Go.Proofs.Tryz.prog 81 xK [.t 4] 2:=Told.of Go.Proofs.Tryz.func81 (by decide +kernel)
theorem PK : ak Go.Proofs.Tryz.prog 81 = true:=by decide +kernel
theorem WI : Told Go.Proofs.Tryz.prog 89 j6 [.t 2] 1:=Told.of Go.Proofs.Tryz.func89 (by decide +kernel)
theorem PL : ak Go.Proofs.Tryz.prog 89 = true:=by decide +kernel
theorem WJ : Told Go.Proofs.Tryz.prog 90 yW [.t 6] 3:=Told.of Go.Proofs.Tryz.func90 (by decide +kernel)
theorem PN : ak Go.Proofs.Tryz.prog 90 = true:=by decide +kernel
theorem WK : Told Go.Proofs.Tryz.prog 92 iY [.t 2] 1:=Told.of Go.Proofs.Tryz.func92 (by decide +kernel)
theorem PO : ak Go.Proofs.Tryz.prog 92 = true:=by decide +kernel
theorem WL : Told Go.Proofs.Tryz.prog 94 k7 [.t 2] 1:=Told.of Go.Proofs.Tryz.func94 (by decide +kernel)
theorem PR : ak Go.Proofs.Tryz.prog 94 = true:=by decide +kernel
theorem TV : Told Go.Proofs.Tryz.prog 105 qt [.t 4] 2:=Told.of Go.Proofs.Tryz.func105 (by decide +kernel)
theorem MN : ak Go.Proofs.Tryz.prog 105 = true:=by decide +kernel
theorem TW : Told Go.Proofs.Tryz.prog 106 qn [.t 4] 2:=Told.of Go.Proofs.Tryz.func106 (by decide +kernel)
theorem MO : ak Go.Proofs.Tryz.prog 106 = true:=by decide +kernel
theorem TX : Told Go.Proofs.Tryz.prog 108 iH [.t 2] 1:=Told.of Go.Proofs.Tryz.func108 (by decide +kernel)
theorem MP : ak Go.Proofs.Tryz.prog 108 = true:=by decide +kernel
theorem TZ : Told Go.Proofs.Tryz.prog 111 yl [.t 2] 1:=Told.of Go.Proofs.Tryz.func111 (by decide +kernel)
theorem MR : ak Go.Proofs.Tryz.prog 111 = true:=by decide +kernel
theorem T0 : Told Go.Proofs.Tryz.prog 112 yf [.c 2 3 true 59] 1:=Told.of Go.Proofs.Tryz.func112 (by decide +kernel)
theorem MS : ak Go.Proofs.Tryz.prog 112 = true:=by decide +kernel
theorem T3 : Told Go.Proofs.Tryz.prog 118 qu [.t 4] 2:=Told.of Go.Proofs.Tryz.func118 (by decide +kernel)
theorem MT : ak Go.Proofs.Tryz.prog 118 = true:=by decide +kernel
theorem T4 : Told Go.Proofs.Tryz.prog 119 yM [.t 2] 1:=Told.of Go.Proofs.Tryz.func119 (by decide +kernel)
theorem MU : ak Go.Proofs.Tryz.prog 119 = true:=by decide +kernel
theorem T5 : Told Go.Proofs.Tryz.prog 127 ym [.t 2] 1:=Told.of Go.Proofs.Tryz.func127 (by decide +kernel)
theorem MW : ak Go.Proofs.Tryz.prog 127 = true:=by decide +kernel
theorem T6 : Told Go.Proofs.Tryz.prog 128 wX [.t 2] 1:=Told.of Go.Proofs.Tryz.func128 (by decide +kernel)
theorem MX : ak Go.Proofs.Tryz.prog 128 = true:=by decide +kernel
theorem T8 : Told Go.Proofs.Tryz.prog 132 xR [.t 4] 2:=Told.of Go.Proofs.Tryz.func132 (by decide +kernel)
theorem MZ : ak Go.Proofs.Tryz.prog 132 = true:=by decide +kernel
theorem T9 : Told Go.Proofs.Tryz.prog 134 n7 [.t 4] 2:=Told.of Go.Proofs.Tryz.func134 (by decide +kernel)
theorem M0 : ak Go.Proofs.Tryz.prog 134 = true:=by decide +kernel
theorem Ua : Told Go.Proofs.Tryz.prog 135 qp [.t 4] 2:=Told.of Go.Proofs.Tryz.func135 (by decide +kernel)
theorem M1 : ak Go.Proofs.Tryz.prog 135 = true:=by decide +kernel
theorem Ub : Told Go.Proofs.Tryz.prog 136 n8 [.t 4] 2:=Told.of Go.Proofs.Tryz.func136 (by decide +kernel)
theorem M3 : ak Go.Proofs.Tryz.prog 136 = true:=by decide +kernel
theorem Uc : Told Go.Proofs.Tryz.prog 137 za [.t 6] 3:=Told.of Go.Proofs.Tryz.func137 (by decide +kernel)
theorem M4 : ak Go.Proofs.Tryz.prog 137 = true:=by decide +kernel
theorem Ud : Told Go.Proofs.Tryz.prog 138 jW [.t 4] 2:=Told.of Go.Proofs.Tryz.func138 (by decide +kernel)
theorem M5 : ak Go.Proofs.Tryz.prog 138 = true:=by decide +kernel
theorem Ue : Told Go.Proofs.Tryz.prog 140 x7 [.c 2 13 true 184] 1:=Told.of Go.Proofs.Tryz.func140 (by decide +kernel)
theorem M6 : ak Go.Proofs.Tryz.prog 140 = true:=by decide +kernel
theorem Uf : Told Go.Proofs.Tryz.prog 141 yh [.c 2 8 true 188] 1:=Told.of Go.Proofs.Tryz.func141 (by decide +kernel)
theorem M7 : ak Go.Proofs.Tryz.prog 141 = true:=by decide +kernel
theorem Ug : Told Go.Proofs.Tryz.prog 142 yd [.c 2 18 true 104] 1:=Told.of Go.Proofs.Tryz.func142 (by decide +kernel)
theorem M8 : ak Go.Proofs.Tryz.prog 142 = true:=by decide +kernel
theorem Uh : Told Go.Proofs.Tryz.prog 143 xC [.t 2] 1:=Told.of Go.Proofs.Tryz.func143 (by decide +kernel)
theorem M9 : ak Go.Proofs.Tryz.prog 143 = true:=by decide +kernel
theorem Ui : Told Go.Proofs.Tryz.prog 144 xw [.t 2] 1:=Told.of Go.Proofs.Tryz.func144 (by decide +kernel)
theorem Na : ak Go.Proofs.Tryz.prog 144 = true:=by decide +kernel
theorem Uj : Told Go.Proofs.Tryz.prog 146 mE [.t 4] 2:=Told.of Go.Proofs.Tryz.func146 (by decide +kernel)
theorem Nb : ak Go.Proofs.Tryz.prog 146 = true:=by decide +kernel
theorem Uk : Told Go.Proofs.Tryz.prog 147 n6 [.t 4] 2:=Told.of Go.Proofs.Tryz.func147 (by decide +kernel)
theorem Nc : ak Go.Proofs.Tryz.prog 147 = true:=by decide +kernel
theorem Ul : Told Go.Proofs.Tryz.prog 148 jb [.t 4] 2:=Told.of Go.Proofs.Tryz.func148 (by decide +kernel)
theorem Nd : ak Go.Proofs.Tryz.prog 148 = true:=by decide +kernel
theorem Um : Told Go.Proofs.Tryz.prog 149 y9 [.t 4] 2:=Told.of Go.Proofs.Tryz.func149 (by decide +kernel)
theorem Nf : ak Go.Proofs.Tryz.prog 149 = true:=by decide +kernel
theorem Uo : Told Go.Proofs.Tryz.prog 150 ov [.c 6 3 true 59] 3:=Told.of Go.Proofs.Tryz.func150 (by decide +kernel)
theorem Nh : ak Go.Proofs.Tryz.prog 150 = true:=by decide +kernel
theorem Up : Told Go.Proofs.Tryz.prog 151 yL [.t 4] 2:=Told.of Go.Proofs.Tryz.func151 (by decide +kernel)
theorem Ni : ak Go.Proofs.Tryz.prog 151 = true:=by decide +kernel
theorem Uq : Told Go.Proofs.Tryz.prog 152 wV [.c 2 6 true 122] 1:=Told.of Go.Proofs.Tryz.func152 (by decide +kernel)
theorem Nj : ak Go.Proofs.Tryz.prog 152 = true:=by decide +kernel
theorem Ur : Told Go.Proofs.Tryz.prog 153 wZ [.t 6] 3:=Told.of Go.Proofs.Tryz.func153 (by decide +kernel)
theorem Nk : ak Go.Proofs.Tryz.prog 153 = true:=by decide +kernel
theorem Us : Told Go.Proofs.Tryz.prog 154 xh [.t 6] 3:=Told.of Go.Proofs.Tryz.func154 (by decide +kernel)
theorem Nl : ak Go.Proofs.Tryz.prog 154 = true:=by decide +kernel
theorem Ut : Told Go.Proofs.Tryz.prog 155 xE [.t 4] 2:=Told.of Go.Proofs.Tryz.func155 (by decide +kernel)
theorem Nn : ak Go.Proofs.Tryz.prog 155 = true:=by decide +kernel
theorem Uu : Told Go.Proofs.Tryz.prog 156 nQ [.c 6 3 true 59] 3:=Told.of Go.Proofs.Tryz.func156 (by decide +kernel)
theorem Np : ak Go.Proofs.Tryz.prog 156 = true:=by decide +kernel
theorem Uv : Told Go.Proofs.Tryz.prog 157 sP [.t 4] 2:=Told.of Go.Proofs.Tryz.func157 (by decide +kernel)
theorem Nq : ak Go.Proofs.Tryz.prog 157 = true:=by decide +kernel
theorem Uw : Told Go.Proofs.Tryz.prog 158 tL [.t 4] 2:=Told.of Go.Proofs.Tryz.func158 (by decide +kernel)
theorem Nr : ak Go.Proofs.Tryz.prog 158 = true:=by decide +kernel
theorem Ux : Told Go.Proofs.Tryz.prog 159 qj [.t 4] 2:=Told.of Go.Proofs.Tryz.func159 (by decide +kernel)
theorem Ns : ak Go.Proofs.Tryz.prog 159 = true:=by decide +kernel
theorem Uz : Told Go.Proofs.Tryz.prog 160 oD [.t 2] 1:=Told.of Go.Proofs.Tryz.func160 (by decide +kernel)
theorem Nu : ak Go.Proofs.Tryz.prog 160 = true:=by decide +kernel
theorem UA : Told Go.Proofs.Tryz.prog 161 yN [.t 2] 1:=Told.of Go.Proofs.Tryz.func161 (by decide +kernel)
theorem Nv : ak Go.Proofs.Tryz.prog 161 = true:=by decide +kernel
theorem UB : Told Go.Proofs.Tryz.prog 162 uH [.t 4,.t 5] 2:=Told.of Go.Proofs.Tryz.func162 (by decide +kernel)
theorem Nw : ak Go.Proofs.Tryz.prog 162 = true:=by decide +kernel
theorem UC : Told Go.Proofs.Tryz.prog 163 yK [.c 2 6 true 122] 1:=Told.of Go.Proofs.Tryz.func163 (by decide +kernel)
theorem Nx : ak Go.Proofs.Tryz.prog 163 = true:=by decide +kernel
theorem UD : Told Go.Proofs.Tryz.prog 164 qN [.t 6] 3:=Told.of Go.Proofs.Tryz.func164 (by decide +kernel)
theorem Ny : ak Go.Proofs.Tryz.prog 164 = true:=by decide +kernel
theorem UE : Told Go.Proofs.Tryz.prog 165 yQ [.t 2] 1:=Told.of Go.Proofs.Tryz.func165 (by decide +kernel)
theorem Nz : ak Go.Proofs.Tryz.prog 165 = true:=by decide +kernel
theorem UF : Told Go.Proofs.Tryz.prog 166 ya [.c 2 9 true 108] 1:=Told.of Go.Proofs.Tryz.func166 (by decide +kernel)
theorem NA : ak Go.Proofs.Tryz.prog 166 = true:=by decide +kernel
theorem UG : Told Go.Proofs.Tryz.prog 167 xY [.c 2 2 true 214] 1:=Told.of Go.Proofs.Tryz.func167 (by decide +kernel)
theorem NB : ak Go.Proofs.Tryz.prog 167 = true:=by decide +kernel
theorem UH : Told Go.Proofs.Tryz.prog 168 xy [.t 2] 1:=Told.of Go.Proofs.Tryz.func168 (by decide +kernel)
theorem NC : ak Go.Proofs.Tryz.prog 168 = true:=by decide +kernel
theorem UI : Told Go.Proofs.Tryz.prog 169 n4 [.t 4] 2:=Told.of Go.Proofs.Tryz.func169 (by decide +kernel)
theorem ND : ak Go.Proofs.Tryz.prog 169 = true:=by decide +kernel
theorem UK : Told Go.Proofs.Tryz.prog 170 mD [.t 4] 2:=Told.of Go.Proofs.Tryz.func170 (by decide +kernel)
theorem NG : ak Go.Proofs.Tryz.prog 170 = true:=by decide +kernel
theorem UL : Told Go.Proofs.Tryz.prog 171 qb [.t 4] 2:=Told.of Go.Proofs.Tryz.func171 (by decide +kernel)
theorem NH : ak Go.Proofs.Tryz.prog 171 = true:=by decide +kernel
theorem UM : Told Go.Proofs.Tryz.prog 174 uY [.t 2] 1:=Told.of Go.Proofs.Tryz.func174 (by decide +kernel)
theorem NI : ak Go.Proofs.Tryz.prog 174 = true:=by decide +kernel
theorem UN : Told Go.Proofs.Tryz.prog 175 qY [.t 4] 2:=Told.of Go.Proofs.Tryz.func175 (by decide +kernel)
theorem NJ : ak Go.Proofs.Tryz.prog 175 = true:=by decide +kernel
theorem UO : Told Go.Proofs.Tryz.prog 176 yZ [.t 4] 2:=Told.of Go.Proofs.Tryz.func176 (by decide +kernel)
theorem NK : ak Go.Proofs.Tryz.prog 176 = true:=by decide +kernel
theorem UP : Told Go.Proofs.Tryz.prog 177 zh [.c 2 3 true 59] 1:=Told.of Go.Proofs.Tryz.func177 (by decide +kernel)
theorem NL : ak Go.Proofs.Tryz.prog 177 = true:=by decide +kernel
theorem UQ : Told Go.Proofs.Tryz.prog 178 kJ [.t 2] 1:=Told.of Go.Proofs.Tryz.func178 (by decide +kernel)
theorem NM : ak Go.Proofs.Tryz.prog 178 = true:=by decide +kernel
theorem UR : Told Go.Proofs.Tryz.prog 179 xB [.t 2] 1:=Told.of Go.Proofs.Tryz.func179 (by decide +kernel)
theorem NN : ak Go.Proofs.Tryz.prog 179 = true:=by decide +kernel
theorem UT : Told Go.Proofs.Tryz.prog 180 xx [.t 6] 3:=Told.of Go.Proofs.Tryz.func180 (by decide +kernel)
theorem NP : ak Go.Proofs.Tryz.prog 180 = true:=by decide +kernel
theorem UU : Told Go.Proofs.Tryz.prog 181 xb [.t 2] 1:=Told.of Go.Proofs.Tryz.func181 (by decide +kernel)
theorem NQ : ak Go.Proofs.Tryz.prog 181 = true:=by decide +kernel
theorem UW : Told Go.Proofs.Tryz.prog 184 yX [.t 2] 1:=Told.of Go.Proofs.Tryz.func184 (by decide +kernel)
theorem NR : ak Go.Proofs.Tryz.prog 184 = true:=by decide +kernel
theorem UX : Told Go.Proofs.Tryz.prog 185 oC [.t 2] 1:=Told.of Go.Proofs.Tryz.func185 (by decide +kernel)
theorem NS : ak Go.Proofs.Tryz.prog 185 = true:=by decide +kernel
theorem UY : Told Go.Proofs.Tryz.prog 189 qQ [.t 2] 1:=Told.of Go.Proofs.Tryz.func189 (by decide +kernel)
theorem NT : ak Go.Proofs.Tryz.prog 189 = true:=by decide +kernel
theorem U0 : Told Go.Proofs.Tryz.prog 201 oA [.t 2] 1:=Told.of Go.Proofs.Tryz.func201 (by decide +kernel)
theorem NV : ak Go.Proofs.Tryz.prog 201 = true:=by decide +kernel
theorem U1 : Told Go.Proofs.Tryz.prog 202 zg [.t 2] 1:=Told.of Go.Proofs.Tryz.func202 (by decide +kernel)
theorem NW : ak Go.Proofs.Tryz.prog 202 = true:=by decide +kernel
theorem U2 : Told Go.Proofs.Tryz.prog 203 y6 [.t 2] 1:=Told.of Go.Proofs.Tryz.func203 (by decide +kernel)
theorem NX : ak Go.Proofs.Tryz.prog 203 = true:=by decide +kernel
theorem U3 : Told Go.Proofs.Tryz.prog 205 iB [.t 2] 1:=Told.of Go.Proofs.Tryz.func205 (by decide +kernel)
theorem NY : ak Go.Proofs.Tryz.prog 205 = true:=by decide +kernel
theorem U5 : Told Go.Proofs.Tryz.prog 211 tP [.t 4] 2:=Told.of Go.Proofs.Tryz.func211 (by decide +kernel)
theorem N0 : ak Go.Proofs.Tryz.prog 211 = true:=by decide +kernel
theorem U6 : Told Go.Proofs.Tryz.prog 216 mQ [.t 2,.t 3] 1:=Told.of Go.Proofs.Tryz.func216 (by decide +kernel)
theorem N1 : ak Go.Proofs.Tryz.prog 216 = true:=by decide +kernel
theorem U7 : Told Go.Proofs.Tryz.prog 218 yo [.c 2 2 true 246] 1:=Told.of Go.Proofs.Tryz.func218 (by decide +kernel)
theorem N2 : ak Go.Proofs.Tryz.prog 218 = true:=by decide +kernel
theorem U8 : Told Go.Proofs.Tryz.prog 219 xA [.t 2] 1:=Told.of Go.Proofs.Tryz.func219 (by decide +kernel)
theorem N3 : ak Go.Proofs.Tryz.prog 219 = true:=by decide +kernel
theorem Va : Told Go.Proofs.Tryz.prog 223 vo [.t 4] 2:=Told.of Go.Proofs.Tryz.func223 (by decide +kernel)
theorem N5 : ak Go.Proofs.Tryz.prog 223 = true:=by decide +kernel
theorem Vb : Told Go.Proofs.Tryz.prog 227 qc [.t 4] 2:=Told.of Go.Proofs.Tryz.func227 (by decide +kernel)
theorem N6 : ak Go.Proofs.Tryz.prog 227 = true:=by decide +kernel
theorem Vc : Told Go.Proofs.Tryz.prog 228 tJ [.t 4] 2:=Told.of Go.Proofs.Tryz.func228 (by decide +kernel)
theorem N7 : ak Go.Proofs.Tryz.prog 228 = true:=by decide +kernel
theorem Vd : Told Go.Proofs.Tryz.prog 229 qV [.t 4] 2:=Told.of Go.Proofs.Tryz.func229 (by decide +kernel)
theorem N8 : ak Go.Proofs.Tryz.prog 229 = true:=by decide +kernel
theorem Ve : Told Go.Proofs.Tryz.prog 230 x8 [.t 2] 1:=Told.of Go.Proofs.Tryz.func230 (by decide +kernel)
theorem N9 : ak Go.Proofs.Tryz.prog 230 = true:=by decide +kernel
theorem Vf : Told Go.Proofs.Tryz.prog 231 pS [.t 2] 1:=Told.of Go.Proofs.Tryz.func231 (by decide +kernel)
theorem Oa : ak Go.Proofs.Tryz.prog 231 = true:=by decide +kernel
theorem Vg : Told Go.Proofs.Tryz.prog 232 nP [.t 4] 2:=Told.of Go.Proofs.Tryz.func232 (by decide +kernel)
theorem Oc : ak Go.Proofs.Tryz.prog 232 = true:=by decide +kernel
theorem Vh : Told Go.Proofs.Tryz.prog 234 sS [.t 4,.t 5] 2:=Told.of Go.Proofs.Tryz.func234 (by decide +kernel)
theorem Od : ak Go.Proofs.Tryz.prog 234 = true:=by decide +kernel
theorem Vi : Told Go.Proofs.Tryz.prog 235 xM [.t 4] 2:=Told.of Go.Proofs.Tryz.func235 (by decide +kernel)
theorem Oe : ak Go.Proofs.Tryz.prog 235 = true:=by decide +kernel
theorem Vj : Told Go.Proofs.Tryz.prog 236 qS [.t 4] 2:=Told.of Go.Proofs.Tryz.func236 (by decide +kernel)
theorem Og : ak Go.Proofs.Tryz.prog 236 = true:=by decide +kernel
theorem Vk : Told Go.Proofs.Tryz.prog 237 yU [.c 2 3 true 59] 1:=Told.of Go.Proofs.Tryz.func237 (by decide +kernel)
theorem Oh : ak Go.Proofs.Tryz.prog 237 = true:=by decide +kernel
theorem Vl : Told Go.Proofs.Tryz.prog 238 uL [.t 6] 3:=Told.of Go.Proofs.Tryz.func238 (by decide +kernel)
theorem Oi : ak Go.Proofs.Tryz.prog 238 = true:=by decide +kernel
theorem Vm : Told Go.Proofs.Tryz.prog 239 wW [.c 2 6 true 122] 1:=Told.of Go.Proofs.Tryz.func239 (by decide +kernel)
theorem Oj : ak Go.Proofs.Tryz.prog 239 = true:=by decide +kernel
theorem Vo : Told Go.Proofs.Tryz.prog 240 pQ [.t 6] 3:=Told.of Go.Proofs.Tryz.func240 (by decide +kernel)
theorem Om : ak Go.Proofs.Tryz.prog 240 = true:=by decide +kernel
theorem Vp : Told Go.Proofs.Tryz.prog 241 w6 [.t 2] 1:=Told.of Go.Proofs.Tryz.func241 (by decide +kernel)
theorem On : ak Go.Proofs.Tryz.prog 241 = true:=by decide +kernel
theorem Vq : Told Go.Proofs.Tryz.prog 242 vp [.t 4] 2:=Told.of Go.Proofs.Tryz.func242 (by decide +kernel)
theorem Oo : ak Go.Proofs.Tryz.prog 242 = true:=by decide +kernel
theorem Vr : Told Go.Proofs.Tryz.prog 243 zI [.t 4] 2:=Told.of Go.Proofs.Tryz.func243 (by decide +kernel)
theorem Oq : ak Go.Proofs.Tryz.prog 243 = true:=by decide +kernel
theorem Vs : Told Go.Proofs.Tryz.prog 244 xl [.t 4] 2:=Told.of Go.Proofs.Tryz.func244 (by decide +kernel)
theorem Ot : ak Go.Proofs.Tryz.prog 244 = true:=by decide +kernel
theorem Vt : Told Go.Proofs.Tryz.prog 245 zH [.t 4] 2:=Told.of Go.Proofs.Tryz.func245 (by decide +kernel)
theorem Ou : ak Go.Proofs.Tryz.prog 245 = true:=by decide +kernel
theorem Vu : Told Go.Proofs.Tryz.prog 246 xp [.c 2 3 true 59] 1:=Told.of Go.Proofs.Tryz.func246 (by decide +kernel)
theorem Ov : ak Go.Proofs.Tryz.prog 246 = true:=by decide +kernel
theorem Vv : Told Go.Proofs.Tryz.prog 247 pT [.t 4] 2:=Told.of Go.Proofs.Tryz.func247 (by decide +kernel)
theorem Ow : ak Go.Proofs.Tryz.prog 247 = true:=by decide +kernel
theorem Vw : Told Go.Proofs.Tryz.prog 248 xd [.c 2 3 true 59] 1:=Told.of Go.Proofs.Tryz.func248 (by decide +kernel)
theorem Ox : ak Go.Proofs.Tryz.prog 248 = true:=by decide +kernel
theorem Vx : Told Go.Proofs.Tryz.prog 249 sY [.t 6] 3:=Told.of Go.Proofs.Tryz.func249 (by decide +kernel)
theorem Oy : ak Go.Proofs.Tryz.prog 249 = true:=by decide +kernel
theorem Vz : Told Go.Proofs.Tryz.prog 250 sW [.t 2] 1:=Told.of Go.Proofs.Tryz.func250 (by decide +kernel)
theorem OA : ak Go.Proofs.Tryz.prog 250 = true:=by decide +kernel
theorem VA : Told Go.Proofs.Tryz.prog 251 nT [.t 2] 1:=Told.of Go.Proofs.Tryz.func251 (by decide +kernel)
theorem OB : ak Go.Proofs.Tryz.prog 251 = true:=by decide +kernel
theorem VB : Told Go.Proofs.Tryz.prog 252 uV [.t 4] 2:=Told.of Go.Proofs.Tryz.func252 (by decide +kernel)
theorem OC : ak Go.Proofs.Tryz.prog 252 = true:=by decide +kernel
theorem VC : Told Go.Proofs.Tryz.prog 253 yV [.t 2] 1:=Told.of Go.Proofs.Tryz.func253 (by decide +kernel)
theorem OD : ak Go.Proofs.Tryz.prog 253 = true:=by decide +kernel
theorem VD : Told Go.Proofs.Tryz.prog 254 yR [.t 2] 1:=Told.of Go.Proofs.Tryz.func254 (by decide +kernel)
theorem OE : ak Go.Proofs.Tryz.prog 254 = true:=by decide +kernel
theorem VE : Told Go.Proofs.Tryz.prog 255 qW [.t 2,.t 3] 1:=Told.of Go.Proofs.Tryz.func255 (by decide +kernel)
theorem OG : ak Go.Proofs.Tryz.prog 255 = true:=by decide +kernel
theorem VF : Told Go.Proofs.Tryz.prog 256 yT [.t 4] 2:=Told.of Go.Proofs.Tryz.func256 (by decide +kernel)
theorem OH : ak Go.Proofs.Tryz.prog 256 = true:=by decide +kernel
theorem VG : Told Go.Proofs.Tryz.prog 257 oE [.t 4] 2:=Told.of Go.Proofs.Tryz.func257 (by decide +kernel)
theorem OI : ak Go.Proofs.Tryz.prog 257 = true:=by decide +kernel
theorem VH : Told Go.Proofs.Tryz.prog 258 zf [.t 2] 1:=Told.of Go.Proofs.Tryz.func258 (by decide +kernel)
theorem OJ : ak Go.Proofs.Tryz.prog 258 = true:=by decide +kernel
theorem VI : Told Go.Proofs.Tryz.prog 259 pX [.t 2] 1:=Told.of Go.Proofs.Tryz.func259 (by decide +kernel)
theorem OK : ak Go.Proofs.Tryz.prog 259 = true:=by decide +kernel
theorem VK : Told Go.Proofs.Tryz.prog 260 xj [.t 2] 1:=Told.of Go.Proofs.Tryz.func260 (by decide +kernel)
theorem OM : ak Go.Proofs.Tryz.prog 260 = true:=by decide +kernel
theorem VL : Told Go.Proofs.Tryz.prog 261 nU [.t 2] 1:=Told.of Go.Proofs.Tryz.func261 (by decide +kernel)
theorem ON : ak Go.Proofs.Tryz.prog 261 = true:=by decide +kernel
theorem VM : Told Go.Proofs.Tryz.prog 262 w9 [.t 3] 2:=Told.of Go.Proofs.Tryz.func262 (by decide +kernel)
theorem OO : ak Go.Proofs.Tryz.prog 262 = true:=by decide +kernel
theorem VN : Told Go.Proofs.Tryz.prog 264 yY [.t 2] 1:=Told.of Go.Proofs.Tryz.func264 (by decide +kernel)
theorem OP : ak Go.Proofs.Tryz.prog 264 = true:=by decide +kernel
theorem VO : Told Go.Proofs.Tryz.prog 268 vz [.t 4] 2:=Told.of Go.Proofs.Tryz.func268 (by decide +kernel)
theorem OQ : ak Go.Proofs.Tryz.prog 268 = true:=by decide +kernel
theorem VP : Told Go.Proofs.Tryz.prog 271 xD [.t 2] 1:=Told.of Go.Proofs.Tryz.func271 (by decide +kernel)
theorem OR : ak Go.Proofs.Tryz.prog 271 = true:=by decide +kernel
theorem VQ : Told Go.Proofs.Tryz.prog 272 xm [.t 2] 1:=Told.of Go.Proofs.Tryz.func272 (by decide +kernel)
theorem OS : ak Go.Proofs.Tryz.prog 272 = true:=by decide +kernel
theorem VR : Told Go.Proofs.Tryz.prog 294 wY [.t 2] 1:=Told.of Go.Proofs.Tryz.func294 (by decide +kernel)
theorem OT : ak Go.Proofs.Tryz.prog 294 = true:=by decide +kernel
theorem VS : Told Go.Proofs.Tryz.prog 296 xu [.t 4] 2:=Told.of Go.Proofs.Tryz.func296 (by decide +kernel)
theorem OU : ak Go.Proofs.Tryz.prog 296 = true:=by decide +kernel
theorem VT : Told Go.Proofs.Tryz.prog 297 xg [.t 2] 1:=Told.of Go.Proofs.Tryz.func297 (by decide +kernel)
theorem OV : ak Go.Proofs.Tryz.prog 297 = true:=by decide +kernel
theorem VU : Told Go.Proofs.Tryz.prog 298 kL [] 2:=Told.of Go.Proofs.Tryz.func298 (by decide +kernel)
theorem OW : ak Go.Proofs.Tryz.prog 298 = true:=by decide +kernel
theorem VV : Told Go.Proofs.Tryz.prog 299 w7 [.t 2] 1:=Told.of Go.Proofs.Tryz.func299 (by decide +kernel)
theorem OX : ak Go.Proofs.Tryz.prog 299 = true:=by decide +kernel
theorem VW : Told Go.Proofs.Tryz.prog 301 w8 [.t 4] 2:=Told.of Go.Proofs.Tryz.func301 (by decide +kernel)
theorem OY : ak Go.Proofs.Tryz.prog 301 = true:=by decide +kernel
theorem VX : Told Go.Proofs.Tryz.prog 302 pY [.t 4] 2:=Told.of Go.Proofs.Tryz.func302 (by decide +kernel)
theorem OZ : ak Go.Proofs.Tryz.prog 302 = true:=by decide +kernel
theorem VY : Told Go.Proofs.Tryz.prog 303 vB [.t 4] 2:=Told.of Go.Proofs.Tryz.func303 (by decide +kernel)
theorem O0 : ak Go.Proofs.Tryz.prog 303 = true:=by decide +kernel
theorem V0 : Told Go.Proofs.Tryz.prog 305 xo [.t 4] 2:=Told.of Go.Proofs.Tryz.func305 (by decide +kernel)
theorem O1 : ak Go.Proofs.Tryz.prog 305 = true:=by decide +kernel
theorem V1 : Told Go.Proofs.Tryz.prog 306 xk [.t 2] 1:=Told.of Go.Proofs.Tryz.func306 (by decide +kernel)
theorem O2 : ak Go.Proofs.Tryz.prog 306 = true:=by decide +kernel
theorem V2 : Told Go.Proofs.Tryz.prog 320 vu [.t 4] 2:=Told.of Go.Proofs.Tryz.func320 (by decide +kernel)
theorem O3 : ak Go.Proofs.Tryz.prog 320 = true:=by decide +kernel
theorem V3 : Told Go.Proofs.Tryz.prog 321 xq [.t 3] 2:=Told.of Go.Proofs.Tryz.func321 (by decide +kernel)
theorem O4 : ak Go.Proofs.Tryz.prog 321 = true:=by decide +kernel
theorem V4 : Told Go.Proofs.Tryz.prog 324 xF [.t 2] 1:=Told.of Go.Proofs.Tryz.func324 (by decide +kernel)
theorem O5 : ak Go.Proofs.Tryz.prog 324 = true:=by decide +kernel
theorem VZ : Told Go.Proofs.Tryz.prog 304 (vX 2 32) [.t 2] 1:=Told.of Go.Proofs.Tryz.func304 (by decide +kernel)
theorem Xd : TT.Ok Go.Proofs.Tryz.prog:=by
  refine ⟨fun f F h=>?_,fun f F h=>?_⟩
  · unfold TT at h
    split at h
    · cases h; exact V8
    · cases h; exact TY
    · cases h; exact T7
    · cases h; exact Un
    · cases h; exact Uy
    · cases h; exact UJ
    · cases h; exact US
    · cases h; exact UZ
    · cases h; exact U4
    · cases h; exact U9
    · cases h; exact Vn
    · cases h; exact Vy
    · cases h; exact VJ
    · cases h; exact V5
    · cases h; exact V6
    · cases h; exact V7
    · cases h; exact V9
    · cases h; exact Wa
    · cases h; exact Wb
    · cases h; exact Wc
    · cases h; exact Wd
    · cases h; exact We
    · cases h; exact Wf
    · cases h; exact Wg
    · cases h; exact Wh
    · cases h; exact Wi
    · cases h; exact Wj
    · cases h; exact Wk
    · cases h; exact Wl
    · cases h; exact Wm
    · cases h; exact Wn
    · cases h; exact Wo
    · cases h; exact Wp
    · cases h; exact Wq
    · cases h; exact Ws
    · cases h; exact Wt
    · cases h; exact Wu
    · cases h; exact Wv
    · cases h; exact Ww
    · cases h; exact Wx
    · cases h; exact Wy
    · cases h; exact Wz
    · cases h; exact WA
    · cases h; exact WB
    · cases h; exact WC
    · cases h; exact WD
    · cases h; exact WE
    · cases h; exact WG
    · cases h; exact WH
    · cases h; exact WI
    · cases h; exact WJ
    · cases h; exact WK
    · cases h; exact WL
    · cases h; exact TV
    · cases h; exact TW
    · cases h; exact TX
    · cases h; exact TZ
    · cases h; exact T0
    · cases h; exact T3
    · cases h; exact T4
    · cases h; exact T5
    · cases h; exact T6
    · cases h; exact T8
    · cases h; exact T9
    · cases h; exact Ua
    · cases h; exact Ub
    · cases h; exact Uc
    · cases h; exact Ud
    · cases h; exact Ue
    · cases h; exact Uf
    · cases h; exact Ug
    · cases h; exact Uh
    · cases h; exact Ui
    · cases h; exact Uj
    · cases h; exact Uk
    · cases h; exact Ul
    · cases h; exact Um
    · cases h; exact Uo
    · cases h; exact Up
    · cases h; exact Uq
    · cases h; exact Ur
    · cases h; exact Us
    · cases h; exact Ut
    · cases h; exact Uu
    · cases h; exact Uv
    · cases h; exact Uw
    · cases h; exact Ux
    · cases h; exact Uz
    · cases h; exact UA
    · cases h; exact UB
    · cases h; exact UC
    · cases h; exact UD
    · cases h; exact UE
    · cases h; exact UF
    · cases h; exact UG
    · cases h; exact UH
    · cases h; exact UI
    · cases h; exact UK
    · cases h; exact UL
    · cases h; exact UM
    · cases h; exact UN
    · cases h; exact UO
    · cases h; exact UP
    · cases h; exact UQ
    · cases h; exact UR
    · cases h; exact UT
    · cases h; exact UU
    · cases h; exact UW
    · cases h; exact UX
    · cases h; exact UY
    · cases h; exact U0
    · cases h; exact U1
    · cases h; exact U2
    · cases h; exact U3
    · cases h; exact U5
    · cases h; exact U6
    · cases h; exact U7
    · cases h; exact U8
    · cases h; exact Va
    · cases h; exact Vb
    · cases h; exact Vc
    · cases h; exact Vd
    · cases h; exact Ve
    · cases h; exact Vf
    · cases h; exact Vg
    · cases h; exact Vh
    · cases h; exact Vi
    · cases h; exact Vj
    · cases h; exact Vk
    · cases h; exact Vl
    · cases h; exact Vm
    · cases h; exact Vo
    · cases h; exact Vp
    · cases h; exact Vq
    · cases h; exact Vr
    · cases h; exact Vs
    · cases h; exact Vt
    · cases h; exact Vu
    · cases h; exact Vv
    · cases h; exact Vw
    · cases h; exact Vx
    · cases h; exact Vz
    · cases h; exact VA
    · cases h; exact VB
    · cases h; exact VC
    · cases h; exact VD
    · cases h; exact VE
    · cases h; exact VF
    · cases h; exact VG
    · cases h; exact VH
    · cases h; exact VI
    · cases h; exact VK
    · cases h; exact VL
    · cases h; exact VM
    · cases h; exact VN
    · cases h; exact VO
    · cases h; exact VP
    · cases h; exact VQ
    · cases h; exact VR
    · cases h; exact VS
    · cases h; exact VT
    · cases h; exact VU
    · cases h; exact VV
    · cases h; exact VW
    · cases h; exact VX
    · cases h; exact VY
    · cases h; exact V0
    · cases h; exact V1
    · cases h; exact V2
    · cases h; exact V3
    · cases h; exact V4
    · cases h
  · unfold TT at h
    split at h
    · cases h; exact O9
    · cases h; exact MQ
    · cases h; exact MY
    · cases h; exact Ng
    · cases h; exact Nt
    · cases h; exact NF
    · cases h; exact NO
    · cases h; exact NU
    · cases h; exact NZ
    · cases h; exact N4
    · cases h; exact Ol
    · cases h; exact Oz
    · cases h; exact OL
    · cases h; exact O6
    · cases h; exact O7
    · cases h; exact O8
    · cases h; exact Pa
    · cases h; exact Pb
    · cases h; exact Pc
    · cases h; exact Pd
    · cases h; exact Pe
    · cases h; exact Pf
    · cases h; exact Pg
    · cases h; exact Ph
    · cases h; exact Pj
    · cases h; exact Pk
    · cases h; exact Pm
    · cases h; exact Pn
    · cases h; exact Po
    · cases h; exact Pp
    · cases h; exact Pq
    · cases h; exact Pr
    · cases h; exact Pt
    · cases h; exact Pu
    · cases h; exact Pv
    · cases h; exact Pw
    · cases h; exact Px
    · cases h; exact Py
    · cases h; exact Pz
    · cases h; exact PA
    · cases h; exact PB
    · cases h; exact PC
    · cases h; exact PD
    · cases h; exact PE
    · cases h; exact PF
    · cases h; exact PG
    · cases h; exact PI
    · cases h; exact PJ
    · cases h; exact PK
    · cases h; exact PL
    · cases h; exact PN
    · cases h; exact PO
    · cases h; exact PR
    · cases h; exact MN
    · cases h; exact MO
    · cases h; exact MP
    · cases h; exact MR
    · cases h; exact MS
    · cases h; exact MT
    · cases h; exact MU
    · cases h; exact MW
    · cases h; exact MX
    · cases h; exact MZ
    · cases h; exact M0
    · cases h; exact M1
    · cases h; exact M3
    · cases h; exact M4
    · cases h; exact M5
    · cases h; exact M6
    · cases h; exact M7
    · cases h; exact M8
    · cases h; exact M9
    · cases h; exact Na
    · cases h; exact Nb
    · cases h; exact Nc
    · cases h; exact Nd
    · cases h; exact Nf
    · cases h; exact Nh
    · cases h; exact Ni
    · cases h; exact Nj
    · cases h; exact Nk
    · cases h; exact Nl
    · cases h; exact Nn
    · cases h; exact Np
    · cases h; exact Nq
    · cases h; exact Nr
    · cases h; exact Ns
    · cases h; exact Nu
    · cases h; exact Nv
    · cases h; exact Nw
    · cases h; exact Nx
    · cases h; exact Ny
    · cases h; exact Nz
    · cases h; exact NA
    · cases h; exact NB
    · cases h; exact NC
    · cases h; exact ND
    · cases h; exact NG
    · cases h; exact NH
    · cases h; exact NI
    · cases h; exact NJ
    · cases h; exact NK
    · cases h; exact NL
    · cases h; exact NM
    · cases h; exact NN
    · cases h; exact NP
    · cases h; exact NQ
    · cases h; exact NR
    · cases h; exact NS
    · cases h; exact NT
    · cases h; exact NV
    · cases h; exact NW
    · cases h; exact NX
    · cases h; exact NY
    · cases h; exact N0
    · cases h; exact N1
    · cases h; exact N2
    · cases h; exact N3
    · cases h; exact N5
    · cases h; exact N6
    · cases h; exact N7
    · cases h; exact N8
    · cases h; exact N9
    · cases h; exact Oa
    · cases h; exact Oc
    · cases h; exact Od
    · cases h; exact Oe
    · cases h; exact Og
    · cases h; exact Oh
    · cases h; exact Oi
    · cases h; exact Oj
    · cases h; exact Om
    · cases h; exact On
    · cases h; exact Oo
    · cases h; exact Oq
    · cases h; exact Ot
    · cases h; exact Ou
    · cases h; exact Ov
    · cases h; exact Ow
    · cases h; exact Ox
    · cases h; exact Oy
    · cases h; exact OA
    · cases h; exact OB
    · cases h; exact OC
    · cases h; exact OD
    · cases h; exact OE
    · cases h; exact OG
    · cases h; exact OH
    · cases h; exact OI
    · cases h; exact OJ
    · cases h; exact OK
    · cases h; exact OM
    · cases h; exact ON
    · cases h; exact OO
    · cases h; exact OP
    · cases h; exact OQ
    · cases h; exact OR
    · cases h; exact OS
    · cases h; exact OT
    · cases h; exact OU
    · cases h; exact OV
    · cases h; exact OW
    · cases h; exact OX
    · cases h; exact OY
    · cases h; exact OZ
    · cases h; exact O0
    · cases h; exact O1
    · cases h; exact O2
    · cases h; exact O3
    · cases h; exact O4
    · cases h; exact O5
    · cases h
theorem Xc (htab : Lib.TabIs Go.Proofs.Tryz.prog Bs.W0 "internal/strconv.uint64pow10" .u64 Lib.pow10Tab) (hmax : ∃ m,Bs.W0.cell? ⟨1,0,none⟩ = some (.int .i64 m)) (Bl : ∃ te pe,Bs.W0.var? Go.Proofs.Tryz.prog "strconv.ErrSyntax" = some #[.iface te pe]) (gv : ∃ te pe,Bs.W0.var? Go.Proofs.Tryz.prog "strconv.ErrRange" = some #[.iface te pe]) : LI.Sound Go.Proofs.Tryz.prog:=(uy (R5 fun s w hw hs=>Go.Proofs.R0 htab Bl gv s w hw hs) (uy (L6 VZ) (uy (Q9 htab fun n h0 h1 w ht=>Go.Proofs.Tryz.strconv_Itoa n h0 h1 w ht) (uy (Mm fun s p w=>Go.Proofs.Tryz.strings_CutPrefix s p w) (uy (TD (g1:=1) (t9:=_) hmax fun s sep m w h1 h2 h3=>Go.Proofs.Tryz.strings_Split s sep m w h1 h2 h3) (WM fun s c h w hs=>Go.Proofs.Tryz.strings_Trim_one s c h w hs))))))
end M
