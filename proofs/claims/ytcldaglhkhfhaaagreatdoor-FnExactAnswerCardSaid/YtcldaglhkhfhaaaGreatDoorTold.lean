/- Each function of the table is the program's, and the library is as it is said to be; no conditions. -/
import Derived.Test.YtcldaglhkhfhaaaGreatDoorProg
import Derived.Test.YtcldaglhkhfhaaaGreatDoorLay
import Derived.Test.YtcldaglhkhfhaaaGreatDoorTab
import Derived.Test.YtcldaglhkhfhaaaGreatDoorMd
set_option linter.unusedSectionVars false
set_option linter.unusedVariables false
set_option linter.unusedSectionVars false
set_option maxRecDepth 100000
namespace Go.Proofs
open Go.RowKit
set_option maxHeartbeats 2000000 in
set_option maxRecDepth 100000 in
theorem nr_long (s : ByteArray) (h : 7 < s.size) (w : World) :
    Calls Go.Proofs.Tryz.prog 60 #[.string s] w fun e w' => e = .returned (.tuple #[.int .i64 0, .bool false]) ∧ w' = w := by
  go_enter Tryz.func60, Tryz.ntmps60
  go_wp2
  · go_ret2; exact ⟨rfl, rfl⟩
set_option maxHeartbeats 2000000 in
set_option maxRecDepth 100000 in
theorem nr_ok (s : ByteArray) (h : ¬ 7 < s.size) (v : Int) (hv : Lib.atoiAll s.data.toList = .ok v) (w : World) (htab : Lib.TabIs Go.Proofs.Tryz.prog w "internal/strconv.uint64pow10" .u64 Lib.pow10Tab) :
    Calls Go.Proofs.Tryz.prog 60 #[.string s] w fun e w' => e = .returned (.tuple #[.int .i64 (nrV v s.data.toList), .bool (nrB v s.data.toList)]) ∧ Below w.heap.size w w' := by
  have hvb := Lib.atoiAll_bounds hv
  go_enter Tryz.func60, Tryz.ntmps60
  go_wp2_with (first
    | (go_at_call 116; refine (Tryz.strconv_Atoi_ok s (by omega) v hv _).mono ?_; rintro e W1 ⟨rfl, hW1⟩; have hb1 : Below w.heap.size w W1 := (by rcases hW1 with rfl | ⟨t, rfl⟩; exact Below.refl _ _; exact Lib.bytesWorld_below _ _ _); clear hW1)
    | (go_at_call 111; refine (Tryz.strconv_Itoa v hvb.1 hvb.2 _ (tab_below htab hb1)).mono ?_; rintro e W2 ⟨rfl, k, os, hW2⟩; have hb2 : Below w.heap.size w W2 := (by subst hW2; exact hb1.trans ((grow_below W1 k os).mono hb1.size)); clear hW2)
    | go_in)
  all_goals go_ret2
  all_goals refine ⟨?_, by assumption⟩
  all_goals first
    | (have hb : nrB v s.data.toList = true := (by
        unfold nrB
        rw [decide_eq_true_eq]
        refine ⟨by assumption, by assumption, ?_⟩
        rw [← Lib.toList_data]
        rename_i hz
        simpa using hz)
       rw [nrV, if_pos hb, hb]; rfl)
    | (have hb : nrB v s.data.toList = false := (by
        unfold nrB
        rw [decide_eq_false_iff_not]
        rintro ⟨h1, h2, h3⟩
        first
        | omega
        | (rw [← Lib.toList_data] at h3
           rename_i hz
           simp [h3] at hz))
       rw [nrV, hb]; rfl)
set_option maxHeartbeats 2000000 in
set_option maxRecDepth 100000 in
theorem nr_bad (s : ByteArray) (h : ¬ 7 < s.size) (w : World)
    (hA : Calls Go.Proofs.Tryz.prog 116 #[.string s] w fun e w' => ∃ n t N, e = .returned (.tuple #[.int .i64 n, .iface t (.pointer (some ⟨N, 0, none⟩))]) ∧ Below w.heap.size w w') :
    Calls Go.Proofs.Tryz.prog 60 #[.string s] w fun e w' => e = .returned (.tuple #[.int .i64 0, .bool false]) ∧ Below w.heap.size w w' := by
  go_enter Tryz.func60, Tryz.ntmps60
  go_wp2_with (first
    | (go_at_call 116; refine hA.mono ?_; rintro e W1 ⟨n, t, N, rfl, hb1⟩)
    | go_in)
  all_goals go_ret2
  all_goals exact ⟨rfl, by assumption⟩
theorem nr_all [B : M.Bs] (htab : Lib.TabIs Go.Proofs.Tryz.prog B.W0 "internal/strconv.uint64pow10" .u64 Lib.pow10Tab) (hes : ∃ te pe, B.W0.var? Go.Proofs.Tryz.prog "strconv.ErrSyntax" = some #[.iface te pe]) (her : ∃ te pe, B.W0.var? Go.Proofs.Tryz.prog "strconv.ErrRange" = some #[.iface te pe])
    (s : ByteArray) (w : World) (hw : M.Same0 w) (hs : s.size ≤ 9223372036854775807) :
    Calls Go.Proofs.Tryz.prog 60 #[.string s] w fun e w' => e = .returned (.tuple #[.int .i64 (((M.numRead s.data.toList).getD 0 : Nat) : Int), .bool (M.numRead s.data.toList).isSome]) ∧ Below w.heap.size w w' := by
  refine nr_of (a := 0) hs (fun h => nr_long s h w) (fun h v hv => nr_ok s h v hv w (M.TabIs.same htab hw)) fun h hv => ?_
  refine nr_bad s h w ?_
  rcases hv' : Lib.atoiAll s.data.toList with v | _ | _
  · exact absurd hv' (hv v)
  · obtain ⟨te, pe, h1⟩ := hes
    exact (Any.strconv_Atoi_syntax_var Tryz.laysC172 s (by omega) hv' te pe w (var_same h1 hw)).mono fun e w' ⟨N, he, _, _, hb⟩ => ⟨_, _, N, he, hb⟩
  · obtain ⟨te, pe, h1⟩ := her
    exact (Any.strconv_Atoi_range_var Tryz.laysC172 s (by omega) hv' te pe w (var_same h1 hw)).mono fun e w' ⟨N, he, _, _, hb⟩ => ⟨_, _, N, he, hb⟩
end Go.Proofs

namespace M
open Go
variable [Bs]
theorem told_5 : Told Go.Proofs.Tryz.prog 5 l_FnExactAnswer_b [.t 6] 3 := Told.of Go.Proofs.Tryz.func5 (by decide +kernel)
theorem fnok_5 : fnOk Go.Proofs.Tryz.prog 5 = true := by decide +kernel
theorem told_19 : Told Go.Proofs.Tryz.prog 19 l_szReq_b [.t 4] 2 := Told.of Go.Proofs.Tryz.func19 (by decide +kernel)
theorem fnok_19 : fnOk Go.Proofs.Tryz.prog 19 = true := by decide +kernel
theorem told_20 : Told Go.Proofs.Tryz.prog 20 l_szObj_b [.t 4] 2 := Told.of Go.Proofs.Tryz.func20 (by decide +kernel)
theorem fnok_20 : fnOk Go.Proofs.Tryz.prog 20 = true := by decide +kernel
theorem told_21 : Told Go.Proofs.Tryz.prog 21 s_Answer_b [.c 6 3 true 63] 3 := Told.of Go.Proofs.Tryz.func21 (by decide +kernel)
theorem fnok_21 : fnOk Go.Proofs.Tryz.prog 21 = true := by decide +kernel
theorem told_22 : Told Go.Proofs.Tryz.prog 22 l_toReq_b [.c 2 4 true 66] 1 := Told.of Go.Proofs.Tryz.func22 (by decide +kernel)
theorem fnok_22 : fnOk Go.Proofs.Tryz.prog 22 = true := by decide +kernel
theorem told_23 : Told Go.Proofs.Tryz.prog 23 l_toObj_b [.c 2 7 true 69] 1 := Told.of Go.Proofs.Tryz.func23 (by decide +kernel)
theorem fnok_23 : fnOk Go.Proofs.Tryz.prog 23 = true := by decide +kernel
theorem told_24 : Told Go.Proofs.Tryz.prog 24 i_Answer_b [.c 6 3 true 63] 3 := Told.of Go.Proofs.Tryz.func24 (by decide +kernel)
theorem fnok_24 : fnOk Go.Proofs.Tryz.prog 24 = true := by decide +kernel
theorem told_25 : Told Go.Proofs.Tryz.prog 25 l_eqResp_b [.t 4] 2 := Told.of Go.Proofs.Tryz.func25 (by decide +kernel)
theorem fnok_25 : fnOk Go.Proofs.Tryz.prog 25 = true := by decide +kernel
theorem told_26 : Told Go.Proofs.Tryz.prog 26 l_eqReq_b [.t 4] 2 := Told.of Go.Proofs.Tryz.func26 (by decide +kernel)
theorem fnok_26 : fnOk Go.Proofs.Tryz.prog 26 = true := by decide +kernel
theorem told_27 : Told Go.Proofs.Tryz.prog 27 l_eqObj_b [.t 4] 2 := Told.of Go.Proofs.Tryz.func27 (by decide +kernel)
theorem fnok_27 : fnOk Go.Proofs.Tryz.prog 27 = true := by decide +kernel
theorem told_28 : Told Go.Proofs.Tryz.prog 28 l_markReq_b [.t 4] 2 := Told.of Go.Proofs.Tryz.func28 (by decide +kernel)
theorem fnok_28 : fnOk Go.Proofs.Tryz.prog 28 = true := by decide +kernel
theorem told_29 : Told Go.Proofs.Tryz.prog 29 l_markObj_b [.t 4] 2 := Told.of Go.Proofs.Tryz.func29 (by decide +kernel)
theorem fnok_29 : fnOk Go.Proofs.Tryz.prog 29 = true := by decide +kernel
theorem told_30 : Told Go.Proofs.Tryz.prog 30 l_markResp_b [.t 4] 2 := Told.of Go.Proofs.Tryz.func30 (by decide +kernel)
theorem fnok_30 : fnOk Go.Proofs.Tryz.prog 30 = true := by decide +kernel
theorem told_31 : Told Go.Proofs.Tryz.prog 31 l_heldResp_b [.t 4] 2 := Told.of Go.Proofs.Tryz.func31 (by decide +kernel)
theorem fnok_31 : fnOk Go.Proofs.Tryz.prog 31 = true := by decide +kernel
theorem told_36 : Told Go.Proofs.Tryz.prog 36 s_l1In_b [.t 6] 3 := Told.of Go.Proofs.Tryz.func36 (by decide +kernel)
theorem fnok_36 : fnOk Go.Proofs.Tryz.prog 36 = true := by decide +kernel
theorem told_43 : Told Go.Proofs.Tryz.prog 43 i_inRange_b [.t 6] 3 := Told.of Go.Proofs.Tryz.func43 (by decide +kernel)
theorem fnok_43 : fnOk Go.Proofs.Tryz.prog 43 = true := by decide +kernel
theorem told_52 : Told Go.Proofs.Tryz.prog 52 i_NumText_b [.t 2] 1 := Told.of Go.Proofs.Tryz.func52 (by decide +kernel)
theorem fnok_52 : fnOk Go.Proofs.Tryz.prog 52 = true := by decide +kernel
theorem told_53 : Told Go.Proofs.Tryz.prog 53 s_NumText_b [.t 2] 1 := Told.of Go.Proofs.Tryz.func53 (by decide +kernel)
theorem fnok_53 : fnOk Go.Proofs.Tryz.prog 53 = true := by decide +kernel
theorem told_56 : Told Go.Proofs.Tryz.prog 56 i_TokenOk_b [.t 2] 1 := Told.of Go.Proofs.Tryz.func56 (by decide +kernel)
theorem fnok_56 : fnOk Go.Proofs.Tryz.prog 56 = true := by decide +kernel
theorem told_57 : Told Go.Proofs.Tryz.prog 57 i_ValueOk_b [.t 2] 1 := Told.of Go.Proofs.Tryz.func57 (by decide +kernel)
theorem fnok_57 : fnOk Go.Proofs.Tryz.prog 57 = true := by decide +kernel
theorem told_66 : Told Go.Proofs.Tryz.prog 66 s_NumRead_b [.t 2, .t 3] 1 := Told.of Go.Proofs.Tryz.func66 (by decide +kernel)
theorem fnok_66 : fnOk Go.Proofs.Tryz.prog 66 = true := by decide +kernel
theorem told_67 : Told Go.Proofs.Tryz.prog 67 l_szFieldS_b [.t 4] 2 := Told.of Go.Proofs.Tryz.func67 (by decide +kernel)
theorem fnok_67 : fnOk Go.Proofs.Tryz.prog 67 = true := by decide +kernel
theorem told_68 : Told Go.Proofs.Tryz.prog 68 l_szStringS_b [.t 4] 2 := Told.of Go.Proofs.Tryz.func68 (by decide +kernel)
theorem fnok_68 : fnOk Go.Proofs.Tryz.prog 68 = true := by decide +kernel
theorem told_69 : Told Go.Proofs.Tryz.prog 69 l_szResp_b [.t 4] 2 := Told.of Go.Proofs.Tryz.func69 (by decide +kernel)
theorem fnok_69 : fnOk Go.Proofs.Tryz.prog 69 = true := by decide +kernel
theorem told_70 : Told Go.Proofs.Tryz.prog 70 s_l9Resp_b [.c 2 3 true 63] 1 := Told.of Go.Proofs.Tryz.func70 (by decide +kernel)
theorem fnok_70 : fnOk Go.Proofs.Tryz.prog 70 = true := by decide +kernel
theorem told_71 : Told Go.Proofs.Tryz.prog 71 s_Same_b [.t 4] 2 := Told.of Go.Proofs.Tryz.func71 (by decide +kernel)
theorem fnok_71 : fnOk Go.Proofs.Tryz.prog 71 = true := by decide +kernel
theorem told_72 : Told Go.Proofs.Tryz.prog 72 s_Short_b [.c 2 3 true 63] 1 := Told.of Go.Proofs.Tryz.func72 (by decide +kernel)
theorem fnok_72 : fnOk Go.Proofs.Tryz.prog 72 = true := by decide +kernel
theorem told_73 : Told Go.Proofs.Tryz.prog 73 s_Put_b [.t 6] 3 := Told.of Go.Proofs.Tryz.func73 (by decide +kernel)
theorem fnok_73 : fnOk Go.Proofs.Tryz.prog 73 = true := by decide +kernel
theorem told_74 : Told Go.Proofs.Tryz.prog 74 s_AgeAt_b [.t 6] 3 := Told.of Go.Proofs.Tryz.func74 (by decide +kernel)
theorem fnok_74 : fnOk Go.Proofs.Tryz.prog 74 = true := by decide +kernel
theorem told_75 : Told Go.Proofs.Tryz.prog 75 s_RespOk_b [.t 2] 1 := Told.of Go.Proofs.Tryz.func75 (by decide +kernel)
theorem fnok_75 : fnOk Go.Proofs.Tryz.prog 75 = true := by decide +kernel
theorem told_76 : Told Go.Proofs.Tryz.prog 76 l_toFieldS_b [.t 2] 1 := Told.of Go.Proofs.Tryz.func76 (by decide +kernel)
theorem fnok_76 : fnOk Go.Proofs.Tryz.prog 76 = true := by decide +kernel
theorem told_77 : Told Go.Proofs.Tryz.prog 77 l_toStringS_b [.t 2] 1 := Told.of Go.Proofs.Tryz.func77 (by decide +kernel)
theorem fnok_77 : fnOk Go.Proofs.Tryz.prog 77 = true := by decide +kernel
theorem told_78 : Told Go.Proofs.Tryz.prog 78 l_toResp_b [.c 2 3 true 63] 1 := Told.of Go.Proofs.Tryz.func78 (by decide +kernel)
theorem fnok_78 : fnOk Go.Proofs.Tryz.prog 78 = true := by decide +kernel
theorem told_79 : Told Go.Proofs.Tryz.prog 79 i_copyResp_b [.c 2 3 true 63] 1 := Told.of Go.Proofs.Tryz.func79 (by decide +kernel)
theorem fnok_79 : fnOk Go.Proofs.Tryz.prog 79 = true := by decide +kernel
theorem told_80 : Told Go.Proofs.Tryz.prog 80 i_Same_b [.t 4] 2 := Told.of Go.Proofs.Tryz.func80 (by decide +kernel)
theorem fnok_80 : fnOk Go.Proofs.Tryz.prog 80 = true := by decide +kernel
theorem told_81 : Told Go.Proofs.Tryz.prog 81 i_Short_b [.c 2 3 true 63] 1 := Told.of Go.Proofs.Tryz.func81 (by decide +kernel)
theorem fnok_81 : fnOk Go.Proofs.Tryz.prog 81 = true := by decide +kernel
theorem told_82 : Told Go.Proofs.Tryz.prog 82 i_Put_b [.t 6] 3 := Told.of Go.Proofs.Tryz.func82 (by decide +kernel)
theorem fnok_82 : fnOk Go.Proofs.Tryz.prog 82 = true := by decide +kernel
theorem told_83 : Told Go.Proofs.Tryz.prog 83 i_AgeAt_b [.t 6] 3 := Told.of Go.Proofs.Tryz.func83 (by decide +kernel)
theorem fnok_83 : fnOk Go.Proofs.Tryz.prog 83 = true := by decide +kernel
theorem told_84 : Told Go.Proofs.Tryz.prog 84 i_RespOk_b [.t 2] 1 := Told.of Go.Proofs.Tryz.func84 (by decide +kernel)
theorem fnok_84 : fnOk Go.Proofs.Tryz.prog 84 = true := by decide +kernel
theorem told_85 : Told Go.Proofs.Tryz.prog 85 l_eqFieldS_b [.t 4] 2 := Told.of Go.Proofs.Tryz.func85 (by decide +kernel)
theorem fnok_85 : fnOk Go.Proofs.Tryz.prog 85 = true := by decide +kernel
theorem told_86 : Told Go.Proofs.Tryz.prog 86 l_eqStringS_b [.t 4] 2 := Told.of Go.Proofs.Tryz.func86 (by decide +kernel)
theorem fnok_86 : fnOk Go.Proofs.Tryz.prog 86 = true := by decide +kernel
theorem told_87 : Told Go.Proofs.Tryz.prog 87 l_markFieldS_b [.t 4] 2 := Told.of Go.Proofs.Tryz.func87 (by decide +kernel)
theorem fnok_87 : fnOk Go.Proofs.Tryz.prog 87 = true := by decide +kernel
theorem told_88 : Told Go.Proofs.Tryz.prog 88 l_markStringS_b [.t 4] 2 := Told.of Go.Proofs.Tryz.func88 (by decide +kernel)
theorem fnok_88 : fnOk Go.Proofs.Tryz.prog 88 = true := by decide +kernel
theorem told_89 : Told Go.Proofs.Tryz.prog 89 l_heldFieldS_b [.t 4] 2 := Told.of Go.Proofs.Tryz.func89 (by decide +kernel)
theorem fnok_89 : fnOk Go.Proofs.Tryz.prog 89 = true := by decide +kernel
theorem told_94 : Told Go.Proofs.Tryz.prog 94 s_TokenOk_b [.t 2] 1 := Told.of Go.Proofs.Tryz.func94 (by decide +kernel)
theorem fnok_94 : fnOk Go.Proofs.Tryz.prog 94 = true := by decide +kernel
theorem told_95 : Told Go.Proofs.Tryz.prog 95 s_ValueOk_b [.t 2] 1 := Told.of Go.Proofs.Tryz.func95 (by decide +kernel)
theorem fnok_95 : fnOk Go.Proofs.Tryz.prog 95 = true := by decide +kernel
theorem told_112 : Told Go.Proofs.Tryz.prog 112 i_areFrom_b [.t 4] 2 := Told.of Go.Proofs.Tryz.func112 (by decide +kernel)
theorem fnok_112 : fnOk Go.Proofs.Tryz.prog 112 = true := by decide +kernel
theorem told_113 : Told Go.Proofs.Tryz.prog 113 i_Trim_b [.t 2] 1 := Told.of Go.Proofs.Tryz.func113 (by decide +kernel)
theorem fnok_113 : fnOk Go.Proofs.Tryz.prog 113 = true := by decide +kernel
theorem told_118 : Told Go.Proofs.Tryz.prog 118 l_szField_b [.t 4] 2 := Told.of Go.Proofs.Tryz.func118 (by decide +kernel)
theorem fnok_118 : fnOk Go.Proofs.Tryz.prog 118 = true := by decide +kernel
theorem told_119 : Told Go.Proofs.Tryz.prog 119 s_l9Copy_b [.t 2] 1 := Told.of Go.Proofs.Tryz.func119 (by decide +kernel)
theorem fnok_119 : fnOk Go.Proofs.Tryz.prog 119 = true := by decide +kernel
theorem told_120 : Told Go.Proofs.Tryz.prog 120 s_Get_b [.t 4, .t 5] 2 := Told.of Go.Proofs.Tryz.func120 (by decide +kernel)
theorem fnok_120 : fnOk Go.Proofs.Tryz.prog 120 = true := by decide +kernel
theorem told_121 : Told Go.Proofs.Tryz.prog 121 s_l2At_b [.t 4] 2 := Told.of Go.Proofs.Tryz.func121 (by decide +kernel)
theorem fnok_121 : fnOk Go.Proofs.Tryz.prog 121 = true := by decide +kernel
theorem told_122 : Told Go.Proofs.Tryz.prog 122 s_Plus_b [.t 4] 2 := Told.of Go.Proofs.Tryz.func122 (by decide +kernel)
theorem fnok_122 : fnOk Go.Proofs.Tryz.prog 122 = true := by decide +kernel
theorem told_123 : Told Go.Proofs.Tryz.prog 123 s_l7Since_b [.t 4] 2 := Told.of Go.Proofs.Tryz.func123 (by decide +kernel)
theorem fnok_123 : fnOk Go.Proofs.Tryz.prog 123 = true := by decide +kernel
theorem told_124 : Told Go.Proofs.Tryz.prog 124 s_FieldsOk_b [.t 2] 1 := Told.of Go.Proofs.Tryz.func124 (by decide +kernel)
theorem fnok_124 : fnOk Go.Proofs.Tryz.prog 124 = true := by decide +kernel
theorem told_125 : Told Go.Proofs.Tryz.prog 125 l_toField_b [.c 2 2 true 161] 1 := Told.of Go.Proofs.Tryz.func125 (by decide +kernel)
theorem fnok_125 : fnOk Go.Proofs.Tryz.prog 125 = true := by decide +kernel
theorem told_127 : Told Go.Proofs.Tryz.prog 127 i_Get_b [.t 4, .t 5] 2 := Told.of Go.Proofs.Tryz.func127 (by decide +kernel)
theorem fnok_127 : fnOk Go.Proofs.Tryz.prog 127 = true := by decide +kernel
theorem told_128 : Told Go.Proofs.Tryz.prog 128 i_fieldAt_b [.t 4] 2 := Told.of Go.Proofs.Tryz.func128 (by decide +kernel)
theorem fnok_128 : fnOk Go.Proofs.Tryz.prog 128 = true := by decide +kernel
theorem told_129 : Told Go.Proofs.Tryz.prog 129 i_Plus_b [.t 4] 2 := Told.of Go.Proofs.Tryz.func129 (by decide +kernel)
theorem fnok_129 : fnOk Go.Proofs.Tryz.prog 129 = true := by decide +kernel
theorem told_130 : Told Go.Proofs.Tryz.prog 130 i_since_b [.t 4] 2 := Told.of Go.Proofs.Tryz.func130 (by decide +kernel)
theorem fnok_130 : fnOk Go.Proofs.Tryz.prog 130 = true := by decide +kernel
theorem told_131 : Told Go.Proofs.Tryz.prog 131 i_FieldsOk_b [.t 2] 1 := Told.of Go.Proofs.Tryz.func131 (by decide +kernel)
theorem fnok_131 : fnOk Go.Proofs.Tryz.prog 131 = true := by decide +kernel
theorem told_132 : Told Go.Proofs.Tryz.prog 132 l_eqField_b [.t 4] 2 := Told.of Go.Proofs.Tryz.func132 (by decide +kernel)
theorem fnok_132 : fnOk Go.Proofs.Tryz.prog 132 = true := by decide +kernel
theorem told_133 : Told Go.Proofs.Tryz.prog 133 l_markText_b [.t 2] 1 := Told.of Go.Proofs.Tryz.func133 (by decide +kernel)
theorem fnok_133 : fnOk Go.Proofs.Tryz.prog 133 = true := by decide +kernel
theorem told_135 : Told Go.Proofs.Tryz.prog 135 s_Trim_b [.t 2] 1 := Told.of Go.Proofs.Tryz.func135 (by decide +kernel)
theorem fnok_135 : fnOk Go.Proofs.Tryz.prog 135 = true := by decide +kernel
theorem told_154 : Told Go.Proofs.Tryz.prog 154 s_l1Min_b [.t 4] 2 := Told.of Go.Proofs.Tryz.func154 (by decide +kernel)
theorem fnok_154 : fnOk Go.Proofs.Tryz.prog 154 = true := by decide +kernel
theorem told_155 : Told Go.Proofs.Tryz.prog 155 s_l1Max_b [.t 4] 2 := Told.of Go.Proofs.Tryz.func155 (by decide +kernel)
theorem fnok_155 : fnOk Go.Proofs.Tryz.prog 155 = true := by decide +kernel
theorem told_156 : Told Go.Proofs.Tryz.prog 156 x_slices_IndexFunc_impl_Field_impl_Field_b [.t 4] 2 := Told.of Go.Proofs.Tryz.func156 (by decide +kernel)
theorem fnok_156 : fnOk Go.Proofs.Tryz.prog 156 = true := by decide +kernel
theorem told_157 : Told Go.Proofs.Tryz.prog 157 i_fieldAt_1_b [.t 3] 2 := Told.of Go.Proofs.Tryz.func157 (by decide +kernel)
theorem fnok_157 : fnOk Go.Proofs.Tryz.prog 157 = true := by decide +kernel
theorem told_158 : Told Go.Proofs.Tryz.prog 158 i_within_b [.t 2] 1 := Told.of Go.Proofs.Tryz.func158 (by decide +kernel)
theorem fnok_158 : fnOk Go.Proofs.Tryz.prog 158 = true := by decide +kernel
theorem told_126 : Told Go.Proofs.Tryz.prog 126 (cloneA 2 32) [.t 2] 1 := Told.of Go.Proofs.Tryz.func126 (by decide +kernel)
theorem TT_ok : TT.Ok Go.Proofs.Tryz.prog := by
  refine ⟨fun f F h => ?_, fun f F h => ?_⟩
  · unfold TT at h
    split at h
    · cases h; exact told_5
    · cases h; exact told_19
    · cases h; exact told_20
    · cases h; exact told_21
    · cases h; exact told_22
    · cases h; exact told_23
    · cases h; exact told_24
    · cases h; exact told_25
    · cases h; exact told_26
    · cases h; exact told_27
    · cases h; exact told_28
    · cases h; exact told_29
    · cases h; exact told_30
    · cases h; exact told_31
    · cases h; exact told_36
    · cases h; exact told_43
    · cases h; exact told_52
    · cases h; exact told_53
    · cases h; exact told_56
    · cases h; exact told_57
    · cases h; exact told_66
    · cases h; exact told_67
    · cases h; exact told_68
    · cases h; exact told_69
    · cases h; exact told_70
    · cases h; exact told_71
    · cases h; exact told_72
    · cases h; exact told_73
    · cases h; exact told_74
    · cases h; exact told_75
    · cases h; exact told_76
    · cases h; exact told_77
    · cases h; exact told_78
    · cases h; exact told_79
    · cases h; exact told_80
    · cases h; exact told_81
    · cases h; exact told_82
    · cases h; exact told_83
    · cases h; exact told_84
    · cases h; exact told_85
    · cases h; exact told_86
    · cases h; exact told_87
    · cases h; exact told_88
    · cases h; exact told_89
    · cases h; exact told_94
    · cases h; exact told_95
    · cases h; exact told_112
    · cases h; exact told_113
    · cases h; exact told_118
    · cases h; exact told_119
    · cases h; exact told_120
    · cases h; exact told_121
    · cases h; exact told_122
    · cases h; exact told_123
    · cases h; exact told_124
    · cases h; exact told_125
    · cases h; exact told_127
    · cases h; exact told_128
    · cases h; exact told_129
    · cases h; exact told_130
    · cases h; exact told_131
    · cases h; exact told_132
    · cases h; exact told_133
    · cases h; exact told_135
    · cases h; exact told_154
    · cases h; exact told_155
    · cases h; exact told_156
    · cases h; exact told_157
    · cases h; exact told_158
    · cases h
  · unfold TT at h
    split at h
    · cases h; exact fnok_5
    · cases h; exact fnok_19
    · cases h; exact fnok_20
    · cases h; exact fnok_21
    · cases h; exact fnok_22
    · cases h; exact fnok_23
    · cases h; exact fnok_24
    · cases h; exact fnok_25
    · cases h; exact fnok_26
    · cases h; exact fnok_27
    · cases h; exact fnok_28
    · cases h; exact fnok_29
    · cases h; exact fnok_30
    · cases h; exact fnok_31
    · cases h; exact fnok_36
    · cases h; exact fnok_43
    · cases h; exact fnok_52
    · cases h; exact fnok_53
    · cases h; exact fnok_56
    · cases h; exact fnok_57
    · cases h; exact fnok_66
    · cases h; exact fnok_67
    · cases h; exact fnok_68
    · cases h; exact fnok_69
    · cases h; exact fnok_70
    · cases h; exact fnok_71
    · cases h; exact fnok_72
    · cases h; exact fnok_73
    · cases h; exact fnok_74
    · cases h; exact fnok_75
    · cases h; exact fnok_76
    · cases h; exact fnok_77
    · cases h; exact fnok_78
    · cases h; exact fnok_79
    · cases h; exact fnok_80
    · cases h; exact fnok_81
    · cases h; exact fnok_82
    · cases h; exact fnok_83
    · cases h; exact fnok_84
    · cases h; exact fnok_85
    · cases h; exact fnok_86
    · cases h; exact fnok_87
    · cases h; exact fnok_88
    · cases h; exact fnok_89
    · cases h; exact fnok_94
    · cases h; exact fnok_95
    · cases h; exact fnok_112
    · cases h; exact fnok_113
    · cases h; exact fnok_118
    · cases h; exact fnok_119
    · cases h; exact fnok_120
    · cases h; exact fnok_121
    · cases h; exact fnok_122
    · cases h; exact fnok_123
    · cases h; exact fnok_124
    · cases h; exact fnok_125
    · cases h; exact fnok_127
    · cases h; exact fnok_128
    · cases h; exact fnok_129
    · cases h; exact fnok_130
    · cases h; exact fnok_131
    · cases h; exact fnok_132
    · cases h; exact fnok_133
    · cases h; exact fnok_135
    · cases h; exact fnok_154
    · cases h; exact fnok_155
    · cases h; exact fnok_156
    · cases h; exact fnok_157
    · cases h; exact fnok_158
    · cases h
theorem LI_sound (htab : Lib.TabIs Go.Proofs.Tryz.prog Bs.W0 "internal/strconv.uint64pow10" .u64 Lib.pow10Tab) (hes : ∃ te pe, Bs.W0.var? Go.Proofs.Tryz.prog "strconv.ErrSyntax" = some #[.iface te pe]) (her : ∃ te pe, Bs.W0.var? Go.Proofs.Tryz.prog "strconv.ErrRange" = some #[.iface te pe]) : LI.Sound Go.Proofs.Tryz.prog := (orO_sound (numReadO_sound fun s w hw hs => Go.Proofs.nr_all htab hes her s w hw hs) (orO_sound (cloneO_sound told_126) (orO_sound (itoaO_sound htab fun n h0 h1 w ht => Go.Proofs.Tryz.strconv_Itoa n h0 h1 w ht) (trimO_sound fun s c h w hs => Go.Proofs.Tryz.strings_Trim_one s c h w hs))))
end M
