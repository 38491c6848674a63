/- Each function of the table is the program's, and the library is as it is said to be; no conditions. -/
import Derived.Test.YtcpbpjanigljcaaGreatDoorProg
import Derived.Test.YtcpbpjanigljcaaGreatDoorLay
import Derived.Test.YtcpbpjanigljcaaGreatDoorTab
import Derived.Test.YtcpbpjanigljcaaGreatDoorMd
set_option linter.unusedSectionVars false
set_option linter.unusedVariables false
set_option linter.unusedSectionVars false
set_option maxRecDepth 100000
namespace Go.Proofs
open Go.RowKit
set_option maxHeartbeats 2000000 in
set_option maxRecDepth 100000 in
theorem nr_long (s : ByteArray) (h : 7 < s.size) (w : World) :
    Calls Go.Proofs.Tryz.prog 153 #[.string s] w fun e w' => e = .returned (.tuple #[.int .i64 0, .bool false]) ∧ w' = w := by
  go_enter Tryz.func153, Tryz.ntmps153
  go_wp2
  · go_ret2; exact ⟨rfl, rfl⟩
set_option maxHeartbeats 2000000 in
set_option maxRecDepth 100000 in
theorem nr_ok (s : ByteArray) (h : ¬ 7 < s.size) (v : Int) (hv : Lib.atoiAll s.data.toList = .ok v) (w : World) (htab : Lib.TabIs Go.Proofs.Tryz.prog w "internal/strconv.uint64pow10" .u64 Lib.pow10Tab) :
    Calls Go.Proofs.Tryz.prog 153 #[.string s] w fun e w' => e = .returned (.tuple #[.int .i64 (nrV v s.data.toList), .bool (nrB v s.data.toList)]) ∧ Below w.heap.size w w' := by
  have hvb := Lib.atoiAll_bounds hv
  go_enter Tryz.func153, Tryz.ntmps153
  go_wp2_with (first
    | (go_at_call 161; refine (Tryz.strconv_Atoi_ok s (by omega) v hv _).mono ?_; rintro e W1 ⟨rfl, hW1⟩; have hb1 : Below w.heap.size w W1 := (by rcases hW1 with rfl | ⟨t, rfl⟩; exact Below.refl _ _; exact Lib.bytesWorld_below _ _ _); clear hW1)
    | (go_at_call 80; refine (Tryz.strconv_Itoa v hvb.1 hvb.2 _ (tab_below htab hb1)).mono ?_; rintro e W2 ⟨rfl, k, os, hW2⟩; have hb2 : Below w.heap.size w W2 := (by subst hW2; exact hb1.trans ((grow_below W1 k os).mono hb1.size)); clear hW2)
    | go_in)
  all_goals go_ret2
  all_goals refine ⟨?_, by assumption⟩
  all_goals first
    | (have hb : nrB v s.data.toList = true := (by
        unfold nrB
        rw [decide_eq_true_eq]
        refine ⟨by assumption, by assumption, ?_⟩
        rw [← Lib.toList_data]
        rename_i hz
        simpa using hz)
       rw [nrV, if_pos hb, hb]; rfl)
    | (have hb : nrB v s.data.toList = false := (by
        unfold nrB
        rw [decide_eq_false_iff_not]
        rintro ⟨h1, h2, h3⟩
        first
        | omega
        | (rw [← Lib.toList_data] at h3
           rename_i hz
           simp [h3] at hz))
       rw [nrV, hb]; rfl)
set_option maxHeartbeats 2000000 in
set_option maxRecDepth 100000 in
theorem nr_bad (s : ByteArray) (h : ¬ 7 < s.size) (w : World)
    (hA : Calls Go.Proofs.Tryz.prog 161 #[.string s] w fun e w' => ∃ n t N, e = .returned (.tuple #[.int .i64 n, .iface t (.pointer (some ⟨N, 0, none⟩))]) ∧ Below w.heap.size w w') :
    Calls Go.Proofs.Tryz.prog 153 #[.string s] w fun e w' => e = .returned (.tuple #[.int .i64 0, .bool false]) ∧ Below w.heap.size w w' := by
  go_enter Tryz.func153, Tryz.ntmps153
  go_wp2_with (first
    | (go_at_call 161; refine hA.mono ?_; rintro e W1 ⟨n, t, N, rfl, hb1⟩)
    | go_in)
  all_goals go_ret2
  all_goals exact ⟨rfl, by assumption⟩
theorem nr_all [B : M.Bs] (htab : Lib.TabIs Go.Proofs.Tryz.prog B.W0 "internal/strconv.uint64pow10" .u64 Lib.pow10Tab) (hes : ∃ te pe, B.W0.var? Go.Proofs.Tryz.prog "strconv.ErrSyntax" = some #[.iface te pe]) (her : ∃ te pe, B.W0.var? Go.Proofs.Tryz.prog "strconv.ErrRange" = some #[.iface te pe])
    (s : ByteArray) (w : World) (hw : M.Same0 w) (hs : s.size ≤ 9223372036854775807) :
    Calls Go.Proofs.Tryz.prog 153 #[.string s] w fun e w' => e = .returned (.tuple #[.int .i64 (((M.numRead s.data.toList).getD 0 : Nat) : Int), .bool (M.numRead s.data.toList).isSome]) ∧ Below w.heap.size w w' := by
  refine nr_of (a := 0) hs (fun h => nr_long s h w) (fun h v hv => nr_ok s h v hv w (M.TabIs.same htab hw)) fun h hv => ?_
  refine nr_bad s h w ?_
  rcases hv' : Lib.atoiAll s.data.toList with v | _ | _
  · exact absurd hv' (hv v)
  · obtain ⟨te, pe, h1⟩ := hes
    exact (Any.strconv_Atoi_syntax_var Tryz.laysC172 s (by omega) hv' te pe w (var_same h1 hw)).mono fun e w' ⟨N, he, _, _, hb⟩ => ⟨_, _, N, he, hb⟩
  · obtain ⟨te, pe, h1⟩ := her
    exact (Any.strconv_Atoi_range_var Tryz.laysC172 s (by omega) hv' te pe w (var_same h1 hw)).mono fun e w' ⟨N, he, _, _, hb⟩ => ⟨_, _, N, he, hb⟩
end Go.Proofs

namespace M
open Go
variable [Bs]
theorem told_3 : Told Go.Proofs.Tryz.prog 3 l_FnExactAlike_b [.t 4] 2 := Told.of Go.Proofs.Tryz.func3 (by decide +kernel)
theorem fnok_3 : fnOk Go.Proofs.Tryz.prog 3 = true := by decide +kernel
theorem told_6 : Told Go.Proofs.Tryz.prog 6 l_szReq_b [.t 4] 2 := Told.of Go.Proofs.Tryz.func6 (by decide +kernel)
theorem fnok_6 : fnOk Go.Proofs.Tryz.prog 6 = true := by decide +kernel
theorem told_7 : Told Go.Proofs.Tryz.prog 7 s_Alike_b [.t 4] 2 := Told.of Go.Proofs.Tryz.func7 (by decide +kernel)
theorem fnok_7 : fnOk Go.Proofs.Tryz.prog 7 = true := by decide +kernel
theorem told_8 : Told Go.Proofs.Tryz.prog 8 l_toReq_b [.c 2 4 true 29] 1 := Told.of Go.Proofs.Tryz.func8 (by decide +kernel)
theorem fnok_8 : fnOk Go.Proofs.Tryz.prog 8 = true := by decide +kernel
theorem told_9 : Told Go.Proofs.Tryz.prog 9 i_Alike_b [.t 4] 2 := Told.of Go.Proofs.Tryz.func9 (by decide +kernel)
theorem fnok_9 : fnOk Go.Proofs.Tryz.prog 9 = true := by decide +kernel
theorem told_10 : Told Go.Proofs.Tryz.prog 10 l_eqReq_b [.t 4] 2 := Told.of Go.Proofs.Tryz.func10 (by decide +kernel)
theorem fnok_10 : fnOk Go.Proofs.Tryz.prog 10 = true := by decide +kernel
theorem told_21 : Told Go.Proofs.Tryz.prog 21 l_szFieldS_b [.t 4] 2 := Told.of Go.Proofs.Tryz.func21 (by decide +kernel)
theorem fnok_21 : fnOk Go.Proofs.Tryz.prog 21 = true := by decide +kernel
theorem told_22 : Told Go.Proofs.Tryz.prog 22 s_ReqOk_b [.t 2] 1 := Told.of Go.Proofs.Tryz.func22 (by decide +kernel)
theorem fnok_22 : fnOk Go.Proofs.Tryz.prog 22 = true := by decide +kernel
theorem told_23 : Told Go.Proofs.Tryz.prog 23 s_l15Fields_b [.t 4] 2 := Told.of Go.Proofs.Tryz.func23 (by decide +kernel)
theorem fnok_23 : fnOk Go.Proofs.Tryz.prog 23 = true := by decide +kernel
theorem told_24 : Told Go.Proofs.Tryz.prog 24 s_CcOf_b [.c 2 6 true 71] 1 := Told.of Go.Proofs.Tryz.func24 (by decide +kernel)
theorem fnok_24 : fnOk Go.Proofs.Tryz.prog 24 = true := by decide +kernel
theorem told_25 : Told Go.Proofs.Tryz.prog 25 l_toFieldS_b [.t 2] 1 := Told.of Go.Proofs.Tryz.func25 (by decide +kernel)
theorem fnok_25 : fnOk Go.Proofs.Tryz.prog 25 = true := by decide +kernel
theorem told_26 : Told Go.Proofs.Tryz.prog 26 i_isAsked_b [.t 2] 1 := Told.of Go.Proofs.Tryz.func26 (by decide +kernel)
theorem fnok_26 : fnOk Go.Proofs.Tryz.prog 26 = true := by decide +kernel
theorem told_27 : Told Go.Proofs.Tryz.prog 27 x_slices_Equal_impl_Field_impl_Field_b [.t 4] 2 := Told.of Go.Proofs.Tryz.func27 (by decide +kernel)
theorem fnok_27 : fnOk Go.Proofs.Tryz.prog 27 = true := by decide +kernel
theorem told_28 : Told Go.Proofs.Tryz.prog 28 l_eqFieldS_b [.t 4] 2 := Told.of Go.Proofs.Tryz.func28 (by decide +kernel)
theorem fnok_28 : fnOk Go.Proofs.Tryz.prog 28 = true := by decide +kernel
theorem told_33 : Told Go.Proofs.Tryz.prog 33 s_NumText_b [.t 2] 1 := Told.of Go.Proofs.Tryz.func33 (by decide +kernel)
theorem fnok_33 : fnOk Go.Proofs.Tryz.prog 33 = true := by decide +kernel
theorem told_46 : Told Go.Proofs.Tryz.prog 46 s_l1In_b [.t 6] 3 := Told.of Go.Proofs.Tryz.func46 (by decide +kernel)
theorem fnok_46 : fnOk Go.Proofs.Tryz.prog 46 = true := by decide +kernel
theorem told_56 : Told Go.Proofs.Tryz.prog 56 l_szField_b [.t 4] 2 := Told.of Go.Proofs.Tryz.func56 (by decide +kernel)
theorem fnok_56 : fnOk Go.Proofs.Tryz.prog 56 = true := by decide +kernel
theorem told_57 : Told Go.Proofs.Tryz.prog 57 s_l3Path_b [.t 2] 1 := Told.of Go.Proofs.Tryz.func57 (by decide +kernel)
theorem fnok_57 : fnOk Go.Proofs.Tryz.prog 57 = true := by decide +kernel
theorem told_58 : Told Go.Proofs.Tryz.prog 58 s_FieldsOk_b [.t 2] 1 := Told.of Go.Proofs.Tryz.func58 (by decide +kernel)
theorem fnok_58 : fnOk Go.Proofs.Tryz.prog 58 = true := by decide +kernel
theorem told_59 : Told Go.Proofs.Tryz.prog 59 s_Get_b [.t 4, .t 5] 2 := Told.of Go.Proofs.Tryz.func59 (by decide +kernel)
theorem fnok_59 : fnOk Go.Proofs.Tryz.prog 59 = true := by decide +kernel
theorem told_60 : Told Go.Proofs.Tryz.prog 60 s_CcRead_b [.c 2 6 true 71] 1 := Told.of Go.Proofs.Tryz.func60 (by decide +kernel)
theorem fnok_60 : fnOk Go.Proofs.Tryz.prog 60 = true := by decide +kernel
theorem told_61 : Told Go.Proofs.Tryz.prog 61 l_toField_b [.c 2 2 true 75] 1 := Told.of Go.Proofs.Tryz.func61 (by decide +kernel)
theorem fnok_61 : fnOk Go.Proofs.Tryz.prog 61 = true := by decide +kernel
theorem told_62 : Told Go.Proofs.Tryz.prog 62 i_ReqOk_b [.t 2] 1 := Told.of Go.Proofs.Tryz.func62 (by decide +kernel)
theorem fnok_62 : fnOk Go.Proofs.Tryz.prog 62 = true := by decide +kernel
theorem told_63 : Told Go.Proofs.Tryz.prog 63 i_CcOf_b [.c 2 6 true 71] 1 := Told.of Go.Proofs.Tryz.func63 (by decide +kernel)
theorem fnok_63 : fnOk Go.Proofs.Tryz.prog 63 = true := by decide +kernel
theorem told_64 : Told Go.Proofs.Tryz.prog 64 l_eqField_b [.t 4] 2 := Told.of Go.Proofs.Tryz.func64 (by decide +kernel)
theorem fnok_64 : fnOk Go.Proofs.Tryz.prog 64 = true := by decide +kernel
theorem told_77 : Told Go.Proofs.Tryz.prog 77 i_inRange_b [.t 6] 3 := Told.of Go.Proofs.Tryz.func77 (by decide +kernel)
theorem fnok_77 : fnOk Go.Proofs.Tryz.prog 77 = true := by decide +kernel
theorem told_95 : Told Go.Proofs.Tryz.prog 95 s_ValueOk_b [.t 2] 1 := Told.of Go.Proofs.Tryz.func95 (by decide +kernel)
theorem fnok_95 : fnOk Go.Proofs.Tryz.prog 95 = true := by decide +kernel
theorem told_103 : Told Go.Proofs.Tryz.prog 103 s_TokenOk_b [.t 2] 1 := Told.of Go.Proofs.Tryz.func103 (by decide +kernel)
theorem fnok_103 : fnOk Go.Proofs.Tryz.prog 103 = true := by decide +kernel
theorem told_104 : Told Go.Proofs.Tryz.prog 104 s_l2At_b [.t 4] 2 := Told.of Go.Proofs.Tryz.func104 (by decide +kernel)
theorem fnok_104 : fnOk Go.Proofs.Tryz.prog 104 = true := by decide +kernel
theorem told_105 : Told Go.Proofs.Tryz.prog 105 s_Split_b [.t 2] 1 := Told.of Go.Proofs.Tryz.func105 (by decide +kernel)
theorem fnok_105 : fnOk Go.Proofs.Tryz.prog 105 = true := by decide +kernel
theorem told_106 : Told Go.Proofs.Tryz.prog 106 s_Lower_b [.t 2] 1 := Told.of Go.Proofs.Tryz.func106 (by decide +kernel)
theorem fnok_106 : fnOk Go.Proofs.Tryz.prog 106 = true := by decide +kernel
theorem told_107 : Told Go.Proofs.Tryz.prog 107 s_l6Age_b [.t 2, .t 3] 1 := Told.of Go.Proofs.Tryz.func107 (by decide +kernel)
theorem fnok_107 : fnOk Go.Proofs.Tryz.prog 107 = true := by decide +kernel
theorem told_108 : Told Go.Proofs.Tryz.prog 108 s_l1Min_b [.t 4] 2 := Told.of Go.Proofs.Tryz.func108 (by decide +kernel)
theorem fnok_108 : fnOk Go.Proofs.Tryz.prog 108 = true := by decide +kernel
theorem told_109 : Told Go.Proofs.Tryz.prog 109 i_pathOk_b [.t 2] 1 := Told.of Go.Proofs.Tryz.func109 (by decide +kernel)
theorem fnok_109 : fnOk Go.Proofs.Tryz.prog 109 = true := by decide +kernel
theorem told_110 : Told Go.Proofs.Tryz.prog 110 i_FieldsOk_b [.t 2] 1 := Told.of Go.Proofs.Tryz.func110 (by decide +kernel)
theorem fnok_110 : fnOk Go.Proofs.Tryz.prog 110 = true := by decide +kernel
theorem told_111 : Told Go.Proofs.Tryz.prog 111 i_Get_b [.t 4, .t 5] 2 := Told.of Go.Proofs.Tryz.func111 (by decide +kernel)
theorem fnok_111 : fnOk Go.Proofs.Tryz.prog 111 = true := by decide +kernel
theorem told_112 : Told Go.Proofs.Tryz.prog 112 i_CcRead_b [.c 2 6 true 71] 1 := Told.of Go.Proofs.Tryz.func112 (by decide +kernel)
theorem fnok_112 : fnOk Go.Proofs.Tryz.prog 112 = true := by decide +kernel
theorem told_117 : Told Go.Proofs.Tryz.prog 117 i_TokenOk_b [.t 2] 1 := Told.of Go.Proofs.Tryz.func117 (by decide +kernel)
theorem fnok_117 : fnOk Go.Proofs.Tryz.prog 117 = true := by decide +kernel
theorem told_118 : Told Go.Proofs.Tryz.prog 118 i_ValueOk_b [.t 2] 1 := Told.of Go.Proofs.Tryz.func118 (by decide +kernel)
theorem fnok_118 : fnOk Go.Proofs.Tryz.prog 118 = true := by decide +kernel
theorem told_129 : Told Go.Proofs.Tryz.prog 129 s_Trim_b [.t 2] 1 := Told.of Go.Proofs.Tryz.func129 (by decide +kernel)
theorem fnok_129 : fnOk Go.Proofs.Tryz.prog 129 = true := by decide +kernel
theorem told_138 : Told Go.Proofs.Tryz.prog 138 s_NumRead_b [.t 2, .t 3] 1 := Told.of Go.Proofs.Tryz.func138 (by decide +kernel)
theorem fnok_138 : fnOk Go.Proofs.Tryz.prog 138 = true := by decide +kernel
theorem told_139 : Told Go.Proofs.Tryz.prog 139 i_areFrom_b [.t 4] 2 := Told.of Go.Proofs.Tryz.func139 (by decide +kernel)
theorem fnok_139 : fnOk Go.Proofs.Tryz.prog 139 = true := by decide +kernel
theorem told_140 : Told Go.Proofs.Tryz.prog 140 i_fieldAt_b [.t 4] 2 := Told.of Go.Proofs.Tryz.func140 (by decide +kernel)
theorem fnok_140 : fnOk Go.Proofs.Tryz.prog 140 = true := by decide +kernel
theorem told_141 : Told Go.Proofs.Tryz.prog 141 i_Split_b [.t 2] 1 := Told.of Go.Proofs.Tryz.func141 (by decide +kernel)
theorem fnok_141 : fnOk Go.Proofs.Tryz.prog 141 = true := by decide +kernel
theorem told_142 : Told Go.Proofs.Tryz.prog 142 i_Cc_word_b [] 2 := Told.of Go.Proofs.Tryz.func142 (by decide +kernel)
theorem fnok_142 : fnOk Go.Proofs.Tryz.prog 142 = true := by decide +kernel
theorem told_143 : Told Go.Proofs.Tryz.prog 143 i_Lower_b [.t 2] 1 := Told.of Go.Proofs.Tryz.func143 (by decide +kernel)
theorem fnok_143 : fnOk Go.Proofs.Tryz.prog 143 = true := by decide +kernel
theorem told_144 : Told Go.Proofs.Tryz.prog 144 i_Trim_b [.t 2] 1 := Told.of Go.Proofs.Tryz.func144 (by decide +kernel)
theorem fnok_144 : fnOk Go.Proofs.Tryz.prog 144 = true := by decide +kernel
theorem told_149 : Told Go.Proofs.Tryz.prog 149 x_slices_IndexFunc_impl_Field_impl_Field_b [.t 4] 2 := Told.of Go.Proofs.Tryz.func149 (by decide +kernel)
theorem fnok_149 : fnOk Go.Proofs.Tryz.prog 149 = true := by decide +kernel
theorem told_150 : Told Go.Proofs.Tryz.prog 150 i_fieldAt_1_b [.t 3] 2 := Told.of Go.Proofs.Tryz.func150 (by decide +kernel)
theorem fnok_150 : fnOk Go.Proofs.Tryz.prog 150 = true := by decide +kernel
theorem TT_ok : TT.Ok Go.Proofs.Tryz.prog := by
  refine ⟨fun f F h => ?_, fun f F h => ?_⟩
  · unfold TT at h
    split at h
    · cases h; exact told_3
    · cases h; exact told_6
    · cases h; exact told_7
    · cases h; exact told_8
    · cases h; exact told_9
    · cases h; exact told_10
    · cases h; exact told_21
    · cases h; exact told_22
    · cases h; exact told_23
    · cases h; exact told_24
    · cases h; exact told_25
    · cases h; exact told_26
    · cases h; exact told_27
    · cases h; exact told_28
    · cases h; exact told_33
    · cases h; exact told_46
    · cases h; exact told_56
    · cases h; exact told_57
    · cases h; exact told_58
    · cases h; exact told_59
    · cases h; exact told_60
    · cases h; exact told_61
    · cases h; exact told_62
    · cases h; exact told_63
    · cases h; exact told_64
    · cases h; exact told_77
    · cases h; exact told_95
    · cases h; exact told_103
    · cases h; exact told_104
    · cases h; exact told_105
    · cases h; exact told_106
    · cases h; exact told_107
    · cases h; exact told_108
    · cases h; exact told_109
    · cases h; exact told_110
    · cases h; exact told_111
    · cases h; exact told_112
    · cases h; exact told_117
    · cases h; exact told_118
    · cases h; exact told_129
    · cases h; exact told_138
    · cases h; exact told_139
    · cases h; exact told_140
    · cases h; exact told_141
    · cases h; exact told_142
    · cases h; exact told_143
    · cases h; exact told_144
    · cases h; exact told_149
    · cases h; exact told_150
    · cases h
  · unfold TT at h
    split at h
    · cases h; exact fnok_3
    · cases h; exact fnok_6
    · cases h; exact fnok_7
    · cases h; exact fnok_8
    · cases h; exact fnok_9
    · cases h; exact fnok_10
    · cases h; exact fnok_21
    · cases h; exact fnok_22
    · cases h; exact fnok_23
    · cases h; exact fnok_24
    · cases h; exact fnok_25
    · cases h; exact fnok_26
    · cases h; exact fnok_27
    · cases h; exact fnok_28
    · cases h; exact fnok_33
    · cases h; exact fnok_46
    · cases h; exact fnok_56
    · cases h; exact fnok_57
    · cases h; exact fnok_58
    · cases h; exact fnok_59
    · cases h; exact fnok_60
    · cases h; exact fnok_61
    · cases h; exact fnok_62
    · cases h; exact fnok_63
    · cases h; exact fnok_64
    · cases h; exact fnok_77
    · cases h; exact fnok_95
    · cases h; exact fnok_103
    · cases h; exact fnok_104
    · cases h; exact fnok_105
    · cases h; exact fnok_106
    · cases h; exact fnok_107
    · cases h; exact fnok_108
    · cases h; exact fnok_109
    · cases h; exact fnok_110
    · cases h; exact fnok_111
    · cases h; exact fnok_112
    · cases h; exact fnok_117
    · cases h; exact fnok_118
    · cases h; exact fnok_129
    · cases h; exact fnok_138
    · cases h; exact fnok_139
    · cases h; exact fnok_140
    · cases h; exact fnok_141
    · cases h; exact fnok_142
    · cases h; exact fnok_143
    · cases h; exact fnok_144
    · cases h; exact fnok_149
    · cases h; exact fnok_150
    · cases h
theorem LI_sound (htab : Lib.TabIs Go.Proofs.Tryz.prog Bs.W0 "internal/strconv.uint64pow10" .u64 Lib.pow10Tab) (hmax : ∃ m, Bs.W0.cell? ⟨0, 0, none⟩ = some (.int .i64 m)) (hes : ∃ te pe, Bs.W0.var? Go.Proofs.Tryz.prog "strconv.ErrSyntax" = some #[.iface te pe]) (her : ∃ te pe, Bs.W0.var? Go.Proofs.Tryz.prog "strconv.ErrRange" = some #[.iface te pe]) : LI.Sound Go.Proofs.Tryz.prog := (orO_sound (numReadO_sound fun s w hw hs => Go.Proofs.nr_all htab hes her s w hw hs) (orO_sound (cutPrefixO_sound fun s p w => Go.Proofs.Tryz.strings_CutPrefix s p w) (orO_sound (splitO_sound (g1 := 0) (t9 := _) hmax fun s sep m w h1 h2 h3 => Go.Proofs.Tryz.strings_Split s sep m w h1 h2 h3) (trimO_sound fun s c h w hs => Go.Proofs.Tryz.strings_Trim_one s c h w hs))))
end M
