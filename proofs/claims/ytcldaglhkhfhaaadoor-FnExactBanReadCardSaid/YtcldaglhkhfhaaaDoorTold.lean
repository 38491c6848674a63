/- Each function of the table is the program's, and the library is as it is said to be; no conditions. -/
import Derived.Test.YtcldaglhkhfhaaaDoorProg
import Derived.Test.YtcldaglhkhfhaaaDoorLay
import Derived.Test.YtcldaglhkhfhaaaDoorTab
import Derived.Test.YtcldaglhkhfhaaaDoorMd
set_option linter.unusedSectionVars false
set_option linter.unusedVariables false
set_option linter.unusedSectionVars false
set_option maxRecDepth 100000
namespace Go.Proofs
open Go.RowKit
set_option maxHeartbeats 2000000 in
set_option maxRecDepth 100000 in
theorem nr_long (s : ByteArray) (h : 7 < s.size) (w : World) :
    Calls Go.Proofs.Tryd.prog 76 #[.string s] w fun e w' => e = .returned (.tuple #[.int .i64 0, .bool false]) ∧ w' = w := by
  go_enter Tryd.func76, Tryd.ntmps76
  go_wp2
  · go_ret2; exact ⟨rfl, rfl⟩
set_option maxHeartbeats 2000000 in
set_option maxRecDepth 100000 in
theorem nr_ok (s : ByteArray) (h : ¬ 7 < s.size) (v : Int) (hv : Lib.atoiAll s.data.toList = .ok v) (w : World) (htab : Lib.TabIs Go.Proofs.Tryd.prog w "internal/strconv.uint64pow10" .u64 Lib.pow10Tab) :
    Calls Go.Proofs.Tryd.prog 76 #[.string s] w fun e w' => e = .returned (.tuple #[.int .i64 (nrV v s.data.toList), .bool (nrB v s.data.toList)]) ∧ Below w.heap.size w w' := by
  have hvb := Lib.atoiAll_bounds hv
  go_enter Tryd.func76, Tryd.ntmps76
  go_wp2_with (first
    | (go_at_call 101; refine (Tryd.strconv_Atoi_ok s (by omega) v hv _).mono ?_; rintro e W1 ⟨rfl, hW1⟩; have hb1 : Below w.heap.size w W1 := (by rcases hW1 with rfl | ⟨t, rfl⟩; exact Below.refl _ _; exact Lib.bytesWorld_below _ _ _); clear hW1)
    | (go_at_call 78; refine (Tryd.strconv_Itoa v hvb.1 hvb.2 _ (tab_below htab hb1)).mono ?_; rintro e W2 ⟨rfl, k, os, hW2⟩; have hb2 : Below w.heap.size w W2 := (by subst hW2; exact hb1.trans ((grow_below W1 k os).mono hb1.size)); clear hW2)
    | go_in)
  all_goals go_ret2
  all_goals refine ⟨?_, by assumption⟩
  all_goals first
    | (have hb : nrB v s.data.toList = true := (by
        unfold nrB
        rw [decide_eq_true_eq]
        refine ⟨by assumption, by assumption, ?_⟩
        rw [← Lib.toList_data]
        rename_i hz
        simpa using hz)
       rw [nrV, if_pos hb, hb]; rfl)
    | (have hb : nrB v s.data.toList = false := (by
        unfold nrB
        rw [decide_eq_false_iff_not]
        rintro ⟨h1, h2, h3⟩
        first
        | omega
        | (rw [← Lib.toList_data] at h3
           rename_i hz
           simp [h3] at hz))
       rw [nrV, hb]; rfl)
set_option maxHeartbeats 2000000 in
set_option maxRecDepth 100000 in
theorem nr_bad (s : ByteArray) (h : ¬ 7 < s.size) (w : World)
    (hA : Calls Go.Proofs.Tryd.prog 101 #[.string s] w fun e w' => ∃ n t N, e = .returned (.tuple #[.int .i64 n, .iface t (.pointer (some ⟨N, 0, none⟩))]) ∧ Below w.heap.size w w') :
    Calls Go.Proofs.Tryd.prog 76 #[.string s] w fun e w' => e = .returned (.tuple #[.int .i64 0, .bool false]) ∧ Below w.heap.size w w' := by
  go_enter Tryd.func76, Tryd.ntmps76
  go_wp2_with (first
    | (go_at_call 101; refine hA.mono ?_; rintro e W1 ⟨n, t, N, rfl, hb1⟩)
    | go_in)
  all_goals go_ret2
  all_goals exact ⟨rfl, by assumption⟩
theorem nr_all [B : M.Bs] (htab : Lib.TabIs Go.Proofs.Tryd.prog B.W0 "internal/strconv.uint64pow10" .u64 Lib.pow10Tab) (hes : ∃ te pe, B.W0.var? Go.Proofs.Tryd.prog "strconv.ErrSyntax" = some #[.iface te pe]) (her : ∃ te pe, B.W0.var? Go.Proofs.Tryd.prog "strconv.ErrRange" = some #[.iface te pe])
    (s : ByteArray) (w : World) (hw : M.Same0 w) (hs : s.size ≤ 9223372036854775807) :
    Calls Go.Proofs.Tryd.prog 76 #[.string s] w fun e w' => e = .returned (.tuple #[.int .i64 (((M.numRead s.data.toList).getD 0 : Nat) : Int), .bool (M.numRead s.data.toList).isSome]) ∧ Below w.heap.size w w' := by
  refine nr_of (a := 0) hs (fun h => nr_long s h w) (fun h v hv => nr_ok s h v hv w (M.TabIs.same htab hw)) fun h hv => ?_
  refine nr_bad s h w ?_
  rcases hv' : Lib.atoiAll s.data.toList with v | _ | _
  · exact absurd hv' (hv v)
  · obtain ⟨te, pe, h1⟩ := hes
    exact (Any.strconv_Atoi_syntax_var Tryd.laysC172 s (by omega) hv' te pe w (var_same h1 hw)).mono fun e w' ⟨N, he, _, _, hb⟩ => ⟨_, _, N, he, hb⟩
  · obtain ⟨te, pe, h1⟩ := her
    exact (Any.strconv_Atoi_range_var Tryd.laysC172 s (by omega) hv' te pe w (var_same h1 hw)).mono fun e w' ⟨N, he, _, _, hb⟩ => ⟨_, _, N, he, hb⟩
end Go.Proofs

namespace M
open Go
variable [Bs]
theorem told_8 : Told Go.Proofs.Tryd.prog 8 l_FnExactBanRead_b [.t 2] 1 := Told.of Go.Proofs.Tryd.func8 (by decide +kernel)
theorem fnok_8 : fnOk Go.Proofs.Tryd.prog 8 = true := by decide +kernel
theorem told_34 : Told Go.Proofs.Tryd.prog 34 s_BanRead_b [.c 2 4 true 66, .t 3] 1 := Told.of Go.Proofs.Tryd.func34 (by decide +kernel)
theorem fnok_34 : fnOk Go.Proofs.Tryd.prog 34 = true := by decide +kernel
theorem told_35 : Told Go.Proofs.Tryd.prog 35 i_BanRead_b [.c 2 4 true 66, .t 3] 1 := Told.of Go.Proofs.Tryd.func35 (by decide +kernel)
theorem fnok_35 : fnOk Go.Proofs.Tryd.prog 35 = true := by decide +kernel
theorem told_36 : Told Go.Proofs.Tryd.prog 36 l_eqBan_b [.t 4] 2 := Told.of Go.Proofs.Tryd.func36 (by decide +kernel)
theorem fnok_36 : fnOk Go.Proofs.Tryd.prog 36 = true := by decide +kernel
theorem told_52 : Told Go.Proofs.Tryd.prog 52 i_inRange_b [.t 6] 3 := Told.of Go.Proofs.Tryd.func52 (by decide +kernel)
theorem fnok_52 : fnOk Go.Proofs.Tryd.prog 52 = true := by decide +kernel
theorem told_54 : Told Go.Proofs.Tryd.prog 54 s_l1In_b [.t 6] 3 := Told.of Go.Proofs.Tryd.func54 (by decide +kernel)
theorem fnok_54 : fnOk Go.Proofs.Tryd.prog 54 = true := by decide +kernel
theorem told_60 : Told Go.Proofs.Tryd.prog 60 s_NumText_b [.t 2] 1 := Told.of Go.Proofs.Tryd.func60 (by decide +kernel)
theorem fnok_60 : fnOk Go.Proofs.Tryd.prog 60 = true := by decide +kernel
theorem told_66 : Told Go.Proofs.Tryd.prog 66 i_NumText_b [.t 2] 1 := Told.of Go.Proofs.Tryd.func66 (by decide +kernel)
theorem fnok_66 : fnOk Go.Proofs.Tryd.prog 66 = true := by decide +kernel
theorem told_71 : Told Go.Proofs.Tryd.prog 71 s_l10Line_b [.t 4, .t 5] 2 := Told.of Go.Proofs.Tryd.func71 (by decide +kernel)
theorem fnok_71 : fnOk Go.Proofs.Tryd.prog 71 = true := by decide +kernel
theorem told_72 : Told Go.Proofs.Tryd.prog 72 s_l3Words_b [.t 2] 1 := Told.of Go.Proofs.Tryd.func72 (by decide +kernel)
theorem fnok_72 : fnOk Go.Proofs.Tryd.prog 72 = true := by decide +kernel
theorem told_73 : Told Go.Proofs.Tryd.prog 73 s_NumRead_b [.t 2, .t 3] 1 := Told.of Go.Proofs.Tryd.func73 (by decide +kernel)
theorem fnok_73 : fnOk Go.Proofs.Tryd.prog 73 = true := by decide +kernel
theorem told_80 : Told Go.Proofs.Tryd.prog 80 s_BanText_b [.t 2] 1 := Told.of Go.Proofs.Tryd.func80 (by decide +kernel)
theorem fnok_80 : fnOk Go.Proofs.Tryd.prog 80 = true := by decide +kernel
theorem told_81 : Told Go.Proofs.Tryd.prog 81 i_banWord_b [.t 2] 1 := Told.of Go.Proofs.Tryd.func81 (by decide +kernel)
theorem fnok_81 : fnOk Go.Proofs.Tryd.prog 81 = true := by decide +kernel
theorem told_82 : Told Go.Proofs.Tryd.prog 82 i_BanText_b [.t 2] 1 := Told.of Go.Proofs.Tryd.func82 (by decide +kernel)
theorem fnok_82 : fnOk Go.Proofs.Tryd.prog 82 = true := by decide +kernel
theorem told_104 : Told Go.Proofs.Tryd.prog 104 s_BanOk_b [.t 2] 1 := Told.of Go.Proofs.Tryd.func104 (by decide +kernel)
theorem fnok_104 : fnOk Go.Proofs.Tryd.prog 104 = true := by decide +kernel
theorem told_105 : Told Go.Proofs.Tryd.prog 105 i_BanOk_b [.t 2] 1 := Told.of Go.Proofs.Tryd.func105 (by decide +kernel)
theorem fnok_105 : fnOk Go.Proofs.Tryd.prog 105 = true := by decide +kernel
theorem told_123 : Told Go.Proofs.Tryd.prog 123 s_l3Path_b [.t 2] 1 := Told.of Go.Proofs.Tryd.func123 (by decide +kernel)
theorem fnok_123 : fnOk Go.Proofs.Tryd.prog 123 = true := by decide +kernel
theorem told_124 : Told Go.Proofs.Tryd.prog 124 s_TokenOk_b [.t 2] 1 := Told.of Go.Proofs.Tryd.func124 (by decide +kernel)
theorem fnok_124 : fnOk Go.Proofs.Tryd.prog 124 = true := by decide +kernel
theorem told_125 : Told Go.Proofs.Tryd.prog 125 s_ValueOk_b [.t 2] 1 := Told.of Go.Proofs.Tryd.func125 (by decide +kernel)
theorem fnok_125 : fnOk Go.Proofs.Tryd.prog 125 = true := by decide +kernel
theorem told_126 : Told Go.Proofs.Tryd.prog 126 i_isTime_b [.t 2] 1 := Told.of Go.Proofs.Tryd.func126 (by decide +kernel)
theorem fnok_126 : fnOk Go.Proofs.Tryd.prog 126 = true := by decide +kernel
theorem told_127 : Told Go.Proofs.Tryd.prog 127 i_pathOk_b [.t 2] 1 := Told.of Go.Proofs.Tryd.func127 (by decide +kernel)
theorem fnok_127 : fnOk Go.Proofs.Tryd.prog 127 = true := by decide +kernel
theorem told_128 : Told Go.Proofs.Tryd.prog 128 i_TokenOk_b [.t 2] 1 := Told.of Go.Proofs.Tryd.func128 (by decide +kernel)
theorem fnok_128 : fnOk Go.Proofs.Tryd.prog 128 = true := by decide +kernel
theorem told_129 : Told Go.Proofs.Tryd.prog 129 i_ValueOk_b [.t 2] 1 := Told.of Go.Proofs.Tryd.func129 (by decide +kernel)
theorem fnok_129 : fnOk Go.Proofs.Tryd.prog 129 = true := by decide +kernel
theorem told_147 : Told Go.Proofs.Tryd.prog 147 s_Trim_b [.t 2] 1 := Told.of Go.Proofs.Tryd.func147 (by decide +kernel)
theorem fnok_147 : fnOk Go.Proofs.Tryd.prog 147 = true := by decide +kernel
theorem told_148 : Told Go.Proofs.Tryd.prog 148 i_areFrom_b [.t 4] 2 := Told.of Go.Proofs.Tryd.func148 (by decide +kernel)
theorem fnok_148 : fnOk Go.Proofs.Tryd.prog 148 = true := by decide +kernel
theorem told_149 : Told Go.Proofs.Tryd.prog 149 i_Trim_b [.t 2] 1 := Told.of Go.Proofs.Tryd.func149 (by decide +kernel)
theorem fnok_149 : fnOk Go.Proofs.Tryd.prog 149 = true := by decide +kernel
theorem TT_ok : TT.Ok Go.Proofs.Tryd.prog := by
  refine ⟨fun f F h => ?_, fun f F h => ?_⟩
  · unfold TT at h
    split at h
    · cases h; exact told_8
    · cases h; exact told_34
    · cases h; exact told_35
    · cases h; exact told_36
    · cases h; exact told_52
    · cases h; exact told_54
    · cases h; exact told_60
    · cases h; exact told_66
    · cases h; exact told_71
    · cases h; exact told_72
    · cases h; exact told_73
    · cases h; exact told_80
    · cases h; exact told_81
    · cases h; exact told_82
    · cases h; exact told_104
    · cases h; exact told_105
    · cases h; exact told_123
    · cases h; exact told_124
    · cases h; exact told_125
    · cases h; exact told_126
    · cases h; exact told_127
    · cases h; exact told_128
    · cases h; exact told_129
    · cases h; exact told_147
    · cases h; exact told_148
    · cases h; exact told_149
    · cases h
  · unfold TT at h
    split at h
    · cases h; exact fnok_8
    · cases h; exact fnok_34
    · cases h; exact fnok_35
    · cases h; exact fnok_36
    · cases h; exact fnok_52
    · cases h; exact fnok_54
    · cases h; exact fnok_60
    · cases h; exact fnok_66
    · cases h; exact fnok_71
    · cases h; exact fnok_72
    · cases h; exact fnok_73
    · cases h; exact fnok_80
    · cases h; exact fnok_81
    · cases h; exact fnok_82
    · cases h; exact fnok_104
    · cases h; exact fnok_105
    · cases h; exact fnok_123
    · cases h; exact fnok_124
    · cases h; exact fnok_125
    · cases h; exact fnok_126
    · cases h; exact fnok_127
    · cases h; exact fnok_128
    · cases h; exact fnok_129
    · cases h; exact fnok_147
    · cases h; exact fnok_148
    · cases h; exact fnok_149
    · cases h
theorem LI_sound (htab : Lib.TabIs Go.Proofs.Tryd.prog Bs.W0 "internal/strconv.uint64pow10" .u64 Lib.pow10Tab) (hmax : ∃ m, Bs.W0.cell? ⟨1, 0, none⟩ = some (.int .i64 m)) (hes : ∃ te pe, Bs.W0.var? Go.Proofs.Tryd.prog "strconv.ErrSyntax" = some #[.iface te pe]) (her : ∃ te pe, Bs.W0.var? Go.Proofs.Tryd.prog "strconv.ErrRange" = some #[.iface te pe]) : LI.Sound Go.Proofs.Tryd.prog := (orO_sound (numReadO_sound fun s w hw hs => Go.Proofs.nr_all htab hes her s w hw hs) (orO_sound (itoaO_sound htab fun n h0 h1 w ht => Go.Proofs.Tryd.strconv_Itoa n h0 h1 w ht) (orO_sound (cutO_sound (g1 := 1) hmax fun s sep m w h1 h2 => Go.Proofs.Tryd.strings_Cut s sep m w h1 h2) (orO_sound (splitO_sound (g1 := 1) (t9 := _) hmax fun s sep m w h1 h2 h3 => Go.Proofs.Tryd.strings_Split s sep m w h1 h2 h3) (trimO_sound fun s c h w hs => Go.Proofs.Tryd.strings_Trim_one s c h w hs)))))
end M
