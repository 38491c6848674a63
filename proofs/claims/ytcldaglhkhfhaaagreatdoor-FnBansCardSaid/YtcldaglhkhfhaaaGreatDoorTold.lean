/- Each function of the table is the program's, and the library is as it is said to be; no conditions. -/
import Derived.Test.YtcldaglhkhfhaaaGreatDoorProg
import Derived.Test.YtcldaglhkhfhaaaGreatDoorLay
import Derived.Test.YtcldaglhkhfhaaaGreatDoorTab
import Derived.Test.YtcldaglhkhfhaaaGreatDoorMd
set_option linter.unusedSectionVars false
set_option linter.unusedVariables false
set_option linter.unusedSectionVars false
set_option maxRecDepth 100000
namespace Go.Proofs
open Go.RowKit
set_option maxHeartbeats 2000000 in
set_option maxRecDepth 100000 in
theorem nr_long (s : ByteArray) (h : 7 < s.size) (w : World) :
    Calls Go.Proofs.Tryz.prog 60 #[.string s] w fun e w' => e = .returned (.tuple #[.int .i64 0, .bool false]) ∧ w' = w := by
  go_enter Tryz.func60, Tryz.ntmps60
  go_wp2
  · go_ret2; exact ⟨rfl, rfl⟩
set_option maxHeartbeats 2000000 in
set_option maxRecDepth 100000 in
theorem nr_ok (s : ByteArray) (h : ¬ 7 < s.size) (v : Int) (hv : Lib.atoiAll s.data.toList = .ok v) (w : World) (htab : Lib.TabIs Go.Proofs.Tryz.prog w "internal/strconv.uint64pow10" .u64 Lib.pow10Tab) :
    Calls Go.Proofs.Tryz.prog 60 #[.string s] w fun e w' => e = .returned (.tuple #[.int .i64 (nrV v s.data.toList), .bool (nrB v s.data.toList)]) ∧ Below w.heap.size w w' := by
  have hvb := Lib.atoiAll_bounds hv
  go_enter Tryz.func60, Tryz.ntmps60
  go_wp2_with (first
    | (go_at_call 116; refine (Tryz.strconv_Atoi_ok s (by omega) v hv _).mono ?_; rintro e W1 ⟨rfl, hW1⟩; have hb1 : Below w.heap.size w W1 := (by rcases hW1 with rfl | ⟨t, rfl⟩; exact Below.refl _ _; exact Lib.bytesWorld_below _ _ _); clear hW1)
    | (go_at_call 111; refine (Tryz.strconv_Itoa v hvb.1 hvb.2 _ (tab_below htab hb1)).mono ?_; rintro e W2 ⟨rfl, k, os, hW2⟩; have hb2 : Below w.heap.size w W2 := (by subst hW2; exact hb1.trans ((grow_below W1 k os).mono hb1.size)); clear hW2)
    | go_in)
  all_goals go_ret2
  all_goals refine ⟨?_, by assumption⟩
  all_goals first
    | (have hb : nrB v s.data.toList = true := (by
        unfold nrB
        rw [decide_eq_true_eq]
        refine ⟨by assumption, by assumption, ?_⟩
        rw [← Lib.toList_data]
        rename_i hz
        simpa using hz)
       rw [nrV, if_pos hb, hb]; rfl)
    | (have hb : nrB v s.data.toList = false := (by
        unfold nrB
        rw [decide_eq_false_iff_not]
        rintro ⟨h1, h2, h3⟩
        first
        | omega
        | (rw [← Lib.toList_data] at h3
           rename_i hz
           simp [h3] at hz))
       rw [nrV, hb]; rfl)
set_option maxHeartbeats 2000000 in
set_option maxRecDepth 100000 in
theorem nr_bad (s : ByteArray) (h : ¬ 7 < s.size) (w : World)
    (hA : Calls Go.Proofs.Tryz.prog 116 #[.string s] w fun e w' => ∃ n t N, e = .returned (.tuple #[.int .i64 n, .iface t (.pointer (some ⟨N, 0, none⟩))]) ∧ Below w.heap.size w w') :
    Calls Go.Proofs.Tryz.prog 60 #[.string s] w fun e w' => e = .returned (.tuple #[.int .i64 0, .bool false]) ∧ Below w.heap.size w w' := by
  go_enter Tryz.func60, Tryz.ntmps60
  go_wp2_with (first
    | (go_at_call 116; refine hA.mono ?_; rintro e W1 ⟨n, t, N, rfl, hb1⟩)
    | go_in)
  all_goals go_ret2
  all_goals exact ⟨rfl, by assumption⟩
theorem nr_all [B : M.Bs] (htab : Lib.TabIs Go.Proofs.Tryz.prog B.W0 "internal/strconv.uint64pow10" .u64 Lib.pow10Tab) (hes : ∃ te pe, B.W0.var? Go.Proofs.Tryz.prog "strconv.ErrSyntax" = some #[.iface te pe]) (her : ∃ te pe, B.W0.var? Go.Proofs.Tryz.prog "strconv.ErrRange" = some #[.iface te pe])
    (s : ByteArray) (w : World) (hw : M.Same0 w) (hs : s.size ≤ 9223372036854775807) :
    Calls Go.Proofs.Tryz.prog 60 #[.string s] w fun e w' => e = .returned (.tuple #[.int .i64 (((M.numRead s.data.toList).getD 0 : Nat) : Int), .bool (M.numRead s.data.toList).isSome]) ∧ Below w.heap.size w w' := by
  refine nr_of (a := 0) hs (fun h => nr_long s h w) (fun h v hv => nr_ok s h v hv w (M.TabIs.same htab hw)) fun h hv => ?_
  refine nr_bad s h w ?_
  rcases hv' : Lib.atoiAll s.data.toList with v | _ | _
  · exact absurd hv' (hv v)
  · obtain ⟨te, pe, h1⟩ := hes
    exact (Any.strconv_Atoi_syntax_var Tryz.laysC172 s (by omega) hv' te pe w (var_same h1 hw)).mono fun e w' ⟨N, he, _, _, hb⟩ => ⟨_, _, N, he, hb⟩
  · obtain ⟨te, pe, h1⟩ := her
    exact (Any.strconv_Atoi_range_var Tryz.laysC172 s (by omega) hv' te pe w (var_same h1 hw)).mono fun e w' ⟨N, he, _, _, hb⟩ => ⟨_, _, N, he, hb⟩
end Go.Proofs

namespace M
open Go
variable [Bs]
theorem told_4 : Told Go.Proofs.Tryz.prog 4 l_FnBans_b [.t 2] 1 := Told.of Go.Proofs.Tryz.func4 (by decide +kernel)
theorem fnok_4 : fnOk Go.Proofs.Tryz.prog 4 = true := by decide +kernel
theorem told_11 : Told Go.Proofs.Tryz.prog 11 l_big_b [.t 2] 1 := Told.of Go.Proofs.Tryz.func11 (by decide +kernel)
theorem fnok_11 : fnOk Go.Proofs.Tryz.prog 11 = true := by decide +kernel
theorem told_12 : Told Go.Proofs.Tryz.prog 12 s_DrawBanText_b [.c 2 4 true 45] 1 := Told.of Go.Proofs.Tryz.func12 (by decide +kernel)
theorem fnok_12 : fnOk Go.Proofs.Tryz.prog 12 = true := by decide +kernel
theorem told_13 : Told Go.Proofs.Tryz.prog 13 i_BanText_b [.t 2] 1 := Told.of Go.Proofs.Tryz.func13 (by decide +kernel)
theorem fnok_13 : fnOk Go.Proofs.Tryz.prog 13 = true := by decide +kernel
theorem told_14 : Told Go.Proofs.Tryz.prog 14 s_BanText_b [.t 2] 1 := Told.of Go.Proofs.Tryz.func14 (by decide +kernel)
theorem fnok_14 : fnOk Go.Proofs.Tryz.prog 14 = true := by decide +kernel
theorem told_15 : Told Go.Proofs.Tryz.prog 15 i_BanOk_b [.t 2] 1 := Told.of Go.Proofs.Tryz.func15 (by decide +kernel)
theorem fnok_15 : fnOk Go.Proofs.Tryz.prog 15 = true := by decide +kernel
theorem told_16 : Told Go.Proofs.Tryz.prog 16 i_BanRead_b [.c 2 4 true 45, .t 3] 1 := Told.of Go.Proofs.Tryz.func16 (by decide +kernel)
theorem fnok_16 : fnOk Go.Proofs.Tryz.prog 16 = true := by decide +kernel
theorem told_17 : Told Go.Proofs.Tryz.prog 17 s_DrawBanRead_b [.t 2] 1 := Told.of Go.Proofs.Tryz.func17 (by decide +kernel)
theorem fnok_17 : fnOk Go.Proofs.Tryz.prog 17 = true := by decide +kernel
theorem told_18 : Told Go.Proofs.Tryz.prog 18 s_BanRead_b [.c 2 4 true 45, .t 3] 1 := Told.of Go.Proofs.Tryz.func18 (by decide +kernel)
theorem fnok_18 : fnOk Go.Proofs.Tryz.prog 18 = true := by decide +kernel
theorem told_36 : Told Go.Proofs.Tryz.prog 36 s_l1In_b [.t 6] 3 := Told.of Go.Proofs.Tryz.func36 (by decide +kernel)
theorem fnok_36 : fnOk Go.Proofs.Tryz.prog 36 = true := by decide +kernel
theorem told_37 : Told Go.Proofs.Tryz.prog 37 s_BanOk_b [.t 2] 1 := Told.of Go.Proofs.Tryz.func37 (by decide +kernel)
theorem fnok_37 : fnOk Go.Proofs.Tryz.prog 37 = true := by decide +kernel
theorem told_43 : Told Go.Proofs.Tryz.prog 43 i_inRange_b [.t 6] 3 := Told.of Go.Proofs.Tryz.func43 (by decide +kernel)
theorem fnok_43 : fnOk Go.Proofs.Tryz.prog 43 = true := by decide +kernel
theorem told_49 : Told Go.Proofs.Tryz.prog 49 s_l11Draw_b [.c 2 4 true 45] 1 := Told.of Go.Proofs.Tryz.func49 (by decide +kernel)
theorem fnok_49 : fnOk Go.Proofs.Tryz.prog 49 = true := by decide +kernel
theorem told_50 : Told Go.Proofs.Tryz.prog 50 s_l1New_b [.t 2] 1 := Told.of Go.Proofs.Tryz.func50 (by decide +kernel)
theorem fnok_50 : fnOk Go.Proofs.Tryz.prog 50 = true := by decide +kernel
theorem told_51 : Told Go.Proofs.Tryz.prog 51 i_banWord_b [.t 2] 1 := Told.of Go.Proofs.Tryz.func51 (by decide +kernel)
theorem fnok_51 : fnOk Go.Proofs.Tryz.prog 51 = true := by decide +kernel
theorem told_52 : Told Go.Proofs.Tryz.prog 52 i_NumText_b [.t 2] 1 := Told.of Go.Proofs.Tryz.func52 (by decide +kernel)
theorem fnok_52 : fnOk Go.Proofs.Tryz.prog 52 = true := by decide +kernel
theorem told_53 : Told Go.Proofs.Tryz.prog 53 s_NumText_b [.t 2] 1 := Told.of Go.Proofs.Tryz.func53 (by decide +kernel)
theorem fnok_53 : fnOk Go.Proofs.Tryz.prog 53 = true := by decide +kernel
theorem told_54 : Told Go.Proofs.Tryz.prog 54 i_isTime_b [.t 2] 1 := Told.of Go.Proofs.Tryz.func54 (by decide +kernel)
theorem fnok_54 : fnOk Go.Proofs.Tryz.prog 54 = true := by decide +kernel
theorem told_55 : Told Go.Proofs.Tryz.prog 55 i_pathOk_b [.t 2] 1 := Told.of Go.Proofs.Tryz.func55 (by decide +kernel)
theorem fnok_55 : fnOk Go.Proofs.Tryz.prog 55 = true := by decide +kernel
theorem told_56 : Told Go.Proofs.Tryz.prog 56 i_TokenOk_b [.t 2] 1 := Told.of Go.Proofs.Tryz.func56 (by decide +kernel)
theorem fnok_56 : fnOk Go.Proofs.Tryz.prog 56 = true := by decide +kernel
theorem told_57 : Told Go.Proofs.Tryz.prog 57 i_ValueOk_b [.t 2] 1 := Told.of Go.Proofs.Tryz.func57 (by decide +kernel)
theorem fnok_57 : fnOk Go.Proofs.Tryz.prog 57 = true := by decide +kernel
theorem told_61 : Told Go.Proofs.Tryz.prog 61 s_l3Dent_b [.t 6] 3 := Told.of Go.Proofs.Tryz.func61 (by decide +kernel)
theorem fnok_61 : fnOk Go.Proofs.Tryz.prog 61 = true := by decide +kernel
theorem told_62 : Told Go.Proofs.Tryz.prog 62 s_l11DrawRight_b [.c 4 4 true 45] 2 := Told.of Go.Proofs.Tryz.func62 (by decide +kernel)
theorem fnok_62 : fnOk Go.Proofs.Tryz.prog 62 = true := by decide +kernel
theorem told_63 : Told Go.Proofs.Tryz.prog 63 s_l1Below_b [.t 4] 2 := Told.of Go.Proofs.Tryz.func63 (by decide +kernel)
theorem fnok_63 : fnOk Go.Proofs.Tryz.prog 63 = true := by decide +kernel
theorem told_64 : Told Go.Proofs.Tryz.prog 64 s_l10Line_b [.t 4, .t 5] 2 := Told.of Go.Proofs.Tryz.func64 (by decide +kernel)
theorem fnok_64 : fnOk Go.Proofs.Tryz.prog 64 = true := by decide +kernel
theorem told_65 : Told Go.Proofs.Tryz.prog 65 s_l3Words_b [.t 2] 1 := Told.of Go.Proofs.Tryz.func65 (by decide +kernel)
theorem fnok_65 : fnOk Go.Proofs.Tryz.prog 65 = true := by decide +kernel
theorem told_66 : Told Go.Proofs.Tryz.prog 66 s_NumRead_b [.t 2, .t 3] 1 := Told.of Go.Proofs.Tryz.func66 (by decide +kernel)
theorem fnok_66 : fnOk Go.Proofs.Tryz.prog 66 = true := by decide +kernel
theorem told_93 : Told Go.Proofs.Tryz.prog 93 s_l3Path_b [.t 2] 1 := Told.of Go.Proofs.Tryz.func93 (by decide +kernel)
theorem fnok_93 : fnOk Go.Proofs.Tryz.prog 93 = true := by decide +kernel
theorem told_94 : Told Go.Proofs.Tryz.prog 94 s_TokenOk_b [.t 2] 1 := Told.of Go.Proofs.Tryz.func94 (by decide +kernel)
theorem fnok_94 : fnOk Go.Proofs.Tryz.prog 94 = true := by decide +kernel
theorem told_95 : Told Go.Proofs.Tryz.prog 95 s_ValueOk_b [.t 2] 1 := Told.of Go.Proofs.Tryz.func95 (by decide +kernel)
theorem fnok_95 : fnOk Go.Proofs.Tryz.prog 95 = true := by decide +kernel
theorem told_109 : Told Go.Proofs.Tryz.prog 109 s_l7DrawTime_b [.t 2] 1 := Told.of Go.Proofs.Tryz.func109 (by decide +kernel)
theorem fnok_109 : fnOk Go.Proofs.Tryz.prog 109 = true := by decide +kernel
theorem told_110 : Told Go.Proofs.Tryz.prog 110 s_l1Pick_b [.t 4] 2 := Told.of Go.Proofs.Tryz.func110 (by decide +kernel)
theorem fnok_110 : fnOk Go.Proofs.Tryz.prog 110 = true := by decide +kernel
theorem told_112 : Told Go.Proofs.Tryz.prog 112 i_areFrom_b [.t 4] 2 := Told.of Go.Proofs.Tryz.func112 (by decide +kernel)
theorem fnok_112 : fnOk Go.Proofs.Tryz.prog 112 = true := by decide +kernel
theorem told_113 : Told Go.Proofs.Tryz.prog 113 i_Trim_b [.t 2] 1 := Told.of Go.Proofs.Tryz.func113 (by decide +kernel)
theorem fnok_113 : fnOk Go.Proofs.Tryz.prog 113 = true := by decide +kernel
theorem told_117 : Told Go.Proofs.Tryz.prog 117 s_l1Byte_b [.t 2] 1 := Told.of Go.Proofs.Tryz.func117 (by decide +kernel)
theorem fnok_117 : fnOk Go.Proofs.Tryz.prog 117 = true := by decide +kernel
theorem told_135 : Told Go.Proofs.Tryz.prog 135 s_Trim_b [.t 2] 1 := Told.of Go.Proofs.Tryz.func135 (by decide +kernel)
theorem fnok_135 : fnOk Go.Proofs.Tryz.prog 135 = true := by decide +kernel
theorem told_144 : Told Go.Proofs.Tryz.prog 144 s_l1Once_b [.t 4] 2 := Told.of Go.Proofs.Tryz.func144 (by decide +kernel)
theorem fnok_144 : fnOk Go.Proofs.Tryz.prog 144 = true := by decide +kernel
theorem told_145 : Told Go.Proofs.Tryz.prog 145 s_l1PickInt_b [.t 4] 2 := Told.of Go.Proofs.Tryz.func145 (by decide +kernel)
theorem fnok_145 : fnOk Go.Proofs.Tryz.prog 145 = true := by decide +kernel
theorem TT_ok : TT.Ok Go.Proofs.Tryz.prog := by
  refine ⟨fun f F h => ?_, fun f F h => ?_⟩
  · unfold TT at h
    split at h
    · cases h; exact told_4
    · cases h; exact told_11
    · cases h; exact told_12
    · cases h; exact told_13
    · cases h; exact told_14
    · cases h; exact told_15
    · cases h; exact told_16
    · cases h; exact told_17
    · cases h; exact told_18
    · cases h; exact told_36
    · cases h; exact told_37
    · cases h; exact told_43
    · cases h; exact told_49
    · cases h; exact told_50
    · cases h; exact told_51
    · cases h; exact told_52
    · cases h; exact told_53
    · cases h; exact told_54
    · cases h; exact told_55
    · cases h; exact told_56
    · cases h; exact told_57
    · cases h; exact told_61
    · cases h; exact told_62
    · cases h; exact told_63
    · cases h; exact told_64
    · cases h; exact told_65
    · cases h; exact told_66
    · cases h; exact told_93
    · cases h; exact told_94
    · cases h; exact told_95
    · cases h; exact told_109
    · cases h; exact told_110
    · cases h; exact told_112
    · cases h; exact told_113
    · cases h; exact told_117
    · cases h; exact told_135
    · cases h; exact told_144
    · cases h; exact told_145
    · cases h
  · unfold TT at h
    split at h
    · cases h; exact fnok_4
    · cases h; exact fnok_11
    · cases h; exact fnok_12
    · cases h; exact fnok_13
    · cases h; exact fnok_14
    · cases h; exact fnok_15
    · cases h; exact fnok_16
    · cases h; exact fnok_17
    · cases h; exact fnok_18
    · cases h; exact fnok_36
    · cases h; exact fnok_37
    · cases h; exact fnok_43
    · cases h; exact fnok_49
    · cases h; exact fnok_50
    · cases h; exact fnok_51
    · cases h; exact fnok_52
    · cases h; exact fnok_53
    · cases h; exact fnok_54
    · cases h; exact fnok_55
    · cases h; exact fnok_56
    · cases h; exact fnok_57
    · cases h; exact fnok_61
    · cases h; exact fnok_62
    · cases h; exact fnok_63
    · cases h; exact fnok_64
    · cases h; exact fnok_65
    · cases h; exact fnok_66
    · cases h; exact fnok_93
    · cases h; exact fnok_94
    · cases h; exact fnok_95
    · cases h; exact fnok_109
    · cases h; exact fnok_110
    · cases h; exact fnok_112
    · cases h; exact fnok_113
    · cases h; exact fnok_117
    · cases h; exact fnok_135
    · cases h; exact fnok_144
    · cases h; exact fnok_145
    · cases h
theorem LI_sound (htab : Lib.TabIs Go.Proofs.Tryz.prog Bs.W0 "internal/strconv.uint64pow10" .u64 Lib.pow10Tab) (hmax : ∃ m, Bs.W0.cell? ⟨0, 0, none⟩ = some (.int .i64 m)) (hes : ∃ te pe, Bs.W0.var? Go.Proofs.Tryz.prog "strconv.ErrSyntax" = some #[.iface te pe]) (her : ∃ te pe, Bs.W0.var? Go.Proofs.Tryz.prog "strconv.ErrRange" = some #[.iface te pe]) : LI.Sound Go.Proofs.Tryz.prog := (orO_sound (numReadO_sound fun s w hw hs => Go.Proofs.nr_all htab hes her s w hw hs) (orO_sound (itoaO_sound htab fun n h0 h1 w ht => Go.Proofs.Tryz.strconv_Itoa n h0 h1 w ht) (orO_sound (cutO_sound (g1 := 0) hmax fun s sep m w h1 h2 => Go.Proofs.Tryz.strings_Cut s sep m w h1 h2) (orO_sound (splitO_sound (g1 := 0) (t9 := _) hmax fun s sep m w h1 h2 h3 => Go.Proofs.Tryz.strings_Split s sep m w h1 h2 h3) (trimO_sound fun s c h w hs => Go.Proofs.Tryz.strings_Trim_one s c h w hs)))))
end M
