/- Each function of the table is the program's; no conditions. -/
import Derived.Test.YtanjldhhcnfibaaProg
import Derived.Test.YtanjldhhcnfibaaTab
set_option linter.unusedSectionVars false
set_option linter.unusedVariables false
set_option linter.unusedSectionVars false
set_option maxRecDepth 100000
namespace M
open Go
variable [Bs]
theorem told_4 : Told Go.Proofs.Try.prog 4 l_FnExactKindText_b [.t 2] 1 := Told.of Go.Proofs.Try.func4 (by decide +kernel)
theorem fnok_4 : fnOk Go.Proofs.Try.prog 4 = true := by decide +kernel
theorem told_6 : Told Go.Proofs.Try.prog 6 l_FnExactChunkRead_b [.t 2] 1 := Told.of Go.Proofs.Try.func6 (by decide +kernel)
theorem fnok_6 : fnOk Go.Proofs.Try.prog 6 = true := by decide +kernel
theorem told_7 : Told Go.Proofs.Try.prog 7 l_FnExactDiskOk_b [.t 2] 1 := Told.of Go.Proofs.Try.func7 (by decide +kernel)
theorem fnok_7 : fnOk Go.Proofs.Try.prog 7 = true := by decide +kernel
theorem told_8 : Told Go.Proofs.Try.prog 8 l_FnExactDiskGet_b [.t 4] 2 := Told.of Go.Proofs.Try.func8 (by decide +kernel)
theorem fnok_8 : fnOk Go.Proofs.Try.prog 8 = true := by decide +kernel
theorem told_9 : Told Go.Proofs.Try.prog 9 l_FnDisk_b [.t 2] 1 := Told.of Go.Proofs.Try.func9 (by decide +kernel)
theorem fnok_9 : fnOk Go.Proofs.Try.prog 9 = true := by decide +kernel
theorem told_10 : Told Go.Proofs.Try.prog 10 l_FnDiskPut_b [.t 2] 1 := Told.of Go.Proofs.Try.func10 (by decide +kernel)
theorem fnok_10 : fnOk Go.Proofs.Try.prog 10 = true := by decide +kernel
theorem told_11 : Told Go.Proofs.Try.prog 11 l_FnExactDiskPut_b [.t 6] 3 := Told.of Go.Proofs.Try.func11 (by decide +kernel)
theorem fnok_11 : fnOk Go.Proofs.Try.prog 11 = true := by decide +kernel
theorem told_12 : Told Go.Proofs.Try.prog 12 l_FnExactFlush_b [.t 2] 1 := Told.of Go.Proofs.Try.func12 (by decide +kernel)
theorem fnok_12 : fnOk Go.Proofs.Try.prog 12 = true := by decide +kernel
theorem told_13 : Told Go.Proofs.Try.prog 13 l_FnExactCrash_b [.t 4] 2 := Told.of Go.Proofs.Try.func13 (by decide +kernel)
theorem fnok_13 : fnOk Go.Proofs.Try.prog 13 = true := by decide +kernel
theorem told_16 : Told Go.Proofs.Try.prog 16 s_KindText_b [.t 2] 1 := Told.of Go.Proofs.Try.func16 (by decide +kernel)
theorem fnok_16 : fnOk Go.Proofs.Try.prog 16 = true := by decide +kernel
theorem told_17 : Told Go.Proofs.Try.prog 17 i_KindText_b [.t 2] 1 := Told.of Go.Proofs.Try.func17 (by decide +kernel)
theorem fnok_17 : fnOk Go.Proofs.Try.prog 17 = true := by decide +kernel
theorem told_18 : Told Go.Proofs.Try.prog 18 s_DiskNew_b [.c 0 2 true 29] 0 := Told.of Go.Proofs.Try.func18 (by decide +kernel)
theorem fnok_18 : fnOk Go.Proofs.Try.prog 18 = true := by decide +kernel
theorem told_19 : Told Go.Proofs.Try.prog 19 i_DiskNew_b [.c 0 2 true 29] 0 := Told.of Go.Proofs.Try.func19 (by decide +kernel)
theorem fnok_19 : fnOk Go.Proofs.Try.prog 19 = true := by decide +kernel
theorem told_20 : Told Go.Proofs.Try.prog 20 l_eqDisk_b [.t 4] 2 := Told.of Go.Proofs.Try.func20 (by decide +kernel)
theorem fnok_20 : fnOk Go.Proofs.Try.prog 20 = true := by decide +kernel
theorem told_21 : Told Go.Proofs.Try.prog 21 l_markDisk_b [.t 4] 2 := Told.of Go.Proofs.Try.func21 (by decide +kernel)
theorem fnok_21 : fnOk Go.Proofs.Try.prog 21 = true := by decide +kernel
theorem told_22 : Told Go.Proofs.Try.prog 22 l_heldDisk_b [.t 4] 2 := Told.of Go.Proofs.Try.func22 (by decide +kernel)
theorem fnok_22 : fnOk Go.Proofs.Try.prog 22 = true := by decide +kernel
theorem told_23 : Told Go.Proofs.Try.prog 23 s_ChunkRead_b [.t 2, .t 3, .t 4] 1 := Told.of Go.Proofs.Try.func23 (by decide +kernel)
theorem fnok_23 : fnOk Go.Proofs.Try.prog 23 = true := by decide +kernel
theorem told_24 : Told Go.Proofs.Try.prog 24 i_ChunkRead_b [.t 2, .t 3, .t 4] 1 := Told.of Go.Proofs.Try.func24 (by decide +kernel)
theorem fnok_24 : fnOk Go.Proofs.Try.prog 24 = true := by decide +kernel
theorem told_25 : Told Go.Proofs.Try.prog 25 l_szDisk_b [.t 4] 2 := Told.of Go.Proofs.Try.func25 (by decide +kernel)
theorem fnok_25 : fnOk Go.Proofs.Try.prog 25 = true := by decide +kernel
theorem told_26 : Told Go.Proofs.Try.prog 26 s_DiskOk_b [.t 2] 1 := Told.of Go.Proofs.Try.func26 (by decide +kernel)
theorem fnok_26 : fnOk Go.Proofs.Try.prog 26 = true := by decide +kernel
theorem told_27 : Told Go.Proofs.Try.prog 27 l_toDisk_b [.c 2 2 true 29] 1 := Told.of Go.Proofs.Try.func27 (by decide +kernel)
theorem fnok_27 : fnOk Go.Proofs.Try.prog 27 = true := by decide +kernel
theorem told_28 : Told Go.Proofs.Try.prog 28 i_DiskOk_b [.t 2] 1 := Told.of Go.Proofs.Try.func28 (by decide +kernel)
theorem fnok_28 : fnOk Go.Proofs.Try.prog 28 = true := by decide +kernel
theorem told_29 : Told Go.Proofs.Try.prog 29 s_DiskGet_b [.t 4] 2 := Told.of Go.Proofs.Try.func29 (by decide +kernel)
theorem fnok_29 : fnOk Go.Proofs.Try.prog 29 = true := by decide +kernel
theorem told_30 : Told Go.Proofs.Try.prog 30 i_DiskGet_b [.t 4] 2 := Told.of Go.Proofs.Try.func30 (by decide +kernel)
theorem fnok_30 : fnOk Go.Proofs.Try.prog 30 = true := by decide +kernel
theorem told_31 : Told Go.Proofs.Try.prog 31 l_big_b [.t 2] 1 := Told.of Go.Proofs.Try.func31 (by decide +kernel)
theorem fnok_31 : fnOk Go.Proofs.Try.prog 31 = true := by decide +kernel
theorem told_32 : Told Go.Proofs.Try.prog 32 s_DrawCrash_b [.c 2 2 true 29, .t 3] 1 := Told.of Go.Proofs.Try.func32 (by decide +kernel)
theorem fnok_32 : fnOk Go.Proofs.Try.prog 32 = true := by decide +kernel
theorem told_33 : Told Go.Proofs.Try.prog 33 i_Crash_b [.c 4 2 true 29] 2 := Told.of Go.Proofs.Try.func33 (by decide +kernel)
theorem fnok_33 : fnOk Go.Proofs.Try.prog 33 = true := by decide +kernel
theorem told_34 : Told Go.Proofs.Try.prog 34 s_Crash_b [.c 4 2 true 29] 2 := Told.of Go.Proofs.Try.func34 (by decide +kernel)
theorem fnok_34 : fnOk Go.Proofs.Try.prog 34 = true := by decide +kernel
theorem told_35 : Told Go.Proofs.Try.prog 35 l_sameTexts_b [.t 4] 2 := Told.of Go.Proofs.Try.func35 (by decide +kernel)
theorem fnok_35 : fnOk Go.Proofs.Try.prog 35 = true := by decide +kernel
theorem told_36 : Told Go.Proofs.Try.prog 36 i_Flush_b [.c 2 2 true 29] 1 := Told.of Go.Proofs.Try.func36 (by decide +kernel)
theorem fnok_36 : fnOk Go.Proofs.Try.prog 36 = true := by decide +kernel
theorem told_37 : Told Go.Proofs.Try.prog 37 s_DrawDiskPut_b [.c 2 2 true 29, .t 3, .t 4] 1 := Told.of Go.Proofs.Try.func37 (by decide +kernel)
theorem fnok_37 : fnOk Go.Proofs.Try.prog 37 = true := by decide +kernel
theorem told_38 : Told Go.Proofs.Try.prog 38 i_DiskPut_b [.c 6 2 true 29, .t 7] 3 := Told.of Go.Proofs.Try.func38 (by decide +kernel)
theorem fnok_38 : fnOk Go.Proofs.Try.prog 38 = true := by decide +kernel
theorem told_39 : Told Go.Proofs.Try.prog 39 s_DiskPut_b [.c 6 2 true 29, .t 7] 3 := Told.of Go.Proofs.Try.func39 (by decide +kernel)
theorem fnok_39 : fnOk Go.Proofs.Try.prog 39 = true := by decide +kernel
theorem told_40 : Told Go.Proofs.Try.prog 40 s_DrawDiskGet_b [.c 2 2 true 29, .t 3] 1 := Told.of Go.Proofs.Try.func40 (by decide +kernel)
theorem fnok_40 : fnOk Go.Proofs.Try.prog 40 = true := by decide +kernel
theorem told_41 : Told Go.Proofs.Try.prog 41 s_DrawFlush_b [.c 2 2 true 29] 1 := Told.of Go.Proofs.Try.func41 (by decide +kernel)
theorem fnok_41 : fnOk Go.Proofs.Try.prog 41 = true := by decide +kernel
theorem told_42 : Told Go.Proofs.Try.prog 42 s_Flush_b [.c 2 2 true 29] 1 := Told.of Go.Proofs.Try.func42 (by decide +kernel)
theorem fnok_42 : fnOk Go.Proofs.Try.prog 42 = true := by decide +kernel
theorem told_43 : Told Go.Proofs.Try.prog 43 l_toBoolS_b [.t 2] 1 := Told.of Go.Proofs.Try.func43 (by decide +kernel)
theorem fnok_43 : fnOk Go.Proofs.Try.prog 43 = true := by decide +kernel
theorem told_44 : Told Go.Proofs.Try.prog 44 l_eqBoolS_b [.t 4] 2 := Told.of Go.Proofs.Try.func44 (by decide +kernel)
theorem fnok_44 : fnOk Go.Proofs.Try.prog 44 = true := by decide +kernel
theorem told_45 : Told Go.Proofs.Try.prog 45 l_markBoolS_b [.t 4] 2 := Told.of Go.Proofs.Try.func45 (by decide +kernel)
theorem fnok_45 : fnOk Go.Proofs.Try.prog 45 = true := by decide +kernel
theorem told_46 : Told Go.Proofs.Try.prog 46 s_l1In_b [.t 6] 3 := Told.of Go.Proofs.Try.func46 (by decide +kernel)
theorem fnok_46 : fnOk Go.Proofs.Try.prog 46 = true := by decide +kernel
theorem told_47 : Told Go.Proofs.Try.prog 47 i_inRange_b [.t 6] 3 := Told.of Go.Proofs.Try.func47 (by decide +kernel)
theorem fnok_47 : fnOk Go.Proofs.Try.prog 47 = true := by decide +kernel
theorem told_48 : Told Go.Proofs.Try.prog 48 l_eqStringS_b [.t 4] 2 := Told.of Go.Proofs.Try.func48 (by decide +kernel)
theorem fnok_48 : fnOk Go.Proofs.Try.prog 48 = true := by decide +kernel
theorem told_49 : Told Go.Proofs.Try.prog 49 l_eqWriteS_b [.t 4] 2 := Told.of Go.Proofs.Try.func49 (by decide +kernel)
theorem fnok_49 : fnOk Go.Proofs.Try.prog 49 = true := by decide +kernel
theorem told_50 : Told Go.Proofs.Try.prog 50 l_markStringS_b [.t 4] 2 := Told.of Go.Proofs.Try.func50 (by decide +kernel)
theorem fnok_50 : fnOk Go.Proofs.Try.prog 50 = true := by decide +kernel
theorem told_51 : Told Go.Proofs.Try.prog 51 l_markWriteS_b [.t 4] 2 := Told.of Go.Proofs.Try.func51 (by decide +kernel)
theorem fnok_51 : fnOk Go.Proofs.Try.prog 51 = true := by decide +kernel
theorem told_52 : Told Go.Proofs.Try.prog 52 l_heldStringS_b [.t 4] 2 := Told.of Go.Proofs.Try.func52 (by decide +kernel)
theorem fnok_52 : fnOk Go.Proofs.Try.prog 52 = true := by decide +kernel
theorem told_53 : Told Go.Proofs.Try.prog 53 l_heldWriteS_b [.t 4] 2 := Told.of Go.Proofs.Try.func53 (by decide +kernel)
theorem fnok_53 : fnOk Go.Proofs.Try.prog 53 = true := by decide +kernel
theorem told_54 : Told Go.Proofs.Try.prog 54 s_l4Length_b [.t 4, .t 5, .t 6] 2 := Told.of Go.Proofs.Try.func54 (by decide +kernel)
theorem fnok_54 : fnOk Go.Proofs.Try.prog 54 = true := by decide +kernel
theorem told_55 : Told Go.Proofs.Try.prog 55 s_l4Line_b [.t 4] 2 := Told.of Go.Proofs.Try.func55 (by decide +kernel)
theorem fnok_55 : fnOk Go.Proofs.Try.prog 55 = true := by decide +kernel
theorem told_56 : Told Go.Proofs.Try.prog 56 i_chunker_part_b [.t 2] 1 := Told.of Go.Proofs.Try.func56 (by decide +kernel)
theorem fnok_56 : fnOk Go.Proofs.Try.prog 56 = true := by decide +kernel
theorem told_57 : Told Go.Proofs.Try.prog 57 l_szStringS_b [.t 4] 2 := Told.of Go.Proofs.Try.func57 (by decide +kernel)
theorem fnok_57 : fnOk Go.Proofs.Try.prog 57 = true := by decide +kernel
theorem told_58 : Told Go.Proofs.Try.prog 58 l_szWriteS_b [.t 4] 2 := Told.of Go.Proofs.Try.func58 (by decide +kernel)
theorem fnok_58 : fnOk Go.Proofs.Try.prog 58 = true := by decide +kernel
theorem told_59 : Told Go.Proofs.Try.prog 59 l_toStringS_b [.t 2] 1 := Told.of Go.Proofs.Try.func59 (by decide +kernel)
theorem fnok_59 : fnOk Go.Proofs.Try.prog 59 = true := by decide +kernel
theorem told_60 : Told Go.Proofs.Try.prog 60 l_toWriteS_b [.t 2] 1 := Told.of Go.Proofs.Try.func60 (by decide +kernel)
theorem fnok_60 : fnOk Go.Proofs.Try.prog 60 = true := by decide +kernel
theorem told_61 : Told Go.Proofs.Try.prog 61 i_isCell_b [.t 2] 1 := Told.of Go.Proofs.Try.func61 (by decide +kernel)
theorem fnok_61 : fnOk Go.Proofs.Try.prog 61 = true := by decide +kernel
theorem told_62 : Told Go.Proofs.Try.prog 62 i_Disk_get_b [.t 4] 2 := Told.of Go.Proofs.Try.func62 (by decide +kernel)
theorem fnok_62 : fnOk Go.Proofs.Try.prog 62 = true := by decide +kernel
theorem told_63 : Told Go.Proofs.Try.prog 63 s_l1New_b [.t 2] 1 := Told.of Go.Proofs.Try.func63 (by decide +kernel)
theorem fnok_63 : fnOk Go.Proofs.Try.prog 63 = true := by decide +kernel
theorem told_64 : Told Go.Proofs.Try.prog 64 s_l12Draw_b [.c 2 2 true 29] 1 := Told.of Go.Proofs.Try.func64 (by decide +kernel)
theorem fnok_64 : fnOk Go.Proofs.Try.prog 64 = true := by decide +kernel
theorem told_65 : Told Go.Proofs.Try.prog 65 s_l12DrawKeep_b [.t 4] 2 := Told.of Go.Proofs.Try.func65 (by decide +kernel)
theorem fnok_65 : fnOk Go.Proofs.Try.prog 65 = true := by decide +kernel
theorem told_67 : Told Go.Proofs.Try.prog 67 s_l12Land_b [.c 6 2 true 29] 3 := Told.of Go.Proofs.Try.func67 (by decide +kernel)
theorem fnok_67 : fnOk Go.Proofs.Try.prog 67 = true := by decide +kernel
theorem told_68 : Told Go.Proofs.Try.prog 68 i_copyDisk_b [.c 2 2 true 29] 1 := Told.of Go.Proofs.Try.func68 (by decide +kernel)
theorem fnok_68 : fnOk Go.Proofs.Try.prog 68 = true := by decide +kernel
theorem told_69 : Told Go.Proofs.Try.prog 69 i_Disk_flush_b [] 1 := Told.of Go.Proofs.Try.func69 (by decide +kernel)
theorem fnok_69 : fnOk Go.Proofs.Try.prog 69 = true := by decide +kernel
theorem told_70 : Told Go.Proofs.Try.prog 70 s_l1PickInt_b [.t 4] 2 := Told.of Go.Proofs.Try.func70 (by decide +kernel)
theorem fnok_70 : fnOk Go.Proofs.Try.prog 70 = true := by decide +kernel
theorem told_71 : Told Go.Proofs.Try.prog 71 s_l1DrawText_b [.t 2] 1 := Told.of Go.Proofs.Try.func71 (by decide +kernel)
theorem fnok_71 : fnOk Go.Proofs.Try.prog 71 = true := by decide +kernel
theorem told_72 : Told Go.Proofs.Try.prog 72 s_l12Copy_b [.c 2 2 true 29] 1 := Told.of Go.Proofs.Try.func72 (by decide +kernel)
theorem fnok_72 : fnOk Go.Proofs.Try.prog 72 = true := by decide +kernel
theorem told_73 : Told Go.Proofs.Try.prog 73 s_l1Below_b [.t 4] 2 := Told.of Go.Proofs.Try.func73 (by decide +kernel)
theorem fnok_73 : fnOk Go.Proofs.Try.prog 73 = true := by decide +kernel
theorem told_74 : Told Go.Proofs.Try.prog 74 l_eqWrite_b [.t 4] 2 := Told.of Go.Proofs.Try.func74 (by decide +kernel)
theorem fnok_74 : fnOk Go.Proofs.Try.prog 74 = true := by decide +kernel
theorem told_75 : Told Go.Proofs.Try.prog 75 l_markText_b [.t 2] 1 := Told.of Go.Proofs.Try.func75 (by decide +kernel)
theorem fnok_75 : fnOk Go.Proofs.Try.prog 75 = true := by decide +kernel
theorem told_76 : Told Go.Proofs.Try.prog 76 s_l4Value_b [.t 2] 1 := Told.of Go.Proofs.Try.func76 (by decide +kernel)
theorem fnok_76 : fnOk Go.Proofs.Try.prog 76 = true := by decide +kernel
theorem told_77 : Told Go.Proofs.Try.prog 77 i_chunker_length_b [.t 2] 1 := Told.of Go.Proofs.Try.func77 (by decide +kernel)
theorem fnok_77 : fnOk Go.Proofs.Try.prog 77 = true := by decide +kernel
theorem told_78 : Told Go.Proofs.Try.prog 78 i_chunker_take_b [] 2 := Told.of Go.Proofs.Try.func78 (by decide +kernel)
theorem fnok_78 : fnOk Go.Proofs.Try.prog 78 = true := by decide +kernel
theorem told_79 : Told Go.Proofs.Try.prog 79 i_chunker_fail_b [] 2 := Told.of Go.Proofs.Try.func79 (by decide +kernel)
theorem fnok_79 : fnOk Go.Proofs.Try.prog 79 = true := by decide +kernel
theorem told_80 : Told Go.Proofs.Try.prog 80 l_szWrite_b [.t 4] 2 := Told.of Go.Proofs.Try.func80 (by decide +kernel)
theorem fnok_80 : fnOk Go.Proofs.Try.prog 80 = true := by decide +kernel
theorem told_81 : Told Go.Proofs.Try.prog 81 l_toWrite_b [.c 2 2 true 77] 1 := Told.of Go.Proofs.Try.func81 (by decide +kernel)
theorem fnok_81 : fnOk Go.Proofs.Try.prog 81 = true := by decide +kernel
theorem told_82 : Told Go.Proofs.Try.prog 82 s_l12DrawRight_b [.c 2 2 true 29] 1 := Told.of Go.Proofs.Try.func82 (by decide +kernel)
theorem fnok_82 : fnOk Go.Proofs.Try.prog 82 = true := by decide +kernel
theorem told_83 : Told Go.Proofs.Try.prog 83 s_l1Once_b [.t 4] 2 := Told.of Go.Proofs.Try.func83 (by decide +kernel)
theorem fnok_83 : fnOk Go.Proofs.Try.prog 83 = true := by decide +kernel
theorem told_85 : Told Go.Proofs.Try.prog 85 s_l1Pick_b [.t 4] 2 := Told.of Go.Proofs.Try.func85 (by decide +kernel)
theorem fnok_85 : fnOk Go.Proofs.Try.prog 85 = true := by decide +kernel
theorem told_86 : Told Go.Proofs.Try.prog 86 s_l1Byte_b [.t 2] 1 := Told.of Go.Proofs.Try.func86 (by decide +kernel)
theorem fnok_86 : fnOk Go.Proofs.Try.prog 86 = true := by decide +kernel
theorem TT_ok : TT.Ok Go.Proofs.Try.prog := by
  refine ⟨fun f F h => ?_, fun f F h => ?_⟩
  · unfold TT at h
    split at h
    · cases h; exact told_4
    · cases h; exact told_6
    · cases h; exact told_7
    · cases h; exact told_8
    · cases h; exact told_9
    · cases h; exact told_10
    · cases h; exact told_11
    · cases h; exact told_12
    · cases h; exact told_13
    · cases h; exact told_16
    · cases h; exact told_17
    · cases h; exact told_18
    · cases h; exact told_19
    · cases h; exact told_20
    · cases h; exact told_21
    · cases h; exact told_22
    · cases h; exact told_23
    · cases h; exact told_24
    · cases h; exact told_25
    · cases h; exact told_26
    · cases h; exact told_27
    · cases h; exact told_28
    · cases h; exact told_29
    · cases h; exact told_30
    · cases h; exact told_31
    · cases h; exact told_32
    · cases h; exact told_33
    · cases h; exact told_34
    · cases h; exact told_35
    · cases h; exact told_36
    · cases h; exact told_37
    · cases h; exact told_38
    · cases h; exact told_39
    · cases h; exact told_40
    · cases h; exact told_41
    · cases h; exact told_42
    · cases h; exact told_43
    · cases h; exact told_44
    · cases h; exact told_45
    · cases h; exact told_46
    · cases h; exact told_47
    · cases h; exact told_48
    · cases h; exact told_49
    · cases h; exact told_50
    · cases h; exact told_51
    · cases h; exact told_52
    · cases h; exact told_53
    · cases h; exact told_54
    · cases h; exact told_55
    · cases h; exact told_56
    · cases h; exact told_57
    · cases h; exact told_58
    · cases h; exact told_59
    · cases h; exact told_60
    · cases h; exact told_61
    · cases h; exact told_62
    · cases h; exact told_63
    · cases h; exact told_64
    · cases h; exact told_65
    · cases h; exact told_67
    · cases h; exact told_68
    · cases h; exact told_69
    · cases h; exact told_70
    · cases h; exact told_71
    · cases h; exact told_72
    · cases h; exact told_73
    · cases h; exact told_74
    · cases h; exact told_75
    · cases h; exact told_76
    · cases h; exact told_77
    · cases h; exact told_78
    · cases h; exact told_79
    · cases h; exact told_80
    · cases h; exact told_81
    · cases h; exact told_82
    · cases h; exact told_83
    · cases h; exact told_85
    · cases h; exact told_86
    · cases h
  · unfold TT at h
    split at h
    · cases h; exact fnok_4
    · cases h; exact fnok_6
    · cases h; exact fnok_7
    · cases h; exact fnok_8
    · cases h; exact fnok_9
    · cases h; exact fnok_10
    · cases h; exact fnok_11
    · cases h; exact fnok_12
    · cases h; exact fnok_13
    · cases h; exact fnok_16
    · cases h; exact fnok_17
    · cases h; exact fnok_18
    · cases h; exact fnok_19
    · cases h; exact fnok_20
    · cases h; exact fnok_21
    · cases h; exact fnok_22
    · cases h; exact fnok_23
    · cases h; exact fnok_24
    · cases h; exact fnok_25
    · cases h; exact fnok_26
    · cases h; exact fnok_27
    · cases h; exact fnok_28
    · cases h; exact fnok_29
    · cases h; exact fnok_30
    · cases h; exact fnok_31
    · cases h; exact fnok_32
    · cases h; exact fnok_33
    · cases h; exact fnok_34
    · cases h; exact fnok_35
    · cases h; exact fnok_36
    · cases h; exact fnok_37
    · cases h; exact fnok_38
    · cases h; exact fnok_39
    · cases h; exact fnok_40
    · cases h; exact fnok_41
    · cases h; exact fnok_42
    · cases h; exact fnok_43
    · cases h; exact fnok_44
    · cases h; exact fnok_45
    · cases h; exact fnok_46
    · cases h; exact fnok_47
    · cases h; exact fnok_48
    · cases h; exact fnok_49
    · cases h; exact fnok_50
    · cases h; exact fnok_51
    · cases h; exact fnok_52
    · cases h; exact fnok_53
    · cases h; exact fnok_54
    · cases h; exact fnok_55
    · cases h; exact fnok_56
    · cases h; exact fnok_57
    · cases h; exact fnok_58
    · cases h; exact fnok_59
    · cases h; exact fnok_60
    · cases h; exact fnok_61
    · cases h; exact fnok_62
    · cases h; exact fnok_63
    · cases h; exact fnok_64
    · cases h; exact fnok_65
    · cases h; exact fnok_67
    · cases h; exact fnok_68
    · cases h; exact fnok_69
    · cases h; exact fnok_70
    · cases h; exact fnok_71
    · cases h; exact fnok_72
    · cases h; exact fnok_73
    · cases h; exact fnok_74
    · cases h; exact fnok_75
    · cases h; exact fnok_76
    · cases h; exact fnok_77
    · cases h; exact fnok_78
    · cases h; exact fnok_79
    · cases h; exact fnok_80
    · cases h; exact fnok_81
    · cases h; exact fnok_82
    · cases h; exact fnok_83
    · cases h; exact fnok_85
    · cases h; exact fnok_86
    · cases h
theorem told_66 : Told Go.Proofs.Try.prog 66 (cloneA 1 16) [.t 2] 1 := Told.of Go.Proofs.Try.func66 (by decide +kernel)
theorem told_84 : Told Go.Proofs.Try.prog 84 (cloneA 2 24) [.t 2] 1 := Told.of Go.Proofs.Try.func84 (by decide +kernel)
theorem LL_sound : LL.Sound Go.Proofs.Try.prog := orO_sound (cloneO_sound told_66) (cloneO_sound told_84)
end M
