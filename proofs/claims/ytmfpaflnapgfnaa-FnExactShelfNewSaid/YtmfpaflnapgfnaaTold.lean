/- Each function of the table is the program's; no conditions. -/
import Derived.Test.YtmfpaflnapgfnaaProg
import Derived.Test.YtmfpaflnapgfnaaTab
set_option linter.unusedSectionVars false
set_option linter.unusedVariables false
set_option linter.unusedSectionVars false
set_option maxRecDepth 100000
namespace M
open Go
variable [Bs]
theorem told_3 : Told Go.Proofs.Try.prog 3 l_FnExactShelfNew_b [.t 0] 0 := Told.of Go.Proofs.Try.func3 (by decide +kernel)
theorem fnok_3 : fnOk Go.Proofs.Try.prog 3 = true := by decide +kernel
theorem told_5 : Told Go.Proofs.Try.prog 5 l_FnExactCacheNew_b [.t 0] 0 := Told.of Go.Proofs.Try.func5 (by decide +kernel)
theorem fnok_5 : fnOk Go.Proofs.Try.prog 5 = true := by decide +kernel
theorem told_7 : Told Go.Proofs.Try.prog 7 s_ShelfNew_b [.c 0 6 true 29] 0 := Told.of Go.Proofs.Try.func7 (by decide +kernel)
theorem fnok_7 : fnOk Go.Proofs.Try.prog 7 = true := by decide +kernel
theorem told_8 : Told Go.Proofs.Try.prog 8 i_ShelfNew_b [.c 0 6 true 29] 0 := Told.of Go.Proofs.Try.func8 (by decide +kernel)
theorem fnok_8 : fnOk Go.Proofs.Try.prog 8 = true := by decide +kernel
theorem told_9 : Told Go.Proofs.Try.prog 9 l_eqShelf_b [.t 4] 2 := Told.of Go.Proofs.Try.func9 (by decide +kernel)
theorem fnok_9 : fnOk Go.Proofs.Try.prog 9 = true := by decide +kernel
theorem told_10 : Told Go.Proofs.Try.prog 10 l_markShelf_b [.t 4] 2 := Told.of Go.Proofs.Try.func10 (by decide +kernel)
theorem fnok_10 : fnOk Go.Proofs.Try.prog 10 = true := by decide +kernel
theorem told_11 : Told Go.Proofs.Try.prog 11 l_heldShelf_b [.t 4] 2 := Told.of Go.Proofs.Try.func11 (by decide +kernel)
theorem fnok_11 : fnOk Go.Proofs.Try.prog 11 = true := by decide +kernel
theorem told_16 : Told Go.Proofs.Try.prog 16 l_eqCache_b [.t 4] 2 := Told.of Go.Proofs.Try.func16 (by decide +kernel)
theorem fnok_16 : fnOk Go.Proofs.Try.prog 16 = true := by decide +kernel
theorem told_17 : Told Go.Proofs.Try.prog 17 s_CacheNew_b [.c 0 10 true 53] 0 := Told.of Go.Proofs.Try.func17 (by decide +kernel)
theorem fnok_17 : fnOk Go.Proofs.Try.prog 17 = true := by decide +kernel
theorem told_18 : Told Go.Proofs.Try.prog 18 i_CacheNew_b [.c 0 10 true 53] 0 := Told.of Go.Proofs.Try.func18 (by decide +kernel)
theorem fnok_18 : fnOk Go.Proofs.Try.prog 18 = true := by decide +kernel
theorem told_19 : Told Go.Proofs.Try.prog 19 l_markCache_b [.t 4] 2 := Told.of Go.Proofs.Try.func19 (by decide +kernel)
theorem fnok_19 : fnOk Go.Proofs.Try.prog 19 = true := by decide +kernel
theorem told_20 : Told Go.Proofs.Try.prog 20 l_heldCache_b [.t 4] 2 := Told.of Go.Proofs.Try.func20 (by decide +kernel)
theorem fnok_20 : fnOk Go.Proofs.Try.prog 20 = true := by decide +kernel
theorem told_25 : Told Go.Proofs.Try.prog 25 l_eqReply_b [.t 4] 2 := Told.of Go.Proofs.Try.func25 (by decide +kernel)
theorem fnok_25 : fnOk Go.Proofs.Try.prog 25 = true := by decide +kernel
theorem told_26 : Told Go.Proofs.Try.prog 26 s_DiskNew_b [.c 0 2 true 25] 0 := Told.of Go.Proofs.Try.func26 (by decide +kernel)
theorem fnok_26 : fnOk Go.Proofs.Try.prog 26 = true := by decide +kernel
theorem told_27 : Told Go.Proofs.Try.prog 27 i_DiskNew_b [.c 0 2 true 25] 0 := Told.of Go.Proofs.Try.func27 (by decide +kernel)
theorem fnok_27 : fnOk Go.Proofs.Try.prog 27 = true := by decide +kernel
theorem told_28 : Told Go.Proofs.Try.prog 28 l_eqDisk_b [.t 4] 2 := Told.of Go.Proofs.Try.func28 (by decide +kernel)
theorem fnok_28 : fnOk Go.Proofs.Try.prog 28 = true := by decide +kernel
theorem told_29 : Told Go.Proofs.Try.prog 29 l_eqKeptS_b [.t 4] 2 := Told.of Go.Proofs.Try.func29 (by decide +kernel)
theorem fnok_29 : fnOk Go.Proofs.Try.prog 29 = true := by decide +kernel
theorem told_30 : Told Go.Proofs.Try.prog 30 l_eqBanS_b [.t 4] 2 := Told.of Go.Proofs.Try.func30 (by decide +kernel)
theorem fnok_30 : fnOk Go.Proofs.Try.prog 30 = true := by decide +kernel
theorem told_31 : Told Go.Proofs.Try.prog 31 l_markDisk_b [.t 4] 2 := Told.of Go.Proofs.Try.func31 (by decide +kernel)
theorem fnok_31 : fnOk Go.Proofs.Try.prog 31 = true := by decide +kernel
theorem told_32 : Told Go.Proofs.Try.prog 32 l_markKeptS_b [.t 4] 2 := Told.of Go.Proofs.Try.func32 (by decide +kernel)
theorem fnok_32 : fnOk Go.Proofs.Try.prog 32 = true := by decide +kernel
theorem told_33 : Told Go.Proofs.Try.prog 33 l_markBanS_b [.t 4] 2 := Told.of Go.Proofs.Try.func33 (by decide +kernel)
theorem fnok_33 : fnOk Go.Proofs.Try.prog 33 = true := by decide +kernel
theorem told_34 : Told Go.Proofs.Try.prog 34 l_heldDisk_b [.t 4] 2 := Told.of Go.Proofs.Try.func34 (by decide +kernel)
theorem fnok_34 : fnOk Go.Proofs.Try.prog 34 = true := by decide +kernel
theorem told_35 : Told Go.Proofs.Try.prog 35 l_heldKeptS_b [.t 4] 2 := Told.of Go.Proofs.Try.func35 (by decide +kernel)
theorem fnok_35 : fnOk Go.Proofs.Try.prog 35 = true := by decide +kernel
theorem told_36 : Told Go.Proofs.Try.prog 36 l_heldBanS_b [.t 4] 2 := Told.of Go.Proofs.Try.func36 (by decide +kernel)
theorem fnok_36 : fnOk Go.Proofs.Try.prog 36 = true := by decide +kernel
theorem told_45 : Told Go.Proofs.Try.prog 45 l_eqFlightS_b [.t 4] 2 := Told.of Go.Proofs.Try.func45 (by decide +kernel)
theorem fnok_45 : fnOk Go.Proofs.Try.prog 45 = true := by decide +kernel
theorem told_46 : Told Go.Proofs.Try.prog 46 l_eqSeenS_b [.t 4] 2 := Told.of Go.Proofs.Try.func46 (by decide +kernel)
theorem fnok_46 : fnOk Go.Proofs.Try.prog 46 = true := by decide +kernel
theorem told_47 : Told Go.Proofs.Try.prog 47 l_eqReplyS_b [.t 4] 2 := Told.of Go.Proofs.Try.func47 (by decide +kernel)
theorem fnok_47 : fnOk Go.Proofs.Try.prog 47 = true := by decide +kernel
theorem told_48 : Told Go.Proofs.Try.prog 48 l_markFlightS_b [.t 4] 2 := Told.of Go.Proofs.Try.func48 (by decide +kernel)
theorem fnok_48 : fnOk Go.Proofs.Try.prog 48 = true := by decide +kernel
theorem told_49 : Told Go.Proofs.Try.prog 49 l_markSeenS_b [.t 4] 2 := Told.of Go.Proofs.Try.func49 (by decide +kernel)
theorem fnok_49 : fnOk Go.Proofs.Try.prog 49 = true := by decide +kernel
theorem told_50 : Told Go.Proofs.Try.prog 50 l_markReplyS_b [.t 4] 2 := Told.of Go.Proofs.Try.func50 (by decide +kernel)
theorem fnok_50 : fnOk Go.Proofs.Try.prog 50 = true := by decide +kernel
theorem told_51 : Told Go.Proofs.Try.prog 51 l_heldFlightS_b [.t 4] 2 := Told.of Go.Proofs.Try.func51 (by decide +kernel)
theorem fnok_51 : fnOk Go.Proofs.Try.prog 51 = true := by decide +kernel
theorem told_52 : Told Go.Proofs.Try.prog 52 l_heldSeenS_b [.t 4] 2 := Told.of Go.Proofs.Try.func52 (by decide +kernel)
theorem fnok_52 : fnOk Go.Proofs.Try.prog 52 = true := by decide +kernel
theorem told_53 : Told Go.Proofs.Try.prog 53 l_heldReplyS_b [.t 4] 2 := Told.of Go.Proofs.Try.func53 (by decide +kernel)
theorem fnok_53 : fnOk Go.Proofs.Try.prog 53 = true := by decide +kernel
theorem told_62 : Told Go.Proofs.Try.prog 62 l_eqReq_b [.t 4] 2 := Told.of Go.Proofs.Try.func62 (by decide +kernel)
theorem fnok_62 : fnOk Go.Proofs.Try.prog 62 = true := by decide +kernel
theorem told_63 : Told Go.Proofs.Try.prog 63 l_eqResp_b [.t 4] 2 := Told.of Go.Proofs.Try.func63 (by decide +kernel)
theorem fnok_63 : fnOk Go.Proofs.Try.prog 63 = true := by decide +kernel
theorem told_64 : Told Go.Proofs.Try.prog 64 l_eqObj_b [.t 4] 2 := Told.of Go.Proofs.Try.func64 (by decide +kernel)
theorem fnok_64 : fnOk Go.Proofs.Try.prog 64 = true := by decide +kernel
theorem told_65 : Told Go.Proofs.Try.prog 65 l_eqStringS_b [.t 4] 2 := Told.of Go.Proofs.Try.func65 (by decide +kernel)
theorem fnok_65 : fnOk Go.Proofs.Try.prog 65 = true := by decide +kernel
theorem told_66 : Told Go.Proofs.Try.prog 66 l_eqWriteS_b [.t 4] 2 := Told.of Go.Proofs.Try.func66 (by decide +kernel)
theorem fnok_66 : fnOk Go.Proofs.Try.prog 66 = true := by decide +kernel
theorem told_67 : Told Go.Proofs.Try.prog 67 l_eqKept_b [.t 4] 2 := Told.of Go.Proofs.Try.func67 (by decide +kernel)
theorem fnok_67 : fnOk Go.Proofs.Try.prog 67 = true := by decide +kernel
theorem told_68 : Told Go.Proofs.Try.prog 68 l_eqBan_b [.t 4] 2 := Told.of Go.Proofs.Try.func68 (by decide +kernel)
theorem fnok_68 : fnOk Go.Proofs.Try.prog 68 = true := by decide +kernel
theorem told_69 : Told Go.Proofs.Try.prog 69 l_markStringS_b [.t 4] 2 := Told.of Go.Proofs.Try.func69 (by decide +kernel)
theorem fnok_69 : fnOk Go.Proofs.Try.prog 69 = true := by decide +kernel
theorem told_70 : Told Go.Proofs.Try.prog 70 l_markWriteS_b [.t 4] 2 := Told.of Go.Proofs.Try.func70 (by decide +kernel)
theorem fnok_70 : fnOk Go.Proofs.Try.prog 70 = true := by decide +kernel
theorem told_71 : Told Go.Proofs.Try.prog 71 l_markText_b [.t 2] 1 := Told.of Go.Proofs.Try.func71 (by decide +kernel)
theorem fnok_71 : fnOk Go.Proofs.Try.prog 71 = true := by decide +kernel
theorem told_72 : Told Go.Proofs.Try.prog 72 l_markFieldS_b [.t 4] 2 := Told.of Go.Proofs.Try.func72 (by decide +kernel)
theorem fnok_72 : fnOk Go.Proofs.Try.prog 72 = true := by decide +kernel
theorem told_73 : Told Go.Proofs.Try.prog 73 l_heldStringS_b [.t 4] 2 := Told.of Go.Proofs.Try.func73 (by decide +kernel)
theorem fnok_73 : fnOk Go.Proofs.Try.prog 73 = true := by decide +kernel
theorem told_74 : Told Go.Proofs.Try.prog 74 l_heldWriteS_b [.t 4] 2 := Told.of Go.Proofs.Try.func74 (by decide +kernel)
theorem fnok_74 : fnOk Go.Proofs.Try.prog 74 = true := by decide +kernel
theorem told_75 : Told Go.Proofs.Try.prog 75 l_heldFieldS_b [.t 4] 2 := Told.of Go.Proofs.Try.func75 (by decide +kernel)
theorem fnok_75 : fnOk Go.Proofs.Try.prog 75 = true := by decide +kernel
theorem told_86 : Told Go.Proofs.Try.prog 86 l_eqFlight_b [.t 4] 2 := Told.of Go.Proofs.Try.func86 (by decide +kernel)
theorem fnok_86 : fnOk Go.Proofs.Try.prog 86 = true := by decide +kernel
theorem told_87 : Told Go.Proofs.Try.prog 87 l_eqSeen_b [.t 4] 2 := Told.of Go.Proofs.Try.func87 (by decide +kernel)
theorem fnok_87 : fnOk Go.Proofs.Try.prog 87 = true := by decide +kernel
theorem told_88 : Told Go.Proofs.Try.prog 88 l_markIntS_b [.t 4] 2 := Told.of Go.Proofs.Try.func88 (by decide +kernel)
theorem fnok_88 : fnOk Go.Proofs.Try.prog 88 = true := by decide +kernel
theorem told_89 : Told Go.Proofs.Try.prog 89 l_heldIntS_b [.t 4] 2 := Told.of Go.Proofs.Try.func89 (by decide +kernel)
theorem fnok_89 : fnOk Go.Proofs.Try.prog 89 = true := by decide +kernel
theorem told_98 : Told Go.Proofs.Try.prog 98 l_eqFieldS_b [.t 4] 2 := Told.of Go.Proofs.Try.func98 (by decide +kernel)
theorem fnok_98 : fnOk Go.Proofs.Try.prog 98 = true := by decide +kernel
theorem told_99 : Told Go.Proofs.Try.prog 99 l_eqWrite_b [.t 4] 2 := Told.of Go.Proofs.Try.func99 (by decide +kernel)
theorem fnok_99 : fnOk Go.Proofs.Try.prog 99 = true := by decide +kernel
theorem told_108 : Told Go.Proofs.Try.prog 108 l_eqIntS_b [.t 4] 2 := Told.of Go.Proofs.Try.func108 (by decide +kernel)
theorem fnok_108 : fnOk Go.Proofs.Try.prog 108 = true := by decide +kernel
theorem told_115 : Told Go.Proofs.Try.prog 115 l_eqField_b [.t 4] 2 := Told.of Go.Proofs.Try.func115 (by decide +kernel)
theorem fnok_115 : fnOk Go.Proofs.Try.prog 115 = true := by decide +kernel
theorem TT_ok : TT.Ok Go.Proofs.Try.prog := by
  refine ⟨fun f F h => ?_, fun f F h => ?_⟩
  · unfold TT at h
    split at h
    · cases h; exact told_3
    · cases h; exact told_5
    · cases h; exact told_7
    · cases h; exact told_8
    · cases h; exact told_9
    · cases h; exact told_10
    · cases h; exact told_11
    · cases h; exact told_16
    · cases h; exact told_17
    · cases h; exact told_18
    · cases h; exact told_19
    · cases h; exact told_20
    · cases h; exact told_25
    · cases h; exact told_26
    · cases h; exact told_27
    · cases h; exact told_28
    · cases h; exact told_29
    · cases h; exact told_30
    · cases h; exact told_31
    · cases h; exact told_32
    · cases h; exact told_33
    · cases h; exact told_34
    · cases h; exact told_35
    · cases h; exact told_36
    · cases h; exact told_45
    · cases h; exact told_46
    · cases h; exact told_47
    · cases h; exact told_48
    · cases h; exact told_49
    · cases h; exact told_50
    · cases h; exact told_51
    · cases h; exact told_52
    · cases h; exact told_53
    · cases h; exact told_62
    · cases h; exact told_63
    · cases h; exact told_64
    · cases h; exact told_65
    · cases h; exact told_66
    · cases h; exact told_67
    · cases h; exact told_68
    · cases h; exact told_69
    · cases h; exact told_70
    · cases h; exact told_71
    · cases h; exact told_72
    · cases h; exact told_73
    · cases h; exact told_74
    · cases h; exact told_75
    · cases h; exact told_86
    · cases h; exact told_87
    · cases h; exact told_88
    · cases h; exact told_89
    · cases h; exact told_98
    · cases h; exact told_99
    · cases h; exact told_108
    · cases h; exact told_115
    · cases h
  · unfold TT at h
    split at h
    · cases h; exact fnok_3
    · cases h; exact fnok_5
    · cases h; exact fnok_7
    · cases h; exact fnok_8
    · cases h; exact fnok_9
    · cases h; exact fnok_10
    · cases h; exact fnok_11
    · cases h; exact fnok_16
    · cases h; exact fnok_17
    · cases h; exact fnok_18
    · cases h; exact fnok_19
    · cases h; exact fnok_20
    · cases h; exact fnok_25
    · cases h; exact fnok_26
    · cases h; exact fnok_27
    · cases h; exact fnok_28
    · cases h; exact fnok_29
    · cases h; exact fnok_30
    · cases h; exact fnok_31
    · cases h; exact fnok_32
    · cases h; exact fnok_33
    · cases h; exact fnok_34
    · cases h; exact fnok_35
    · cases h; exact fnok_36
    · cases h; exact fnok_45
    · cases h; exact fnok_46
    · cases h; exact fnok_47
    · cases h; exact fnok_48
    · cases h; exact fnok_49
    · cases h; exact fnok_50
    · cases h; exact fnok_51
    · cases h; exact fnok_52
    · cases h; exact fnok_53
    · cases h; exact fnok_62
    · cases h; exact fnok_63
    · cases h; exact fnok_64
    · cases h; exact fnok_65
    · cases h; exact fnok_66
    · cases h; exact fnok_67
    · cases h; exact fnok_68
    · cases h; exact fnok_69
    · cases h; exact fnok_70
    · cases h; exact fnok_71
    · cases h; exact fnok_72
    · cases h; exact fnok_73
    · cases h; exact fnok_74
    · cases h; exact fnok_75
    · cases h; exact fnok_86
    · cases h; exact fnok_87
    · cases h; exact fnok_88
    · cases h; exact fnok_89
    · cases h; exact fnok_98
    · cases h; exact fnok_99
    · cases h; exact fnok_108
    · cases h; exact fnok_115
    · cases h
end M
