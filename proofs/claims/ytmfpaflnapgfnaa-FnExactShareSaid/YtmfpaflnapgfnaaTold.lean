/- Each function of the table is the program's; no conditions. -/
import Derived.Test.YtmfpaflnapgfnaaProg
import Derived.Test.YtmfpaflnapgfnaaTab
set_option linter.unusedSectionVars false
set_option linter.unusedVariables false
set_option linter.unusedSectionVars false
set_option maxRecDepth 100000
namespace M
open Go
variable [Bs]
theorem told_4 : Told Go.Proofs.Try.prog 4 l_FnExactShare_b [.t 2] 1 := Told.of Go.Proofs.Try.func4 (by decide +kernel)
theorem fnok_4 : fnOk Go.Proofs.Try.prog 4 = true := by decide +kernel
theorem told_9 : Told Go.Proofs.Try.prog 9 l_eqShelf_b [.t 4] 2 := Told.of Go.Proofs.Try.func9 (by decide +kernel)
theorem fnok_9 : fnOk Go.Proofs.Try.prog 9 = true := by decide +kernel
theorem told_12 : Told Go.Proofs.Try.prog 12 l_szCache_b [.t 4] 2 := Told.of Go.Proofs.Try.func12 (by decide +kernel)
theorem fnok_12 : fnOk Go.Proofs.Try.prog 12 = true := by decide +kernel
theorem told_13 : Told Go.Proofs.Try.prog 13 s_Share_b [.t 2, .t 3] 1 := Told.of Go.Proofs.Try.func13 (by decide +kernel)
theorem fnok_13 : fnOk Go.Proofs.Try.prog 13 = true := by decide +kernel
theorem told_14 : Told Go.Proofs.Try.prog 14 l_toCache_b [.c 2 10 true 53] 1 := Told.of Go.Proofs.Try.func14 (by decide +kernel)
theorem fnok_14 : fnOk Go.Proofs.Try.prog 14 = true := by decide +kernel
theorem told_15 : Told Go.Proofs.Try.prog 15 i_Share_b [.t 2, .t 3] 1 := Told.of Go.Proofs.Try.func15 (by decide +kernel)
theorem fnok_15 : fnOk Go.Proofs.Try.prog 15 = true := by decide +kernel
theorem told_16 : Told Go.Proofs.Try.prog 16 l_eqCache_b [.t 4] 2 := Told.of Go.Proofs.Try.func16 (by decide +kernel)
theorem fnok_16 : fnOk Go.Proofs.Try.prog 16 = true := by decide +kernel
theorem told_21 : Told Go.Proofs.Try.prog 21 l_szReply_b [.t 4] 2 := Told.of Go.Proofs.Try.func21 (by decide +kernel)
theorem fnok_21 : fnOk Go.Proofs.Try.prog 21 = true := by decide +kernel
theorem told_23 : Told Go.Proofs.Try.prog 23 l_toReply_b [.c 2 18 true 78] 1 := Told.of Go.Proofs.Try.func23 (by decide +kernel)
theorem fnok_23 : fnOk Go.Proofs.Try.prog 23 = true := by decide +kernel
theorem told_25 : Told Go.Proofs.Try.prog 25 l_eqReply_b [.t 4] 2 := Told.of Go.Proofs.Try.func25 (by decide +kernel)
theorem fnok_25 : fnOk Go.Proofs.Try.prog 25 = true := by decide +kernel
theorem told_28 : Told Go.Proofs.Try.prog 28 l_eqDisk_b [.t 4] 2 := Told.of Go.Proofs.Try.func28 (by decide +kernel)
theorem fnok_28 : fnOk Go.Proofs.Try.prog 28 = true := by decide +kernel
theorem told_29 : Told Go.Proofs.Try.prog 29 l_eqKeptS_b [.t 4] 2 := Told.of Go.Proofs.Try.func29 (by decide +kernel)
theorem fnok_29 : fnOk Go.Proofs.Try.prog 29 = true := by decide +kernel
theorem told_30 : Told Go.Proofs.Try.prog 30 l_eqBanS_b [.t 4] 2 := Told.of Go.Proofs.Try.func30 (by decide +kernel)
theorem fnok_30 : fnOk Go.Proofs.Try.prog 30 = true := by decide +kernel
theorem told_37 : Told Go.Proofs.Try.prog 37 l_szShelf_b [.t 4] 2 := Told.of Go.Proofs.Try.func37 (by decide +kernel)
theorem fnok_37 : fnOk Go.Proofs.Try.prog 37 = true := by decide +kernel
theorem told_38 : Told Go.Proofs.Try.prog 38 l_szFlightS_b [.t 4] 2 := Told.of Go.Proofs.Try.func38 (by decide +kernel)
theorem fnok_38 : fnOk Go.Proofs.Try.prog 38 = true := by decide +kernel
theorem told_39 : Told Go.Proofs.Try.prog 39 l_szSeenS_b [.t 4] 2 := Told.of Go.Proofs.Try.func39 (by decide +kernel)
theorem fnok_39 : fnOk Go.Proofs.Try.prog 39 = true := by decide +kernel
theorem told_40 : Told Go.Proofs.Try.prog 40 l_szReplyS_b [.t 4] 2 := Told.of Go.Proofs.Try.func40 (by decide +kernel)
theorem fnok_40 : fnOk Go.Proofs.Try.prog 40 = true := by decide +kernel
theorem told_41 : Told Go.Proofs.Try.prog 41 l_toShelf_b [.c 2 6 true 29] 1 := Told.of Go.Proofs.Try.func41 (by decide +kernel)
theorem fnok_41 : fnOk Go.Proofs.Try.prog 41 = true := by decide +kernel
theorem told_42 : Told Go.Proofs.Try.prog 42 l_toFlightS_b [.t 2] 1 := Told.of Go.Proofs.Try.func42 (by decide +kernel)
theorem fnok_42 : fnOk Go.Proofs.Try.prog 42 = true := by decide +kernel
theorem told_43 : Told Go.Proofs.Try.prog 43 l_toSeenS_b [.t 2] 1 := Told.of Go.Proofs.Try.func43 (by decide +kernel)
theorem fnok_43 : fnOk Go.Proofs.Try.prog 43 = true := by decide +kernel
theorem told_44 : Told Go.Proofs.Try.prog 44 l_toReplyS_b [.t 2] 1 := Told.of Go.Proofs.Try.func44 (by decide +kernel)
theorem fnok_44 : fnOk Go.Proofs.Try.prog 44 = true := by decide +kernel
theorem told_45 : Told Go.Proofs.Try.prog 45 l_eqFlightS_b [.t 4] 2 := Told.of Go.Proofs.Try.func45 (by decide +kernel)
theorem fnok_45 : fnOk Go.Proofs.Try.prog 45 = true := by decide +kernel
theorem told_46 : Told Go.Proofs.Try.prog 46 l_eqSeenS_b [.t 4] 2 := Told.of Go.Proofs.Try.func46 (by decide +kernel)
theorem fnok_46 : fnOk Go.Proofs.Try.prog 46 = true := by decide +kernel
theorem told_47 : Told Go.Proofs.Try.prog 47 l_eqReplyS_b [.t 4] 2 := Told.of Go.Proofs.Try.func47 (by decide +kernel)
theorem fnok_47 : fnOk Go.Proofs.Try.prog 47 = true := by decide +kernel
theorem told_54 : Told Go.Proofs.Try.prog 54 l_szReq_b [.t 4] 2 := Told.of Go.Proofs.Try.func54 (by decide +kernel)
theorem fnok_54 : fnOk Go.Proofs.Try.prog 54 = true := by decide +kernel
theorem told_55 : Told Go.Proofs.Try.prog 55 l_szResp_b [.t 4] 2 := Told.of Go.Proofs.Try.func55 (by decide +kernel)
theorem fnok_55 : fnOk Go.Proofs.Try.prog 55 = true := by decide +kernel
theorem told_56 : Told Go.Proofs.Try.prog 56 l_szObj_b [.t 4] 2 := Told.of Go.Proofs.Try.func56 (by decide +kernel)
theorem fnok_56 : fnOk Go.Proofs.Try.prog 56 = true := by decide +kernel
theorem told_58 : Told Go.Proofs.Try.prog 58 l_toReq_b [.c 2 4 true 72] 1 := Told.of Go.Proofs.Try.func58 (by decide +kernel)
theorem fnok_58 : fnOk Go.Proofs.Try.prog 58 = true := by decide +kernel
theorem told_59 : Told Go.Proofs.Try.prog 59 l_toResp_b [.c 2 3 true 74] 1 := Told.of Go.Proofs.Try.func59 (by decide +kernel)
theorem fnok_59 : fnOk Go.Proofs.Try.prog 59 = true := by decide +kernel
theorem told_60 : Told Go.Proofs.Try.prog 60 l_toObj_b [.c 2 7 true 76] 1 := Told.of Go.Proofs.Try.func60 (by decide +kernel)
theorem fnok_60 : fnOk Go.Proofs.Try.prog 60 = true := by decide +kernel
theorem told_62 : Told Go.Proofs.Try.prog 62 l_eqReq_b [.t 4] 2 := Told.of Go.Proofs.Try.func62 (by decide +kernel)
theorem fnok_62 : fnOk Go.Proofs.Try.prog 62 = true := by decide +kernel
theorem told_63 : Told Go.Proofs.Try.prog 63 l_eqResp_b [.t 4] 2 := Told.of Go.Proofs.Try.func63 (by decide +kernel)
theorem fnok_63 : fnOk Go.Proofs.Try.prog 63 = true := by decide +kernel
theorem told_64 : Told Go.Proofs.Try.prog 64 l_eqObj_b [.t 4] 2 := Told.of Go.Proofs.Try.func64 (by decide +kernel)
theorem fnok_64 : fnOk Go.Proofs.Try.prog 64 = true := by decide +kernel
theorem told_65 : Told Go.Proofs.Try.prog 65 l_eqStringS_b [.t 4] 2 := Told.of Go.Proofs.Try.func65 (by decide +kernel)
theorem fnok_65 : fnOk Go.Proofs.Try.prog 65 = true := by decide +kernel
theorem told_66 : Told Go.Proofs.Try.prog 66 l_eqWriteS_b [.t 4] 2 := Told.of Go.Proofs.Try.func66 (by decide +kernel)
theorem fnok_66 : fnOk Go.Proofs.Try.prog 66 = true := by decide +kernel
theorem told_67 : Told Go.Proofs.Try.prog 67 l_eqKept_b [.t 4] 2 := Told.of Go.Proofs.Try.func67 (by decide +kernel)
theorem fnok_67 : fnOk Go.Proofs.Try.prog 67 = true := by decide +kernel
theorem told_68 : Told Go.Proofs.Try.prog 68 l_eqBan_b [.t 4] 2 := Told.of Go.Proofs.Try.func68 (by decide +kernel)
theorem fnok_68 : fnOk Go.Proofs.Try.prog 68 = true := by decide +kernel
theorem told_76 : Told Go.Proofs.Try.prog 76 l_szDisk_b [.t 4] 2 := Told.of Go.Proofs.Try.func76 (by decide +kernel)
theorem fnok_76 : fnOk Go.Proofs.Try.prog 76 = true := by decide +kernel
theorem told_77 : Told Go.Proofs.Try.prog 77 l_szKeptS_b [.t 4] 2 := Told.of Go.Proofs.Try.func77 (by decide +kernel)
theorem fnok_77 : fnOk Go.Proofs.Try.prog 77 = true := by decide +kernel
theorem told_78 : Told Go.Proofs.Try.prog 78 l_szBanS_b [.t 4] 2 := Told.of Go.Proofs.Try.func78 (by decide +kernel)
theorem fnok_78 : fnOk Go.Proofs.Try.prog 78 = true := by decide +kernel
theorem told_79 : Told Go.Proofs.Try.prog 79 l_szFlight_b [.t 4] 2 := Told.of Go.Proofs.Try.func79 (by decide +kernel)
theorem fnok_79 : fnOk Go.Proofs.Try.prog 79 = true := by decide +kernel
theorem told_80 : Told Go.Proofs.Try.prog 80 l_szSeen_b [.t 4] 2 := Told.of Go.Proofs.Try.func80 (by decide +kernel)
theorem fnok_80 : fnOk Go.Proofs.Try.prog 80 = true := by decide +kernel
theorem told_81 : Told Go.Proofs.Try.prog 81 l_toDisk_b [.c 2 2 true 25] 1 := Told.of Go.Proofs.Try.func81 (by decide +kernel)
theorem fnok_81 : fnOk Go.Proofs.Try.prog 81 = true := by decide +kernel
theorem told_82 : Told Go.Proofs.Try.prog 82 l_toKeptS_b [.t 2] 1 := Told.of Go.Proofs.Try.func82 (by decide +kernel)
theorem fnok_82 : fnOk Go.Proofs.Try.prog 82 = true := by decide +kernel
theorem told_83 : Told Go.Proofs.Try.prog 83 l_toBanS_b [.t 2] 1 := Told.of Go.Proofs.Try.func83 (by decide +kernel)
theorem fnok_83 : fnOk Go.Proofs.Try.prog 83 = true := by decide +kernel
theorem told_84 : Told Go.Proofs.Try.prog 84 l_toFlight_b [.c 2 13 true 142] 1 := Told.of Go.Proofs.Try.func84 (by decide +kernel)
theorem fnok_84 : fnOk Go.Proofs.Try.prog 84 = true := by decide +kernel
theorem told_85 : Told Go.Proofs.Try.prog 85 l_toSeen_b [.c 2 8 true 107] 1 := Told.of Go.Proofs.Try.func85 (by decide +kernel)
theorem fnok_85 : fnOk Go.Proofs.Try.prog 85 = true := by decide +kernel
theorem told_86 : Told Go.Proofs.Try.prog 86 l_eqFlight_b [.t 4] 2 := Told.of Go.Proofs.Try.func86 (by decide +kernel)
theorem fnok_86 : fnOk Go.Proofs.Try.prog 86 = true := by decide +kernel
theorem told_87 : Told Go.Proofs.Try.prog 87 l_eqSeen_b [.t 4] 2 := Told.of Go.Proofs.Try.func87 (by decide +kernel)
theorem fnok_87 : fnOk Go.Proofs.Try.prog 87 = true := by decide +kernel
theorem told_90 : Told Go.Proofs.Try.prog 90 l_szFieldS_b [.t 4] 2 := Told.of Go.Proofs.Try.func90 (by decide +kernel)
theorem fnok_90 : fnOk Go.Proofs.Try.prog 90 = true := by decide +kernel
theorem told_91 : Told Go.Proofs.Try.prog 91 l_szStringS_b [.t 4] 2 := Told.of Go.Proofs.Try.func91 (by decide +kernel)
theorem fnok_91 : fnOk Go.Proofs.Try.prog 91 = true := by decide +kernel
theorem told_95 : Told Go.Proofs.Try.prog 95 l_toFieldS_b [.t 2] 1 := Told.of Go.Proofs.Try.func95 (by decide +kernel)
theorem fnok_95 : fnOk Go.Proofs.Try.prog 95 = true := by decide +kernel
theorem told_96 : Told Go.Proofs.Try.prog 96 l_toStringS_b [.t 2] 1 := Told.of Go.Proofs.Try.func96 (by decide +kernel)
theorem fnok_96 : fnOk Go.Proofs.Try.prog 96 = true := by decide +kernel
theorem told_98 : Told Go.Proofs.Try.prog 98 l_eqFieldS_b [.t 4] 2 := Told.of Go.Proofs.Try.func98 (by decide +kernel)
theorem fnok_98 : fnOk Go.Proofs.Try.prog 98 = true := by decide +kernel
theorem told_99 : Told Go.Proofs.Try.prog 99 l_eqWrite_b [.t 4] 2 := Told.of Go.Proofs.Try.func99 (by decide +kernel)
theorem fnok_99 : fnOk Go.Proofs.Try.prog 99 = true := by decide +kernel
theorem told_100 : Told Go.Proofs.Try.prog 100 l_szWriteS_b [.t 4] 2 := Told.of Go.Proofs.Try.func100 (by decide +kernel)
theorem fnok_100 : fnOk Go.Proofs.Try.prog 100 = true := by decide +kernel
theorem told_101 : Told Go.Proofs.Try.prog 101 l_szKept_b [.t 4] 2 := Told.of Go.Proofs.Try.func101 (by decide +kernel)
theorem fnok_101 : fnOk Go.Proofs.Try.prog 101 = true := by decide +kernel
theorem told_102 : Told Go.Proofs.Try.prog 102 l_szBan_b [.t 4] 2 := Told.of Go.Proofs.Try.func102 (by decide +kernel)
theorem fnok_102 : fnOk Go.Proofs.Try.prog 102 = true := by decide +kernel
theorem told_103 : Told Go.Proofs.Try.prog 103 l_szIntS_b [.t 4] 2 := Told.of Go.Proofs.Try.func103 (by decide +kernel)
theorem fnok_103 : fnOk Go.Proofs.Try.prog 103 = true := by decide +kernel
theorem told_104 : Told Go.Proofs.Try.prog 104 l_toWriteS_b [.t 2] 1 := Told.of Go.Proofs.Try.func104 (by decide +kernel)
theorem fnok_104 : fnOk Go.Proofs.Try.prog 104 = true := by decide +kernel
theorem told_105 : Told Go.Proofs.Try.prog 105 l_toKept_b [.c 2 9 true 120] 1 := Told.of Go.Proofs.Try.func105 (by decide +kernel)
theorem fnok_105 : fnOk Go.Proofs.Try.prog 105 = true := by decide +kernel
theorem told_106 : Told Go.Proofs.Try.prog 106 l_toBan_b [.c 2 4 true 123] 1 := Told.of Go.Proofs.Try.func106 (by decide +kernel)
theorem fnok_106 : fnOk Go.Proofs.Try.prog 106 = true := by decide +kernel
theorem told_107 : Told Go.Proofs.Try.prog 107 l_toIntS_b [.t 2] 1 := Told.of Go.Proofs.Try.func107 (by decide +kernel)
theorem fnok_107 : fnOk Go.Proofs.Try.prog 107 = true := by decide +kernel
theorem told_108 : Told Go.Proofs.Try.prog 108 l_eqIntS_b [.t 4] 2 := Told.of Go.Proofs.Try.func108 (by decide +kernel)
theorem fnok_108 : fnOk Go.Proofs.Try.prog 108 = true := by decide +kernel
theorem told_109 : Told Go.Proofs.Try.prog 109 l_szField_b [.t 4] 2 := Told.of Go.Proofs.Try.func109 (by decide +kernel)
theorem fnok_109 : fnOk Go.Proofs.Try.prog 109 = true := by decide +kernel
theorem told_111 : Told Go.Proofs.Try.prog 111 l_toField_b [.c 2 2 true 160] 1 := Told.of Go.Proofs.Try.func111 (by decide +kernel)
theorem fnok_111 : fnOk Go.Proofs.Try.prog 111 = true := by decide +kernel
theorem told_115 : Told Go.Proofs.Try.prog 115 l_eqField_b [.t 4] 2 := Told.of Go.Proofs.Try.func115 (by decide +kernel)
theorem fnok_115 : fnOk Go.Proofs.Try.prog 115 = true := by decide +kernel
theorem told_116 : Told Go.Proofs.Try.prog 116 l_szWrite_b [.t 4] 2 := Told.of Go.Proofs.Try.func116 (by decide +kernel)
theorem fnok_116 : fnOk Go.Proofs.Try.prog 116 = true := by decide +kernel
theorem told_117 : Told Go.Proofs.Try.prog 117 l_toWrite_b [.c 2 2 true 157] 1 := Told.of Go.Proofs.Try.func117 (by decide +kernel)
theorem fnok_117 : fnOk Go.Proofs.Try.prog 117 = true := by decide +kernel
theorem TT_ok : TT.Ok Go.Proofs.Try.prog := by
  refine ⟨fun f F h => ?_, fun f F h => ?_⟩
  · unfold TT at h
    split at h
    · cases h; exact told_4
    · cases h; exact told_9
    · cases h; exact told_12
    · cases h; exact told_13
    · cases h; exact told_14
    · cases h; exact told_15
    · cases h; exact told_16
    · cases h; exact told_21
    · cases h; exact told_23
    · cases h; exact told_25
    · cases h; exact told_28
    · cases h; exact told_29
    · cases h; exact told_30
    · cases h; exact told_37
    · cases h; exact told_38
    · cases h; exact told_39
    · cases h; exact told_40
    · cases h; exact told_41
    · cases h; exact told_42
    · cases h; exact told_43
    · cases h; exact told_44
    · cases h; exact told_45
    · cases h; exact told_46
    · cases h; exact told_47
    · cases h; exact told_54
    · cases h; exact told_55
    · cases h; exact told_56
    · cases h; exact told_58
    · cases h; exact told_59
    · cases h; exact told_60
    · cases h; exact told_62
    · cases h; exact told_63
    · cases h; exact told_64
    · cases h; exact told_65
    · cases h; exact told_66
    · cases h; exact told_67
    · cases h; exact told_68
    · cases h; exact told_76
    · cases h; exact told_77
    · cases h; exact told_78
    · cases h; exact told_79
    · cases h; exact told_80
    · cases h; exact told_81
    · cases h; exact told_82
    · cases h; exact told_83
    · cases h; exact told_84
    · cases h; exact told_85
    · cases h; exact told_86
    · cases h; exact told_87
    · cases h; exact told_90
    · cases h; exact told_91
    · cases h; exact told_95
    · cases h; exact told_96
    · cases h; exact told_98
    · cases h; exact told_99
    · cases h; exact told_100
    · cases h; exact told_101
    · cases h; exact told_102
    · cases h; exact told_103
    · cases h; exact told_104
    · cases h; exact told_105
    · cases h; exact told_106
    · cases h; exact told_107
    · cases h; exact told_108
    · cases h; exact told_109
    · cases h; exact told_111
    · cases h; exact told_115
    · cases h; exact told_116
    · cases h; exact told_117
    · cases h
  · unfold TT at h
    split at h
    · cases h; exact fnok_4
    · cases h; exact fnok_9
    · cases h; exact fnok_12
    · cases h; exact fnok_13
    · cases h; exact fnok_14
    · cases h; exact fnok_15
    · cases h; exact fnok_16
    · cases h; exact fnok_21
    · cases h; exact fnok_23
    · cases h; exact fnok_25
    · cases h; exact fnok_28
    · cases h; exact fnok_29
    · cases h; exact fnok_30
    · cases h; exact fnok_37
    · cases h; exact fnok_38
    · cases h; exact fnok_39
    · cases h; exact fnok_40
    · cases h; exact fnok_41
    · cases h; exact fnok_42
    · cases h; exact fnok_43
    · cases h; exact fnok_44
    · cases h; exact fnok_45
    · cases h; exact fnok_46
    · cases h; exact fnok_47
    · cases h; exact fnok_54
    · cases h; exact fnok_55
    · cases h; exact fnok_56
    · cases h; exact fnok_58
    · cases h; exact fnok_59
    · cases h; exact fnok_60
    · cases h; exact fnok_62
    · cases h; exact fnok_63
    · cases h; exact fnok_64
    · cases h; exact fnok_65
    · cases h; exact fnok_66
    · cases h; exact fnok_67
    · cases h; exact fnok_68
    · cases h; exact fnok_76
    · cases h; exact fnok_77
    · cases h; exact fnok_78
    · cases h; exact fnok_79
    · cases h; exact fnok_80
    · cases h; exact fnok_81
    · cases h; exact fnok_82
    · cases h; exact fnok_83
    · cases h; exact fnok_84
    · cases h; exact fnok_85
    · cases h; exact fnok_86
    · cases h; exact fnok_87
    · cases h; exact fnok_90
    · cases h; exact fnok_91
    · cases h; exact fnok_95
    · cases h; exact fnok_96
    · cases h; exact fnok_98
    · cases h; exact fnok_99
    · cases h; exact fnok_100
    · cases h; exact fnok_101
    · cases h; exact fnok_102
    · cases h; exact fnok_103
    · cases h; exact fnok_104
    · cases h; exact fnok_105
    · cases h; exact fnok_106
    · cases h; exact fnok_107
    · cases h; exact fnok_108
    · cases h; exact fnok_109
    · cases h; exact fnok_111
    · cases h; exact fnok_115
    · cases h; exact fnok_116
    · cases h; exact fnok_117
    · cases h
end M
