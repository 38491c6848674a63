/- Each function of the table is the program's, and the library is as it is said to be; no conditions. -/
import Derived.Test.YtcldaglhkhfhaaaProg
import Derived.Test.YtcldaglhkhfhaaaTab
import Derived.Test.YtcldaglhkhfhaaaMd
set_option linter.unusedSectionVars false
set_option linter.unusedVariables false
set_option linter.unusedSectionVars false
set_option maxRecDepth 100000
namespace M
open Go
variable [Bs]
theorem told_5 : Told Go.Proofs.Try.prog 5 l_FnExactServed_b [.t 4] 2 := Told.of Go.Proofs.Try.func5 (by decide +kernel)
theorem fnok_5 : fnOk Go.Proofs.Try.prog 5 = true := by decide +kernel
theorem told_6 : Told Go.Proofs.Try.prog 6 l_szCache_b [.t 4] 2 := Told.of Go.Proofs.Try.func6 (by decide +kernel)
theorem fnok_6 : fnOk Go.Proofs.Try.prog 6 = true := by decide +kernel
theorem told_7 : Told Go.Proofs.Try.prog 7 l_szReply_b [.t 4] 2 := Told.of Go.Proofs.Try.func7 (by decide +kernel)
theorem fnok_7 : fnOk Go.Proofs.Try.prog 7 = true := by decide +kernel
theorem told_9 : Told Go.Proofs.Try.prog 9 l_toCache_b [.c 2 10 true 58] 1 := Told.of Go.Proofs.Try.func9 (by decide +kernel)
theorem fnok_9 : fnOk Go.Proofs.Try.prog 9 = true := by decide +kernel
theorem told_10 : Told Go.Proofs.Try.prog 10 l_toReply_b [.c 2 18 true 68] 1 := Told.of Go.Proofs.Try.func10 (by decide +kernel)
theorem fnok_10 : fnOk Go.Proofs.Try.prog 10 = true := by decide +kernel
theorem told_12 : Told Go.Proofs.Try.prog 12 l_eqCache_b [.t 4] 2 := Told.of Go.Proofs.Try.func12 (by decide +kernel)
theorem fnok_12 : fnOk Go.Proofs.Try.prog 12 = true := by decide +kernel
theorem told_13 : Told Go.Proofs.Try.prog 13 l_eqReply_b [.t 4] 2 := Told.of Go.Proofs.Try.func13 (by decide +kernel)
theorem fnok_13 : fnOk Go.Proofs.Try.prog 13 = true := by decide +kernel
theorem told_16 : Told Go.Proofs.Try.prog 16 l_eqIntS_b [.t 4] 2 := Told.of Go.Proofs.Try.func16 (by decide +kernel)
theorem fnok_16 : fnOk Go.Proofs.Try.prog 16 = true := by decide +kernel
theorem told_17 : Told Go.Proofs.Try.prog 17 l_markCache_b [.t 4] 2 := Told.of Go.Proofs.Try.func17 (by decide +kernel)
theorem fnok_17 : fnOk Go.Proofs.Try.prog 17 = true := by decide +kernel
theorem told_18 : Told Go.Proofs.Try.prog 18 l_markIntS_b [.t 4] 2 := Told.of Go.Proofs.Try.func18 (by decide +kernel)
theorem fnok_18 : fnOk Go.Proofs.Try.prog 18 = true := by decide +kernel
theorem told_20 : Told Go.Proofs.Try.prog 20 s_Served_b [.c 4 3 true 64, .t 5] 2 := Told.of Go.Proofs.Try.func20 (by decide +kernel)
theorem fnok_20 : fnOk Go.Proofs.Try.prog 20 = true := by decide +kernel
theorem told_21 : Told Go.Proofs.Try.prog 21 i_Served_b [.c 4 3 true 64, .t 5] 2 := Told.of Go.Proofs.Try.func21 (by decide +kernel)
theorem fnok_21 : fnOk Go.Proofs.Try.prog 21 = true := by decide +kernel
theorem told_22 : Told Go.Proofs.Try.prog 22 l_eqResp_b [.t 4] 2 := Told.of Go.Proofs.Try.func22 (by decide +kernel)
theorem fnok_22 : fnOk Go.Proofs.Try.prog 22 = true := by decide +kernel
theorem told_23 : Told Go.Proofs.Try.prog 23 l_markResp_b [.t 4] 2 := Told.of Go.Proofs.Try.func23 (by decide +kernel)
theorem fnok_23 : fnOk Go.Proofs.Try.prog 23 = true := by decide +kernel
theorem told_24 : Told Go.Proofs.Try.prog 24 l_heldResp_b [.t 4] 2 := Told.of Go.Proofs.Try.func24 (by decide +kernel)
theorem fnok_24 : fnOk Go.Proofs.Try.prog 24 = true := by decide +kernel
theorem told_25 : Told Go.Proofs.Try.prog 25 l_szShelf_b [.t 4] 2 := Told.of Go.Proofs.Try.func25 (by decide +kernel)
theorem fnok_25 : fnOk Go.Proofs.Try.prog 25 = true := by decide +kernel
theorem told_26 : Told Go.Proofs.Try.prog 26 l_szFlightS_b [.t 4] 2 := Told.of Go.Proofs.Try.func26 (by decide +kernel)
theorem fnok_26 : fnOk Go.Proofs.Try.prog 26 = true := by decide +kernel
theorem told_27 : Told Go.Proofs.Try.prog 27 l_szSeenS_b [.t 4] 2 := Told.of Go.Proofs.Try.func27 (by decide +kernel)
theorem fnok_27 : fnOk Go.Proofs.Try.prog 27 = true := by decide +kernel
theorem told_28 : Told Go.Proofs.Try.prog 28 l_szReplyS_b [.t 4] 2 := Told.of Go.Proofs.Try.func28 (by decide +kernel)
theorem fnok_28 : fnOk Go.Proofs.Try.prog 28 = true := by decide +kernel
theorem told_29 : Told Go.Proofs.Try.prog 29 l_szReq_b [.t 4] 2 := Told.of Go.Proofs.Try.func29 (by decide +kernel)
theorem fnok_29 : fnOk Go.Proofs.Try.prog 29 = true := by decide +kernel
theorem told_30 : Told Go.Proofs.Try.prog 30 l_szResp_b [.t 4] 2 := Told.of Go.Proofs.Try.func30 (by decide +kernel)
theorem fnok_30 : fnOk Go.Proofs.Try.prog 30 = true := by decide +kernel
theorem told_31 : Told Go.Proofs.Try.prog 31 l_szObj_b [.t 4] 2 := Told.of Go.Proofs.Try.func31 (by decide +kernel)
theorem fnok_31 : fnOk Go.Proofs.Try.prog 31 = true := by decide +kernel
theorem told_33 : Told Go.Proofs.Try.prog 33 l_toShelf_b [.c 2 6 true 53] 1 := Told.of Go.Proofs.Try.func33 (by decide +kernel)
theorem fnok_33 : fnOk Go.Proofs.Try.prog 33 = true := by decide +kernel
theorem told_34 : Told Go.Proofs.Try.prog 34 l_toFlightS_b [.t 2] 1 := Told.of Go.Proofs.Try.func34 (by decide +kernel)
theorem fnok_34 : fnOk Go.Proofs.Try.prog 34 = true := by decide +kernel
theorem told_35 : Told Go.Proofs.Try.prog 35 l_toSeenS_b [.t 2] 1 := Told.of Go.Proofs.Try.func35 (by decide +kernel)
theorem fnok_35 : fnOk Go.Proofs.Try.prog 35 = true := by decide +kernel
theorem told_36 : Told Go.Proofs.Try.prog 36 l_toReplyS_b [.t 2] 1 := Told.of Go.Proofs.Try.func36 (by decide +kernel)
theorem fnok_36 : fnOk Go.Proofs.Try.prog 36 = true := by decide +kernel
theorem told_37 : Told Go.Proofs.Try.prog 37 l_toReq_b [.c 2 4 true 62] 1 := Told.of Go.Proofs.Try.func37 (by decide +kernel)
theorem fnok_37 : fnOk Go.Proofs.Try.prog 37 = true := by decide +kernel
theorem told_38 : Told Go.Proofs.Try.prog 38 l_toResp_b [.c 2 3 true 64] 1 := Told.of Go.Proofs.Try.func38 (by decide +kernel)
theorem fnok_38 : fnOk Go.Proofs.Try.prog 38 = true := by decide +kernel
theorem told_39 : Told Go.Proofs.Try.prog 39 l_toObj_b [.c 2 7 true 66] 1 := Told.of Go.Proofs.Try.func39 (by decide +kernel)
theorem fnok_39 : fnOk Go.Proofs.Try.prog 39 = true := by decide +kernel
theorem told_41 : Told Go.Proofs.Try.prog 41 l_eqShelf_b [.t 4] 2 := Told.of Go.Proofs.Try.func41 (by decide +kernel)
theorem fnok_41 : fnOk Go.Proofs.Try.prog 41 = true := by decide +kernel
theorem told_42 : Told Go.Proofs.Try.prog 42 l_eqFlightS_b [.t 4] 2 := Told.of Go.Proofs.Try.func42 (by decide +kernel)
theorem fnok_42 : fnOk Go.Proofs.Try.prog 42 = true := by decide +kernel
theorem told_43 : Told Go.Proofs.Try.prog 43 l_eqSeenS_b [.t 4] 2 := Told.of Go.Proofs.Try.func43 (by decide +kernel)
theorem fnok_43 : fnOk Go.Proofs.Try.prog 43 = true := by decide +kernel
theorem told_44 : Told Go.Proofs.Try.prog 44 l_eqReplyS_b [.t 4] 2 := Told.of Go.Proofs.Try.func44 (by decide +kernel)
theorem fnok_44 : fnOk Go.Proofs.Try.prog 44 = true := by decide +kernel
theorem told_45 : Told Go.Proofs.Try.prog 45 l_eqReq_b [.t 4] 2 := Told.of Go.Proofs.Try.func45 (by decide +kernel)
theorem fnok_45 : fnOk Go.Proofs.Try.prog 45 = true := by decide +kernel
theorem told_46 : Told Go.Proofs.Try.prog 46 l_eqObj_b [.t 4] 2 := Told.of Go.Proofs.Try.func46 (by decide +kernel)
theorem fnok_46 : fnOk Go.Proofs.Try.prog 46 = true := by decide +kernel
theorem told_48 : Told Go.Proofs.Try.prog 48 l_markShelf_b [.t 4] 2 := Told.of Go.Proofs.Try.func48 (by decide +kernel)
theorem fnok_48 : fnOk Go.Proofs.Try.prog 48 = true := by decide +kernel
theorem told_49 : Told Go.Proofs.Try.prog 49 l_markFlightS_b [.t 4] 2 := Told.of Go.Proofs.Try.func49 (by decide +kernel)
theorem fnok_49 : fnOk Go.Proofs.Try.prog 49 = true := by decide +kernel
theorem told_50 : Told Go.Proofs.Try.prog 50 l_markSeenS_b [.t 4] 2 := Told.of Go.Proofs.Try.func50 (by decide +kernel)
theorem fnok_50 : fnOk Go.Proofs.Try.prog 50 = true := by decide +kernel
theorem told_51 : Told Go.Proofs.Try.prog 51 l_markReplyS_b [.t 4] 2 := Told.of Go.Proofs.Try.func51 (by decide +kernel)
theorem fnok_51 : fnOk Go.Proofs.Try.prog 51 = true := by decide +kernel
theorem told_52 : Told Go.Proofs.Try.prog 52 s_l9Resp_b [.c 2 3 true 64] 1 := Told.of Go.Proofs.Try.func52 (by decide +kernel)
theorem fnok_52 : fnOk Go.Proofs.Try.prog 52 = true := by decide +kernel
theorem told_53 : Told Go.Proofs.Try.prog 53 i_copyResp_b [.c 2 3 true 64] 1 := Told.of Go.Proofs.Try.func53 (by decide +kernel)
theorem fnok_53 : fnOk Go.Proofs.Try.prog 53 = true := by decide +kernel
theorem told_54 : Told Go.Proofs.Try.prog 54 l_eqFieldS_b [.t 4] 2 := Told.of Go.Proofs.Try.func54 (by decide +kernel)
theorem fnok_54 : fnOk Go.Proofs.Try.prog 54 = true := by decide +kernel
theorem told_55 : Told Go.Proofs.Try.prog 55 l_markFieldS_b [.t 4] 2 := Told.of Go.Proofs.Try.func55 (by decide +kernel)
theorem fnok_55 : fnOk Go.Proofs.Try.prog 55 = true := by decide +kernel
theorem told_56 : Told Go.Proofs.Try.prog 56 l_heldFieldS_b [.t 4] 2 := Told.of Go.Proofs.Try.func56 (by decide +kernel)
theorem fnok_56 : fnOk Go.Proofs.Try.prog 56 = true := by decide +kernel
theorem told_57 : Told Go.Proofs.Try.prog 57 l_szDisk_b [.t 4] 2 := Told.of Go.Proofs.Try.func57 (by decide +kernel)
theorem fnok_57 : fnOk Go.Proofs.Try.prog 57 = true := by decide +kernel
theorem told_58 : Told Go.Proofs.Try.prog 58 l_szKeptS_b [.t 4] 2 := Told.of Go.Proofs.Try.func58 (by decide +kernel)
theorem fnok_58 : fnOk Go.Proofs.Try.prog 58 = true := by decide +kernel
theorem told_59 : Told Go.Proofs.Try.prog 59 l_szBanS_b [.t 4] 2 := Told.of Go.Proofs.Try.func59 (by decide +kernel)
theorem fnok_59 : fnOk Go.Proofs.Try.prog 59 = true := by decide +kernel
theorem told_60 : Told Go.Proofs.Try.prog 60 l_szFlight_b [.t 4] 2 := Told.of Go.Proofs.Try.func60 (by decide +kernel)
theorem fnok_60 : fnOk Go.Proofs.Try.prog 60 = true := by decide +kernel
theorem told_61 : Told Go.Proofs.Try.prog 61 l_szSeen_b [.t 4] 2 := Told.of Go.Proofs.Try.func61 (by decide +kernel)
theorem fnok_61 : fnOk Go.Proofs.Try.prog 61 = true := by decide +kernel
theorem told_62 : Told Go.Proofs.Try.prog 62 l_szFieldS_b [.t 4] 2 := Told.of Go.Proofs.Try.func62 (by decide +kernel)
theorem fnok_62 : fnOk Go.Proofs.Try.prog 62 = true := by decide +kernel
theorem told_63 : Told Go.Proofs.Try.prog 63 l_szStringS_b [.t 4] 2 := Told.of Go.Proofs.Try.func63 (by decide +kernel)
theorem fnok_63 : fnOk Go.Proofs.Try.prog 63 = true := by decide +kernel
theorem told_67 : Told Go.Proofs.Try.prog 67 l_toDisk_b [.c 2 2 true 49] 1 := Told.of Go.Proofs.Try.func67 (by decide +kernel)
theorem fnok_67 : fnOk Go.Proofs.Try.prog 67 = true := by decide +kernel
theorem told_68 : Told Go.Proofs.Try.prog 68 l_toKeptS_b [.t 2] 1 := Told.of Go.Proofs.Try.func68 (by decide +kernel)
theorem fnok_68 : fnOk Go.Proofs.Try.prog 68 = true := by decide +kernel
theorem told_69 : Told Go.Proofs.Try.prog 69 l_toBanS_b [.t 2] 1 := Told.of Go.Proofs.Try.func69 (by decide +kernel)
theorem fnok_69 : fnOk Go.Proofs.Try.prog 69 = true := by decide +kernel
theorem told_70 : Told Go.Proofs.Try.prog 70 l_toFlight_b [.c 2 13 true 109] 1 := Told.of Go.Proofs.Try.func70 (by decide +kernel)
theorem fnok_70 : fnOk Go.Proofs.Try.prog 70 = true := by decide +kernel
theorem told_71 : Told Go.Proofs.Try.prog 71 l_toSeen_b [.c 2 8 true 92] 1 := Told.of Go.Proofs.Try.func71 (by decide +kernel)
theorem fnok_71 : fnOk Go.Proofs.Try.prog 71 = true := by decide +kernel
theorem told_72 : Told Go.Proofs.Try.prog 72 l_toFieldS_b [.t 2] 1 := Told.of Go.Proofs.Try.func72 (by decide +kernel)
theorem fnok_72 : fnOk Go.Proofs.Try.prog 72 = true := by decide +kernel
theorem told_73 : Told Go.Proofs.Try.prog 73 l_toStringS_b [.t 2] 1 := Told.of Go.Proofs.Try.func73 (by decide +kernel)
theorem fnok_73 : fnOk Go.Proofs.Try.prog 73 = true := by decide +kernel
theorem told_75 : Told Go.Proofs.Try.prog 75 l_eqDisk_b [.t 4] 2 := Told.of Go.Proofs.Try.func75 (by decide +kernel)
theorem fnok_75 : fnOk Go.Proofs.Try.prog 75 = true := by decide +kernel
theorem told_76 : Told Go.Proofs.Try.prog 76 l_eqKeptS_b [.t 4] 2 := Told.of Go.Proofs.Try.func76 (by decide +kernel)
theorem fnok_76 : fnOk Go.Proofs.Try.prog 76 = true := by decide +kernel
theorem told_77 : Told Go.Proofs.Try.prog 77 l_eqBanS_b [.t 4] 2 := Told.of Go.Proofs.Try.func77 (by decide +kernel)
theorem fnok_77 : fnOk Go.Proofs.Try.prog 77 = true := by decide +kernel
theorem told_78 : Told Go.Proofs.Try.prog 78 l_eqFlight_b [.t 4] 2 := Told.of Go.Proofs.Try.func78 (by decide +kernel)
theorem fnok_78 : fnOk Go.Proofs.Try.prog 78 = true := by decide +kernel
theorem told_79 : Told Go.Proofs.Try.prog 79 l_eqSeen_b [.t 4] 2 := Told.of Go.Proofs.Try.func79 (by decide +kernel)
theorem fnok_79 : fnOk Go.Proofs.Try.prog 79 = true := by decide +kernel
theorem told_80 : Told Go.Proofs.Try.prog 80 l_eqStringS_b [.t 4] 2 := Told.of Go.Proofs.Try.func80 (by decide +kernel)
theorem fnok_80 : fnOk Go.Proofs.Try.prog 80 = true := by decide +kernel
theorem told_81 : Told Go.Proofs.Try.prog 81 l_markDisk_b [.t 4] 2 := Told.of Go.Proofs.Try.func81 (by decide +kernel)
theorem fnok_81 : fnOk Go.Proofs.Try.prog 81 = true := by decide +kernel
theorem told_82 : Told Go.Proofs.Try.prog 82 l_markKeptS_b [.t 4] 2 := Told.of Go.Proofs.Try.func82 (by decide +kernel)
theorem fnok_82 : fnOk Go.Proofs.Try.prog 82 = true := by decide +kernel
theorem told_83 : Told Go.Proofs.Try.prog 83 l_markBanS_b [.t 4] 2 := Told.of Go.Proofs.Try.func83 (by decide +kernel)
theorem fnok_83 : fnOk Go.Proofs.Try.prog 83 = true := by decide +kernel
theorem told_84 : Told Go.Proofs.Try.prog 84 l_markText_b [.t 2] 1 := Told.of Go.Proofs.Try.func84 (by decide +kernel)
theorem fnok_84 : fnOk Go.Proofs.Try.prog 84 = true := by decide +kernel
theorem told_85 : Told Go.Proofs.Try.prog 85 l_markStringS_b [.t 4] 2 := Told.of Go.Proofs.Try.func85 (by decide +kernel)
theorem fnok_85 : fnOk Go.Proofs.Try.prog 85 = true := by decide +kernel
theorem told_86 : Told Go.Proofs.Try.prog 86 s_l9Copy_b [.t 2] 1 := Told.of Go.Proofs.Try.func86 (by decide +kernel)
theorem fnok_86 : fnOk Go.Proofs.Try.prog 86 = true := by decide +kernel
theorem told_88 : Told Go.Proofs.Try.prog 88 l_eqField_b [.t 4] 2 := Told.of Go.Proofs.Try.func88 (by decide +kernel)
theorem fnok_88 : fnOk Go.Proofs.Try.prog 88 = true := by decide +kernel
theorem told_89 : Told Go.Proofs.Try.prog 89 l_szWriteS_b [.t 4] 2 := Told.of Go.Proofs.Try.func89 (by decide +kernel)
theorem fnok_89 : fnOk Go.Proofs.Try.prog 89 = true := by decide +kernel
theorem told_90 : Told Go.Proofs.Try.prog 90 l_szKept_b [.t 4] 2 := Told.of Go.Proofs.Try.func90 (by decide +kernel)
theorem fnok_90 : fnOk Go.Proofs.Try.prog 90 = true := by decide +kernel
theorem told_91 : Told Go.Proofs.Try.prog 91 l_szBan_b [.t 4] 2 := Told.of Go.Proofs.Try.func91 (by decide +kernel)
theorem fnok_91 : fnOk Go.Proofs.Try.prog 91 = true := by decide +kernel
theorem told_92 : Told Go.Proofs.Try.prog 92 l_szIntS_b [.t 4] 2 := Told.of Go.Proofs.Try.func92 (by decide +kernel)
theorem fnok_92 : fnOk Go.Proofs.Try.prog 92 = true := by decide +kernel
theorem told_93 : Told Go.Proofs.Try.prog 93 l_szField_b [.t 4] 2 := Told.of Go.Proofs.Try.func93 (by decide +kernel)
theorem fnok_93 : fnOk Go.Proofs.Try.prog 93 = true := by decide +kernel
theorem told_95 : Told Go.Proofs.Try.prog 95 l_toWriteS_b [.t 2] 1 := Told.of Go.Proofs.Try.func95 (by decide +kernel)
theorem fnok_95 : fnOk Go.Proofs.Try.prog 95 = true := by decide +kernel
theorem told_96 : Told Go.Proofs.Try.prog 96 l_toKept_b [.c 2 9 true 166] 1 := Told.of Go.Proofs.Try.func96 (by decide +kernel)
theorem fnok_96 : fnOk Go.Proofs.Try.prog 96 = true := by decide +kernel
theorem told_97 : Told Go.Proofs.Try.prog 97 l_toBan_b [.c 2 4 true 168] 1 := Told.of Go.Proofs.Try.func97 (by decide +kernel)
theorem fnok_97 : fnOk Go.Proofs.Try.prog 97 = true := by decide +kernel
theorem told_98 : Told Go.Proofs.Try.prog 98 l_toIntS_b [.t 2] 1 := Told.of Go.Proofs.Try.func98 (by decide +kernel)
theorem fnok_98 : fnOk Go.Proofs.Try.prog 98 = true := by decide +kernel
theorem told_99 : Told Go.Proofs.Try.prog 99 l_toField_b [.c 2 2 true 151] 1 := Told.of Go.Proofs.Try.func99 (by decide +kernel)
theorem fnok_99 : fnOk Go.Proofs.Try.prog 99 = true := by decide +kernel
theorem told_103 : Told Go.Proofs.Try.prog 103 l_eqWriteS_b [.t 4] 2 := Told.of Go.Proofs.Try.func103 (by decide +kernel)
theorem fnok_103 : fnOk Go.Proofs.Try.prog 103 = true := by decide +kernel
theorem told_104 : Told Go.Proofs.Try.prog 104 l_eqKept_b [.t 4] 2 := Told.of Go.Proofs.Try.func104 (by decide +kernel)
theorem fnok_104 : fnOk Go.Proofs.Try.prog 104 = true := by decide +kernel
theorem told_105 : Told Go.Proofs.Try.prog 105 l_eqBan_b [.t 4] 2 := Told.of Go.Proofs.Try.func105 (by decide +kernel)
theorem fnok_105 : fnOk Go.Proofs.Try.prog 105 = true := by decide +kernel
theorem told_106 : Told Go.Proofs.Try.prog 106 l_markWriteS_b [.t 4] 2 := Told.of Go.Proofs.Try.func106 (by decide +kernel)
theorem fnok_106 : fnOk Go.Proofs.Try.prog 106 = true := by decide +kernel
theorem told_107 : Told Go.Proofs.Try.prog 107 l_szWrite_b [.t 4] 2 := Told.of Go.Proofs.Try.func107 (by decide +kernel)
theorem fnok_107 : fnOk Go.Proofs.Try.prog 107 = true := by decide +kernel
theorem told_109 : Told Go.Proofs.Try.prog 109 l_toWrite_b [.c 2 2 true 182] 1 := Told.of Go.Proofs.Try.func109 (by decide +kernel)
theorem fnok_109 : fnOk Go.Proofs.Try.prog 109 = true := by decide +kernel
theorem told_112 : Told Go.Proofs.Try.prog 112 l_eqWrite_b [.t 4] 2 := Told.of Go.Proofs.Try.func112 (by decide +kernel)
theorem fnok_112 : fnOk Go.Proofs.Try.prog 112 = true := by decide +kernel
theorem told_87 : Told Go.Proofs.Try.prog 87 (cloneA 2 32) [.t 2] 1 := Told.of Go.Proofs.Try.func87 (by decide +kernel)
theorem TT_ok : TT.Ok Go.Proofs.Try.prog := by
  refine ⟨fun f F h => ?_, fun f F h => ?_⟩
  · unfold TT at h
    split at h
    · cases h; exact told_5
    · cases h; exact told_6
    · cases h; exact told_7
    · cases h; exact told_9
    · cases h; exact told_10
    · cases h; exact told_12
    · cases h; exact told_13
    · cases h; exact told_16
    · cases h; exact told_17
    · cases h; exact told_18
    · cases h; exact told_20
    · cases h; exact told_21
    · cases h; exact told_22
    · cases h; exact told_23
    · cases h; exact told_24
    · cases h; exact told_25
    · cases h; exact told_26
    · cases h; exact told_27
    · cases h; exact told_28
    · cases h; exact told_29
    · cases h; exact told_30
    · cases h; exact told_31
    · cases h; exact told_33
    · cases h; exact told_34
    · cases h; exact told_35
    · cases h; exact told_36
    · cases h; exact told_37
    · cases h; exact told_38
    · cases h; exact told_39
    · cases h; exact told_41
    · cases h; exact told_42
    · cases h; exact told_43
    · cases h; exact told_44
    · cases h; exact told_45
    · cases h; exact told_46
    · cases h; exact told_48
    · cases h; exact told_49
    · cases h; exact told_50
    · cases h; exact told_51
    · cases h; exact told_52
    · cases h; exact told_53
    · cases h; exact told_54
    · cases h; exact told_55
    · cases h; exact told_56
    · cases h; exact told_57
    · cases h; exact told_58
    · cases h; exact told_59
    · cases h; exact told_60
    · cases h; exact told_61
    · cases h; exact told_62
    · cases h; exact told_63
    · cases h; exact told_67
    · cases h; exact told_68
    · cases h; exact told_69
    · cases h; exact told_70
    · cases h; exact told_71
    · cases h; exact told_72
    · cases h; exact told_73
    · cases h; exact told_75
    · cases h; exact told_76
    · cases h; exact told_77
    · cases h; exact told_78
    · cases h; exact told_79
    · cases h; exact told_80
    · cases h; exact told_81
    · cases h; exact told_82
    · cases h; exact told_83
    · cases h; exact told_84
    · cases h; exact told_85
    · cases h; exact told_86
    · cases h; exact told_88
    · cases h; exact told_89
    · cases h; exact told_90
    · cases h; exact told_91
    · cases h; exact told_92
    · cases h; exact told_93
    · cases h; exact told_95
    · cases h; exact told_96
    · cases h; exact told_97
    · cases h; exact told_98
    · cases h; exact told_99
    · cases h; exact told_103
    · cases h; exact told_104
    · cases h; exact told_105
    · cases h; exact told_106
    · cases h; exact told_107
    · cases h; exact told_109
    · cases h; exact told_112
    · cases h
  · unfold TT at h
    split at h
    · cases h; exact fnok_5
    · cases h; exact fnok_6
    · cases h; exact fnok_7
    · cases h; exact fnok_9
    · cases h; exact fnok_10
    · cases h; exact fnok_12
    · cases h; exact fnok_13
    · cases h; exact fnok_16
    · cases h; exact fnok_17
    · cases h; exact fnok_18
    · cases h; exact fnok_20
    · cases h; exact fnok_21
    · cases h; exact fnok_22
    · cases h; exact fnok_23
    · cases h; exact fnok_24
    · cases h; exact fnok_25
    · cases h; exact fnok_26
    · cases h; exact fnok_27
    · cases h; exact fnok_28
    · cases h; exact fnok_29
    · cases h; exact fnok_30
    · cases h; exact fnok_31
    · cases h; exact fnok_33
    · cases h; exact fnok_34
    · cases h; exact fnok_35
    · cases h; exact fnok_36
    · cases h; exact fnok_37
    · cases h; exact fnok_38
    · cases h; exact fnok_39
    · cases h; exact fnok_41
    · cases h; exact fnok_42
    · cases h; exact fnok_43
    · cases h; exact fnok_44
    · cases h; exact fnok_45
    · cases h; exact fnok_46
    · cases h; exact fnok_48
    · cases h; exact fnok_49
    · cases h; exact fnok_50
    · cases h; exact fnok_51
    · cases h; exact fnok_52
    · cases h; exact fnok_53
    · cases h; exact fnok_54
    · cases h; exact fnok_55
    · cases h; exact fnok_56
    · cases h; exact fnok_57
    · cases h; exact fnok_58
    · cases h; exact fnok_59
    · cases h; exact fnok_60
    · cases h; exact fnok_61
    · cases h; exact fnok_62
    · cases h; exact fnok_63
    · cases h; exact fnok_67
    · cases h; exact fnok_68
    · cases h; exact fnok_69
    · cases h; exact fnok_70
    · cases h; exact fnok_71
    · cases h; exact fnok_72
    · cases h; exact fnok_73
    · cases h; exact fnok_75
    · cases h; exact fnok_76
    · cases h; exact fnok_77
    · cases h; exact fnok_78
    · cases h; exact fnok_79
    · cases h; exact fnok_80
    · cases h; exact fnok_81
    · cases h; exact fnok_82
    · cases h; exact fnok_83
    · cases h; exact fnok_84
    · cases h; exact fnok_85
    · cases h; exact fnok_86
    · cases h; exact fnok_88
    · cases h; exact fnok_89
    · cases h; exact fnok_90
    · cases h; exact fnok_91
    · cases h; exact fnok_92
    · cases h; exact fnok_93
    · cases h; exact fnok_95
    · cases h; exact fnok_96
    · cases h; exact fnok_97
    · cases h; exact fnok_98
    · cases h; exact fnok_99
    · cases h; exact fnok_103
    · cases h; exact fnok_104
    · cases h; exact fnok_105
    · cases h; exact fnok_106
    · cases h; exact fnok_107
    · cases h; exact fnok_109
    · cases h; exact fnok_112
    · cases h
theorem LI_sound  : LI.Sound Go.Proofs.Try.prog := (cloneO_sound told_87)
end M
