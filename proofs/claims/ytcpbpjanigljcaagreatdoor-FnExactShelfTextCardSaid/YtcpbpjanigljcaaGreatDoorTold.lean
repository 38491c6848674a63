/- Each function of the table is the program's, and the library is as it is said to be; no conditions. -/
import Derived.Test.YtcpbpjanigljcaaGreatDoorProg
import Derived.Test.YtcpbpjanigljcaaGreatDoorLay
import Derived.Test.YtcpbpjanigljcaaGreatDoorTab
import Derived.Test.YtcpbpjanigljcaaGreatDoorMd
set_option linter.unusedSectionVars false
set_option linter.unusedVariables false
set_option linter.unusedSectionVars false
set_option maxRecDepth 100000
namespace M
open Go
variable [Bs]
theorem told_4 : Told Go.Proofs.Tryz.prog 4 l_FnExactShelfText_b [.t 2] 1 := Told.of Go.Proofs.Tryz.func4 (by decide +kernel)
theorem fnok_4 : fnOk Go.Proofs.Tryz.prog 4 = true := by decide +kernel
theorem told_11 : Told Go.Proofs.Tryz.prog 11 l_szShelf_b [.t 4] 2 := Told.of Go.Proofs.Tryz.func11 (by decide +kernel)
theorem fnok_11 : fnOk Go.Proofs.Tryz.prog 11 = true := by decide +kernel
theorem told_12 : Told Go.Proofs.Tryz.prog 12 s_ShelfText_b [.t 2] 1 := Told.of Go.Proofs.Tryz.func12 (by decide +kernel)
theorem fnok_12 : fnOk Go.Proofs.Tryz.prog 12 = true := by decide +kernel
theorem told_13 : Told Go.Proofs.Tryz.prog 13 l_toShelf_b [.c 2 6 true 48] 1 := Told.of Go.Proofs.Tryz.func13 (by decide +kernel)
theorem fnok_13 : fnOk Go.Proofs.Tryz.prog 13 = true := by decide +kernel
theorem told_14 : Told Go.Proofs.Tryz.prog 14 i_ShelfText_b [.t 2] 1 := Told.of Go.Proofs.Tryz.func14 (by decide +kernel)
theorem fnok_14 : fnOk Go.Proofs.Tryz.prog 14 = true := by decide +kernel
theorem told_15 : Told Go.Proofs.Tryz.prog 15 l_eqShelf_b [.t 4] 2 := Told.of Go.Proofs.Tryz.func15 (by decide +kernel)
theorem fnok_15 : fnOk Go.Proofs.Tryz.prog 15 = true := by decide +kernel
theorem told_21 : Told Go.Proofs.Tryz.prog 21 l_szFieldS_b [.t 4] 2 := Told.of Go.Proofs.Tryz.func21 (by decide +kernel)
theorem fnok_21 : fnOk Go.Proofs.Tryz.prog 21 = true := by decide +kernel
theorem told_25 : Told Go.Proofs.Tryz.prog 25 l_toFieldS_b [.t 2] 1 := Told.of Go.Proofs.Tryz.func25 (by decide +kernel)
theorem fnok_25 : fnOk Go.Proofs.Tryz.prog 25 = true := by decide +kernel
theorem told_28 : Told Go.Proofs.Tryz.prog 28 l_eqFieldS_b [.t 4] 2 := Told.of Go.Proofs.Tryz.func28 (by decide +kernel)
theorem fnok_28 : fnOk Go.Proofs.Tryz.prog 28 = true := by decide +kernel
theorem told_29 : Told Go.Proofs.Tryz.prog 29 l_szDisk_b [.t 4] 2 := Told.of Go.Proofs.Tryz.func29 (by decide +kernel)
theorem fnok_29 : fnOk Go.Proofs.Tryz.prog 29 = true := by decide +kernel
theorem told_30 : Told Go.Proofs.Tryz.prog 30 l_szKeptS_b [.t 4] 2 := Told.of Go.Proofs.Tryz.func30 (by decide +kernel)
theorem fnok_30 : fnOk Go.Proofs.Tryz.prog 30 = true := by decide +kernel
theorem told_31 : Told Go.Proofs.Tryz.prog 31 l_szBanS_b [.t 4] 2 := Told.of Go.Proofs.Tryz.func31 (by decide +kernel)
theorem fnok_31 : fnOk Go.Proofs.Tryz.prog 31 = true := by decide +kernel
theorem told_32 : Told Go.Proofs.Tryz.prog 32 s_ShelfOk_b [.t 2] 1 := Told.of Go.Proofs.Tryz.func32 (by decide +kernel)
theorem fnok_32 : fnOk Go.Proofs.Tryz.prog 32 = true := by decide +kernel
theorem told_33 : Told Go.Proofs.Tryz.prog 33 s_NumText_b [.t 2] 1 := Told.of Go.Proofs.Tryz.func33 (by decide +kernel)
theorem fnok_33 : fnOk Go.Proofs.Tryz.prog 33 = true := by decide +kernel
theorem told_34 : Told Go.Proofs.Tryz.prog 34 l_toDisk_b [.c 2 2 true 44] 1 := Told.of Go.Proofs.Tryz.func34 (by decide +kernel)
theorem fnok_34 : fnOk Go.Proofs.Tryz.prog 34 = true := by decide +kernel
theorem told_35 : Told Go.Proofs.Tryz.prog 35 l_toKeptS_b [.t 2] 1 := Told.of Go.Proofs.Tryz.func35 (by decide +kernel)
theorem fnok_35 : fnOk Go.Proofs.Tryz.prog 35 = true := by decide +kernel
theorem told_36 : Told Go.Proofs.Tryz.prog 36 l_toBanS_b [.t 2] 1 := Told.of Go.Proofs.Tryz.func36 (by decide +kernel)
theorem fnok_36 : fnOk Go.Proofs.Tryz.prog 36 = true := by decide +kernel
theorem told_37 : Told Go.Proofs.Tryz.prog 37 i_ShelfOk_b [.t 2] 1 := Told.of Go.Proofs.Tryz.func37 (by decide +kernel)
theorem fnok_37 : fnOk Go.Proofs.Tryz.prog 37 = true := by decide +kernel
theorem told_38 : Told Go.Proofs.Tryz.prog 38 i_NumText_b [.t 2] 1 := Told.of Go.Proofs.Tryz.func38 (by decide +kernel)
theorem fnok_38 : fnOk Go.Proofs.Tryz.prog 38 = true := by decide +kernel
theorem told_40 : Told Go.Proofs.Tryz.prog 40 l_eqDisk_b [.t 4] 2 := Told.of Go.Proofs.Tryz.func40 (by decide +kernel)
theorem fnok_40 : fnOk Go.Proofs.Tryz.prog 40 = true := by decide +kernel
theorem told_41 : Told Go.Proofs.Tryz.prog 41 l_eqKeptS_b [.t 4] 2 := Told.of Go.Proofs.Tryz.func41 (by decide +kernel)
theorem fnok_41 : fnOk Go.Proofs.Tryz.prog 41 = true := by decide +kernel
theorem told_42 : Told Go.Proofs.Tryz.prog 42 l_eqBanS_b [.t 4] 2 := Told.of Go.Proofs.Tryz.func42 (by decide +kernel)
theorem fnok_42 : fnOk Go.Proofs.Tryz.prog 42 = true := by decide +kernel
theorem told_46 : Told Go.Proofs.Tryz.prog 46 s_l1In_b [.t 6] 3 := Told.of Go.Proofs.Tryz.func46 (by decide +kernel)
theorem fnok_46 : fnOk Go.Proofs.Tryz.prog 46 = true := by decide +kernel
theorem told_47 : Told Go.Proofs.Tryz.prog 47 s_ObjOk_b [.t 2] 1 := Told.of Go.Proofs.Tryz.func47 (by decide +kernel)
theorem fnok_47 : fnOk Go.Proofs.Tryz.prog 47 = true := by decide +kernel
theorem told_51 : Told Go.Proofs.Tryz.prog 51 i_isTime_b [.t 2] 1 := Told.of Go.Proofs.Tryz.func51 (by decide +kernel)
theorem fnok_51 : fnOk Go.Proofs.Tryz.prog 51 = true := by decide +kernel
theorem told_56 : Told Go.Proofs.Tryz.prog 56 l_szField_b [.t 4] 2 := Told.of Go.Proofs.Tryz.func56 (by decide +kernel)
theorem fnok_56 : fnOk Go.Proofs.Tryz.prog 56 = true := by decide +kernel
theorem told_57 : Told Go.Proofs.Tryz.prog 57 s_l3Path_b [.t 2] 1 := Told.of Go.Proofs.Tryz.func57 (by decide +kernel)
theorem fnok_57 : fnOk Go.Proofs.Tryz.prog 57 = true := by decide +kernel
theorem told_58 : Told Go.Proofs.Tryz.prog 58 s_FieldsOk_b [.t 2] 1 := Told.of Go.Proofs.Tryz.func58 (by decide +kernel)
theorem fnok_58 : fnOk Go.Proofs.Tryz.prog 58 = true := by decide +kernel
theorem told_59 : Told Go.Proofs.Tryz.prog 59 s_Get_b [.t 4, .t 5] 2 := Told.of Go.Proofs.Tryz.func59 (by decide +kernel)
theorem fnok_59 : fnOk Go.Proofs.Tryz.prog 59 = true := by decide +kernel
theorem told_61 : Told Go.Proofs.Tryz.prog 61 l_toField_b [.c 2 2 true 75] 1 := Told.of Go.Proofs.Tryz.func61 (by decide +kernel)
theorem fnok_61 : fnOk Go.Proofs.Tryz.prog 61 = true := by decide +kernel
theorem told_64 : Told Go.Proofs.Tryz.prog 64 l_eqField_b [.t 4] 2 := Told.of Go.Proofs.Tryz.func64 (by decide +kernel)
theorem fnok_64 : fnOk Go.Proofs.Tryz.prog 64 = true := by decide +kernel
theorem told_65 : Told Go.Proofs.Tryz.prog 65 l_szStringS_b [.t 4] 2 := Told.of Go.Proofs.Tryz.func65 (by decide +kernel)
theorem fnok_65 : fnOk Go.Proofs.Tryz.prog 65 = true := by decide +kernel
theorem told_66 : Told Go.Proofs.Tryz.prog 66 l_szWriteS_b [.t 4] 2 := Told.of Go.Proofs.Tryz.func66 (by decide +kernel)
theorem fnok_66 : fnOk Go.Proofs.Tryz.prog 66 = true := by decide +kernel
theorem told_67 : Told Go.Proofs.Tryz.prog 67 l_szKept_b [.t 4] 2 := Told.of Go.Proofs.Tryz.func67 (by decide +kernel)
theorem fnok_67 : fnOk Go.Proofs.Tryz.prog 67 = true := by decide +kernel
theorem told_68 : Told Go.Proofs.Tryz.prog 68 l_szBan_b [.t 4] 2 := Told.of Go.Proofs.Tryz.func68 (by decide +kernel)
theorem fnok_68 : fnOk Go.Proofs.Tryz.prog 68 = true := by decide +kernel
theorem told_69 : Told Go.Proofs.Tryz.prog 69 s_DiskOk_b [.t 2] 1 := Told.of Go.Proofs.Tryz.func69 (by decide +kernel)
theorem fnok_69 : fnOk Go.Proofs.Tryz.prog 69 = true := by decide +kernel
theorem told_70 : Told Go.Proofs.Tryz.prog 70 s_BanOk_b [.t 2] 1 := Told.of Go.Proofs.Tryz.func70 (by decide +kernel)
theorem fnok_70 : fnOk Go.Proofs.Tryz.prog 70 = true := by decide +kernel
theorem told_71 : Told Go.Proofs.Tryz.prog 71 l_toStringS_b [.t 2] 1 := Told.of Go.Proofs.Tryz.func71 (by decide +kernel)
theorem fnok_71 : fnOk Go.Proofs.Tryz.prog 71 = true := by decide +kernel
theorem told_72 : Told Go.Proofs.Tryz.prog 72 l_toWriteS_b [.t 2] 1 := Told.of Go.Proofs.Tryz.func72 (by decide +kernel)
theorem fnok_72 : fnOk Go.Proofs.Tryz.prog 72 = true := by decide +kernel
theorem told_73 : Told Go.Proofs.Tryz.prog 73 l_toKept_b [.c 2 9 true 85] 1 := Told.of Go.Proofs.Tryz.func73 (by decide +kernel)
theorem fnok_73 : fnOk Go.Proofs.Tryz.prog 73 = true := by decide +kernel
theorem told_74 : Told Go.Proofs.Tryz.prog 74 l_toBan_b [.c 2 4 true 133] 1 := Told.of Go.Proofs.Tryz.func74 (by decide +kernel)
theorem fnok_74 : fnOk Go.Proofs.Tryz.prog 74 = true := by decide +kernel
theorem told_75 : Told Go.Proofs.Tryz.prog 75 i_BanOk_b [.t 2] 1 := Told.of Go.Proofs.Tryz.func75 (by decide +kernel)
theorem fnok_75 : fnOk Go.Proofs.Tryz.prog 75 = true := by decide +kernel
theorem told_76 : Told Go.Proofs.Tryz.prog 76 i_isPlace_b [.t 2] 1 := Told.of Go.Proofs.Tryz.func76 (by decide +kernel)
theorem fnok_76 : fnOk Go.Proofs.Tryz.prog 76 = true := by decide +kernel
theorem told_77 : Told Go.Proofs.Tryz.prog 77 i_inRange_b [.t 6] 3 := Told.of Go.Proofs.Tryz.func77 (by decide +kernel)
theorem fnok_77 : fnOk Go.Proofs.Tryz.prog 77 = true := by decide +kernel
theorem told_78 : Told Go.Proofs.Tryz.prog 78 i_DiskOk_b [.t 2] 1 := Told.of Go.Proofs.Tryz.func78 (by decide +kernel)
theorem fnok_78 : fnOk Go.Proofs.Tryz.prog 78 = true := by decide +kernel
theorem told_79 : Told Go.Proofs.Tryz.prog 79 i_Shelf_objsOk_b [.t 2] 1 := Told.of Go.Proofs.Tryz.func79 (by decide +kernel)
theorem fnok_79 : fnOk Go.Proofs.Tryz.prog 79 = true := by decide +kernel
theorem told_84 : Told Go.Proofs.Tryz.prog 84 l_eqStringS_b [.t 4] 2 := Told.of Go.Proofs.Tryz.func84 (by decide +kernel)
theorem fnok_84 : fnOk Go.Proofs.Tryz.prog 84 = true := by decide +kernel
theorem told_85 : Told Go.Proofs.Tryz.prog 85 l_eqWriteS_b [.t 4] 2 := Told.of Go.Proofs.Tryz.func85 (by decide +kernel)
theorem fnok_85 : fnOk Go.Proofs.Tryz.prog 85 = true := by decide +kernel
theorem told_86 : Told Go.Proofs.Tryz.prog 86 l_eqKept_b [.t 4] 2 := Told.of Go.Proofs.Tryz.func86 (by decide +kernel)
theorem fnok_86 : fnOk Go.Proofs.Tryz.prog 86 = true := by decide +kernel
theorem told_87 : Told Go.Proofs.Tryz.prog 87 l_eqBan_b [.t 4] 2 := Told.of Go.Proofs.Tryz.func87 (by decide +kernel)
theorem fnok_87 : fnOk Go.Proofs.Tryz.prog 87 = true := by decide +kernel
theorem told_91 : Told Go.Proofs.Tryz.prog 91 s_RespOk_b [.t 2] 1 := Told.of Go.Proofs.Tryz.func91 (by decide +kernel)
theorem fnok_91 : fnOk Go.Proofs.Tryz.prog 91 = true := by decide +kernel
theorem told_92 : Told Go.Proofs.Tryz.prog 92 s_l9Names_b [.t 2] 1 := Told.of Go.Proofs.Tryz.func92 (by decide +kernel)
theorem fnok_92 : fnOk Go.Proofs.Tryz.prog 92 = true := by decide +kernel
theorem told_93 : Told Go.Proofs.Tryz.prog 93 s_l8Texts_b [.t 4] 2 := Told.of Go.Proofs.Tryz.func93 (by decide +kernel)
theorem fnok_93 : fnOk Go.Proofs.Tryz.prog 93 = true := by decide +kernel
theorem told_94 : Told Go.Proofs.Tryz.prog 94 s_VaryOf_b [.t 2] 1 := Told.of Go.Proofs.Tryz.func94 (by decide +kernel)
theorem fnok_94 : fnOk Go.Proofs.Tryz.prog 94 = true := by decide +kernel
theorem told_95 : Told Go.Proofs.Tryz.prog 95 s_ValueOk_b [.t 2] 1 := Told.of Go.Proofs.Tryz.func95 (by decide +kernel)
theorem fnok_95 : fnOk Go.Proofs.Tryz.prog 95 = true := by decide +kernel
theorem told_99 : Told Go.Proofs.Tryz.prog 99 i_ObjOk_b [.t 2] 1 := Told.of Go.Proofs.Tryz.func99 (by decide +kernel)
theorem fnok_99 : fnOk Go.Proofs.Tryz.prog 99 = true := by decide +kernel
theorem told_103 : Told Go.Proofs.Tryz.prog 103 s_TokenOk_b [.t 2] 1 := Told.of Go.Proofs.Tryz.func103 (by decide +kernel)
theorem fnok_103 : fnOk Go.Proofs.Tryz.prog 103 = true := by decide +kernel
theorem told_104 : Told Go.Proofs.Tryz.prog 104 s_l2At_b [.t 4] 2 := Told.of Go.Proofs.Tryz.func104 (by decide +kernel)
theorem fnok_104 : fnOk Go.Proofs.Tryz.prog 104 = true := by decide +kernel
theorem told_105 : Told Go.Proofs.Tryz.prog 105 s_Split_b [.t 2] 1 := Told.of Go.Proofs.Tryz.func105 (by decide +kernel)
theorem fnok_105 : fnOk Go.Proofs.Tryz.prog 105 = true := by decide +kernel
theorem told_106 : Told Go.Proofs.Tryz.prog 106 s_Lower_b [.t 2] 1 := Told.of Go.Proofs.Tryz.func106 (by decide +kernel)
theorem fnok_106 : fnOk Go.Proofs.Tryz.prog 106 = true := by decide +kernel
theorem told_109 : Told Go.Proofs.Tryz.prog 109 i_pathOk_b [.t 2] 1 := Told.of Go.Proofs.Tryz.func109 (by decide +kernel)
theorem fnok_109 : fnOk Go.Proofs.Tryz.prog 109 = true := by decide +kernel
theorem told_110 : Told Go.Proofs.Tryz.prog 110 i_FieldsOk_b [.t 2] 1 := Told.of Go.Proofs.Tryz.func110 (by decide +kernel)
theorem fnok_110 : fnOk Go.Proofs.Tryz.prog 110 = true := by decide +kernel
theorem told_111 : Told Go.Proofs.Tryz.prog 111 i_Get_b [.t 4, .t 5] 2 := Told.of Go.Proofs.Tryz.func111 (by decide +kernel)
theorem fnok_111 : fnOk Go.Proofs.Tryz.prog 111 = true := by decide +kernel
theorem told_113 : Told Go.Proofs.Tryz.prog 113 l_szWrite_b [.t 4] 2 := Told.of Go.Proofs.Tryz.func113 (by decide +kernel)
theorem fnok_113 : fnOk Go.Proofs.Tryz.prog 113 = true := by decide +kernel
theorem told_114 : Told Go.Proofs.Tryz.prog 114 l_szObj_b [.t 4] 2 := Told.of Go.Proofs.Tryz.func114 (by decide +kernel)
theorem fnok_114 : fnOk Go.Proofs.Tryz.prog 114 = true := by decide +kernel
theorem told_115 : Told Go.Proofs.Tryz.prog 115 l_toWrite_b [.c 2 2 true 185] 1 := Told.of Go.Proofs.Tryz.func115 (by decide +kernel)
theorem fnok_115 : fnOk Go.Proofs.Tryz.prog 115 = true := by decide +kernel
theorem told_116 : Told Go.Proofs.Tryz.prog 116 l_toObj_b [.c 2 7 true 83] 1 := Told.of Go.Proofs.Tryz.func116 (by decide +kernel)
theorem fnok_116 : fnOk Go.Proofs.Tryz.prog 116 = true := by decide +kernel
theorem told_117 : Told Go.Proofs.Tryz.prog 117 i_TokenOk_b [.t 2] 1 := Told.of Go.Proofs.Tryz.func117 (by decide +kernel)
theorem fnok_117 : fnOk Go.Proofs.Tryz.prog 117 = true := by decide +kernel
theorem told_118 : Told Go.Proofs.Tryz.prog 118 i_ValueOk_b [.t 2] 1 := Told.of Go.Proofs.Tryz.func118 (by decide +kernel)
theorem fnok_118 : fnOk Go.Proofs.Tryz.prog 118 = true := by decide +kernel
theorem told_119 : Told Go.Proofs.Tryz.prog 119 i_isCell_b [.t 2] 1 := Told.of Go.Proofs.Tryz.func119 (by decide +kernel)
theorem fnok_119 : fnOk Go.Proofs.Tryz.prog 119 = true := by decide +kernel
theorem told_120 : Told Go.Proofs.Tryz.prog 120 x_slices_ContainsFunc_impl_Kept_impl_Kept_b [.t 4] 2 := Told.of Go.Proofs.Tryz.func120 (by decide +kernel)
theorem fnok_120 : fnOk Go.Proofs.Tryz.prog 120 = true := by decide +kernel
theorem told_121 : Told Go.Proofs.Tryz.prog 121 i_Shelf_objsOk_1_b [.t 3] 2 := Told.of Go.Proofs.Tryz.func121 (by decide +kernel)
theorem fnok_121 : fnOk Go.Proofs.Tryz.prog 121 = true := by decide +kernel
theorem told_125 : Told Go.Proofs.Tryz.prog 125 l_eqWrite_b [.t 4] 2 := Told.of Go.Proofs.Tryz.func125 (by decide +kernel)
theorem fnok_125 : fnOk Go.Proofs.Tryz.prog 125 = true := by decide +kernel
theorem told_126 : Told Go.Proofs.Tryz.prog 126 l_eqObj_b [.t 4] 2 := Told.of Go.Proofs.Tryz.func126 (by decide +kernel)
theorem fnok_126 : fnOk Go.Proofs.Tryz.prog 126 = true := by decide +kernel
theorem told_128 : Told Go.Proofs.Tryz.prog 128 l_szResp_b [.t 4] 2 := Told.of Go.Proofs.Tryz.func128 (by decide +kernel)
theorem fnok_128 : fnOk Go.Proofs.Tryz.prog 128 = true := by decide +kernel
theorem told_129 : Told Go.Proofs.Tryz.prog 129 s_Trim_b [.t 2] 1 := Told.of Go.Proofs.Tryz.func129 (by decide +kernel)
theorem fnok_129 : fnOk Go.Proofs.Tryz.prog 129 = true := by decide +kernel
theorem told_131 : Told Go.Proofs.Tryz.prog 131 l_toResp_b [.c 2 3 true 81] 1 := Told.of Go.Proofs.Tryz.func131 (by decide +kernel)
theorem fnok_131 : fnOk Go.Proofs.Tryz.prog 131 = true := by decide +kernel
theorem told_132 : Told Go.Proofs.Tryz.prog 132 i_namesOk_b [.t 2] 1 := Told.of Go.Proofs.Tryz.func132 (by decide +kernel)
theorem fnok_132 : fnOk Go.Proofs.Tryz.prog 132 = true := by decide +kernel
theorem told_133 : Told Go.Proofs.Tryz.prog 133 i_RespOk_b [.t 2] 1 := Told.of Go.Proofs.Tryz.func133 (by decide +kernel)
theorem fnok_133 : fnOk Go.Proofs.Tryz.prog 133 = true := by decide +kernel
theorem told_134 : Told Go.Proofs.Tryz.prog 134 x_slices_Equal_string_string_b [.t 4] 2 := Told.of Go.Proofs.Tryz.func134 (by decide +kernel)
theorem fnok_134 : fnOk Go.Proofs.Tryz.prog 134 = true := by decide +kernel
theorem told_135 : Told Go.Proofs.Tryz.prog 135 i_VaryOf_b [.t 2] 1 := Told.of Go.Proofs.Tryz.func135 (by decide +kernel)
theorem fnok_135 : fnOk Go.Proofs.Tryz.prog 135 = true := by decide +kernel
theorem told_137 : Told Go.Proofs.Tryz.prog 137 l_eqResp_b [.t 4] 2 := Told.of Go.Proofs.Tryz.func137 (by decide +kernel)
theorem fnok_137 : fnOk Go.Proofs.Tryz.prog 137 = true := by decide +kernel
theorem told_139 : Told Go.Proofs.Tryz.prog 139 i_areFrom_b [.t 4] 2 := Told.of Go.Proofs.Tryz.func139 (by decide +kernel)
theorem fnok_139 : fnOk Go.Proofs.Tryz.prog 139 = true := by decide +kernel
theorem told_140 : Told Go.Proofs.Tryz.prog 140 i_fieldAt_b [.t 4] 2 := Told.of Go.Proofs.Tryz.func140 (by decide +kernel)
theorem fnok_140 : fnOk Go.Proofs.Tryz.prog 140 = true := by decide +kernel
theorem told_141 : Told Go.Proofs.Tryz.prog 141 i_Split_b [.t 2] 1 := Told.of Go.Proofs.Tryz.func141 (by decide +kernel)
theorem fnok_141 : fnOk Go.Proofs.Tryz.prog 141 = true := by decide +kernel
theorem told_143 : Told Go.Proofs.Tryz.prog 143 i_Lower_b [.t 2] 1 := Told.of Go.Proofs.Tryz.func143 (by decide +kernel)
theorem fnok_143 : fnOk Go.Proofs.Tryz.prog 143 = true := by decide +kernel
theorem told_144 : Told Go.Proofs.Tryz.prog 144 i_Trim_b [.t 2] 1 := Told.of Go.Proofs.Tryz.func144 (by decide +kernel)
theorem fnok_144 : fnOk Go.Proofs.Tryz.prog 144 = true := by decide +kernel
theorem told_145 : Told Go.Proofs.Tryz.prog 145 x_slices_IndexFunc_impl_Kept_impl_Kept_b [.t 4] 2 := Told.of Go.Proofs.Tryz.func145 (by decide +kernel)
theorem fnok_145 : fnOk Go.Proofs.Tryz.prog 145 = true := by decide +kernel
theorem told_149 : Told Go.Proofs.Tryz.prog 149 x_slices_IndexFunc_impl_Field_impl_Field_b [.t 4] 2 := Told.of Go.Proofs.Tryz.func149 (by decide +kernel)
theorem fnok_149 : fnOk Go.Proofs.Tryz.prog 149 = true := by decide +kernel
theorem told_150 : Told Go.Proofs.Tryz.prog 150 i_fieldAt_1_b [.t 3] 2 := Told.of Go.Proofs.Tryz.func150 (by decide +kernel)
theorem fnok_150 : fnOk Go.Proofs.Tryz.prog 150 = true := by decide +kernel
theorem TT_ok : TT.Ok Go.Proofs.Tryz.prog := by
  refine ⟨fun f F h => ?_, fun f F h => ?_⟩
  · unfold TT at h
    split at h
    · cases h; exact told_4
    · cases h; exact told_11
    · cases h; exact told_12
    · cases h; exact told_13
    · cases h; exact told_14
    · cases h; exact told_15
    · cases h; exact told_21
    · cases h; exact told_25
    · cases h; exact told_28
    · cases h; exact told_29
    · cases h; exact told_30
    · cases h; exact told_31
    · cases h; exact told_32
    · cases h; exact told_33
    · cases h; exact told_34
    · cases h; exact told_35
    · cases h; exact told_36
    · cases h; exact told_37
    · cases h; exact told_38
    · cases h; exact told_40
    · cases h; exact told_41
    · cases h; exact told_42
    · cases h; exact told_46
    · cases h; exact told_47
    · cases h; exact told_51
    · cases h; exact told_56
    · cases h; exact told_57
    · cases h; exact told_58
    · cases h; exact told_59
    · cases h; exact told_61
    · cases h; exact told_64
    · cases h; exact told_65
    · cases h; exact told_66
    · cases h; exact told_67
    · cases h; exact told_68
    · cases h; exact told_69
    · cases h; exact told_70
    · cases h; exact told_71
    · cases h; exact told_72
    · cases h; exact told_73
    · cases h; exact told_74
    · cases h; exact told_75
    · cases h; exact told_76
    · cases h; exact told_77
    · cases h; exact told_78
    · cases h; exact told_79
    · cases h; exact told_84
    · cases h; exact told_85
    · cases h; exact told_86
    · cases h; exact told_87
    · cases h; exact told_91
    · cases h; exact told_92
    · cases h; exact told_93
    · cases h; exact told_94
    · cases h; exact told_95
    · cases h; exact told_99
    · cases h; exact told_103
    · cases h; exact told_104
    · cases h; exact told_105
    · cases h; exact told_106
    · cases h; exact told_109
    · cases h; exact told_110
    · cases h; exact told_111
    · cases h; exact told_113
    · cases h; exact told_114
    · cases h; exact told_115
    · cases h; exact told_116
    · cases h; exact told_117
    · cases h; exact told_118
    · cases h; exact told_119
    · cases h; exact told_120
    · cases h; exact told_121
    · cases h; exact told_125
    · cases h; exact told_126
    · cases h; exact told_128
    · cases h; exact told_129
    · cases h; exact told_131
    · cases h; exact told_132
    · cases h; exact told_133
    · cases h; exact told_134
    · cases h; exact told_135
    · cases h; exact told_137
    · cases h; exact told_139
    · cases h; exact told_140
    · cases h; exact told_141
    · cases h; exact told_143
    · cases h; exact told_144
    · cases h; exact told_145
    · cases h; exact told_149
    · cases h; exact told_150
    · cases h
  · unfold TT at h
    split at h
    · cases h; exact fnok_4
    · cases h; exact fnok_11
    · cases h; exact fnok_12
    · cases h; exact fnok_13
    · cases h; exact fnok_14
    · cases h; exact fnok_15
    · cases h; exact fnok_21
    · cases h; exact fnok_25
    · cases h; exact fnok_28
    · cases h; exact fnok_29
    · cases h; exact fnok_30
    · cases h; exact fnok_31
    · cases h; exact fnok_32
    · cases h; exact fnok_33
    · cases h; exact fnok_34
    · cases h; exact fnok_35
    · cases h; exact fnok_36
    · cases h; exact fnok_37
    · cases h; exact fnok_38
    · cases h; exact fnok_40
    · cases h; exact fnok_41
    · cases h; exact fnok_42
    · cases h; exact fnok_46
    · cases h; exact fnok_47
    · cases h; exact fnok_51
    · cases h; exact fnok_56
    · cases h; exact fnok_57
    · cases h; exact fnok_58
    · cases h; exact fnok_59
    · cases h; exact fnok_61
    · cases h; exact fnok_64
    · cases h; exact fnok_65
    · cases h; exact fnok_66
    · cases h; exact fnok_67
    · cases h; exact fnok_68
    · cases h; exact fnok_69
    · cases h; exact fnok_70
    · cases h; exact fnok_71
    · cases h; exact fnok_72
    · cases h; exact fnok_73
    · cases h; exact fnok_74
    · cases h; exact fnok_75
    · cases h; exact fnok_76
    · cases h; exact fnok_77
    · cases h; exact fnok_78
    · cases h; exact fnok_79
    · cases h; exact fnok_84
    · cases h; exact fnok_85
    · cases h; exact fnok_86
    · cases h; exact fnok_87
    · cases h; exact fnok_91
    · cases h; exact fnok_92
    · cases h; exact fnok_93
    · cases h; exact fnok_94
    · cases h; exact fnok_95
    · cases h; exact fnok_99
    · cases h; exact fnok_103
    · cases h; exact fnok_104
    · cases h; exact fnok_105
    · cases h; exact fnok_106
    · cases h; exact fnok_109
    · cases h; exact fnok_110
    · cases h; exact fnok_111
    · cases h; exact fnok_113
    · cases h; exact fnok_114
    · cases h; exact fnok_115
    · cases h; exact fnok_116
    · cases h; exact fnok_117
    · cases h; exact fnok_118
    · cases h; exact fnok_119
    · cases h; exact fnok_120
    · cases h; exact fnok_121
    · cases h; exact fnok_125
    · cases h; exact fnok_126
    · cases h; exact fnok_128
    · cases h; exact fnok_129
    · cases h; exact fnok_131
    · cases h; exact fnok_132
    · cases h; exact fnok_133
    · cases h; exact fnok_134
    · cases h; exact fnok_135
    · cases h; exact fnok_137
    · cases h; exact fnok_139
    · cases h; exact fnok_140
    · cases h; exact fnok_141
    · cases h; exact fnok_143
    · cases h; exact fnok_144
    · cases h; exact fnok_145
    · cases h; exact fnok_149
    · cases h; exact fnok_150
    · cases h
theorem LI_sound (htab : Lib.TabIs Go.Proofs.Tryz.prog Bs.W0 "internal/strconv.uint64pow10" .u64 Lib.pow10Tab) (hmax : ∃ m, Bs.W0.cell? ⟨0, 0, none⟩ = some (.int .i64 m)) : LI.Sound Go.Proofs.Tryz.prog := (orO_sound (itoaO_sound htab fun n h0 h1 w ht => Go.Proofs.Tryz.strconv_Itoa n h0 h1 w ht) (orO_sound (joinO_sound (fun a c sep w => Go.Proofs.Tryz.strings_Join_none a c sep w) fun bk o c xs sep w h1 h2 h3 h4 h5 => Go.Proofs.Tryz.strings_Join bk o c xs sep w h1 h2 h3 h4 h5) (orO_sound (splitO_sound (g1 := 0) (t9 := _) hmax fun s sep m w h1 h2 h3 => Go.Proofs.Tryz.strings_Split s sep m w h1 h2 h3) (trimO_sound fun s c h w hs => Go.Proofs.Tryz.strings_Trim_one s c h w hs))))
end M
