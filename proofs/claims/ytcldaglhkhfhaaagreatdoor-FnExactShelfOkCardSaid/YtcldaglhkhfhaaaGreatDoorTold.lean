/- Each function of the table is the program's, and the library is as it is said to be; no conditions. -/
import Derived.Test.YtcldaglhkhfhaaaGreatDoorProg
import Derived.Test.YtcldaglhkhfhaaaGreatDoorLay
import Derived.Test.YtcldaglhkhfhaaaGreatDoorTab
import Derived.Test.YtcldaglhkhfhaaaGreatDoorMd
set_option linter.unusedSectionVars false
set_option linter.unusedVariables false
set_option linter.unusedSectionVars false
set_option maxRecDepth 100000
namespace M
open Go
variable [Bs]
theorem told_3 : Told Go.Proofs.Tryz.prog 3 l_FnExactShelfOk_b [.t 2] 1 := Told.of Go.Proofs.Tryz.func3 (by decide +kernel)
theorem fnok_3 : fnOk Go.Proofs.Tryz.prog 3 = true := by decide +kernel
theorem told_6 : Told Go.Proofs.Tryz.prog 6 l_szShelf_b [.t 4] 2 := Told.of Go.Proofs.Tryz.func6 (by decide +kernel)
theorem fnok_6 : fnOk Go.Proofs.Tryz.prog 6 = true := by decide +kernel
theorem told_7 : Told Go.Proofs.Tryz.prog 7 s_ShelfOk_b [.t 2] 1 := Told.of Go.Proofs.Tryz.func7 (by decide +kernel)
theorem fnok_7 : fnOk Go.Proofs.Tryz.prog 7 = true := by decide +kernel
theorem told_8 : Told Go.Proofs.Tryz.prog 8 l_toShelf_b [.c 2 6 true 38] 1 := Told.of Go.Proofs.Tryz.func8 (by decide +kernel)
theorem fnok_8 : fnOk Go.Proofs.Tryz.prog 8 = true := by decide +kernel
theorem told_9 : Told Go.Proofs.Tryz.prog 9 i_ShelfOk_b [.t 2] 1 := Told.of Go.Proofs.Tryz.func9 (by decide +kernel)
theorem fnok_9 : fnOk Go.Proofs.Tryz.prog 9 = true := by decide +kernel
theorem told_10 : Told Go.Proofs.Tryz.prog 10 l_eqShelf_b [.t 4] 2 := Told.of Go.Proofs.Tryz.func10 (by decide +kernel)
theorem fnok_10 : fnOk Go.Proofs.Tryz.prog 10 = true := by decide +kernel
theorem told_15 : Told Go.Proofs.Tryz.prog 15 i_BanOk_b [.t 2] 1 := Told.of Go.Proofs.Tryz.func15 (by decide +kernel)
theorem fnok_15 : fnOk Go.Proofs.Tryz.prog 15 = true := by decide +kernel
theorem told_20 : Told Go.Proofs.Tryz.prog 20 l_szObj_b [.t 4] 2 := Told.of Go.Proofs.Tryz.func20 (by decide +kernel)
theorem fnok_20 : fnOk Go.Proofs.Tryz.prog 20 = true := by decide +kernel
theorem told_23 : Told Go.Proofs.Tryz.prog 23 l_toObj_b [.c 2 7 true 69] 1 := Told.of Go.Proofs.Tryz.func23 (by decide +kernel)
theorem fnok_23 : fnOk Go.Proofs.Tryz.prog 23 = true := by decide +kernel
theorem told_25 : Told Go.Proofs.Tryz.prog 25 l_eqResp_b [.t 4] 2 := Told.of Go.Proofs.Tryz.func25 (by decide +kernel)
theorem fnok_25 : fnOk Go.Proofs.Tryz.prog 25 = true := by decide +kernel
theorem told_27 : Told Go.Proofs.Tryz.prog 27 l_eqObj_b [.t 4] 2 := Told.of Go.Proofs.Tryz.func27 (by decide +kernel)
theorem fnok_27 : fnOk Go.Proofs.Tryz.prog 27 = true := by decide +kernel
theorem told_32 : Told Go.Proofs.Tryz.prog 32 l_szDisk_b [.t 4] 2 := Told.of Go.Proofs.Tryz.func32 (by decide +kernel)
theorem fnok_32 : fnOk Go.Proofs.Tryz.prog 32 = true := by decide +kernel
theorem told_33 : Told Go.Proofs.Tryz.prog 33 l_szKeptS_b [.t 4] 2 := Told.of Go.Proofs.Tryz.func33 (by decide +kernel)
theorem fnok_33 : fnOk Go.Proofs.Tryz.prog 33 = true := by decide +kernel
theorem told_34 : Told Go.Proofs.Tryz.prog 34 l_szBanS_b [.t 4] 2 := Told.of Go.Proofs.Tryz.func34 (by decide +kernel)
theorem fnok_34 : fnOk Go.Proofs.Tryz.prog 34 = true := by decide +kernel
theorem told_35 : Told Go.Proofs.Tryz.prog 35 s_DiskOk_b [.t 2] 1 := Told.of Go.Proofs.Tryz.func35 (by decide +kernel)
theorem fnok_35 : fnOk Go.Proofs.Tryz.prog 35 = true := by decide +kernel
theorem told_36 : Told Go.Proofs.Tryz.prog 36 s_l1In_b [.t 6] 3 := Told.of Go.Proofs.Tryz.func36 (by decide +kernel)
theorem fnok_36 : fnOk Go.Proofs.Tryz.prog 36 = true := by decide +kernel
theorem told_37 : Told Go.Proofs.Tryz.prog 37 s_BanOk_b [.t 2] 1 := Told.of Go.Proofs.Tryz.func37 (by decide +kernel)
theorem fnok_37 : fnOk Go.Proofs.Tryz.prog 37 = true := by decide +kernel
theorem told_38 : Told Go.Proofs.Tryz.prog 38 s_ObjOk_b [.t 2] 1 := Told.of Go.Proofs.Tryz.func38 (by decide +kernel)
theorem fnok_38 : fnOk Go.Proofs.Tryz.prog 38 = true := by decide +kernel
theorem told_39 : Told Go.Proofs.Tryz.prog 39 l_toDisk_b [.c 2 2 true 34] 1 := Told.of Go.Proofs.Tryz.func39 (by decide +kernel)
theorem fnok_39 : fnOk Go.Proofs.Tryz.prog 39 = true := by decide +kernel
theorem told_40 : Told Go.Proofs.Tryz.prog 40 l_toKeptS_b [.t 2] 1 := Told.of Go.Proofs.Tryz.func40 (by decide +kernel)
theorem fnok_40 : fnOk Go.Proofs.Tryz.prog 40 = true := by decide +kernel
theorem told_41 : Told Go.Proofs.Tryz.prog 41 l_toBanS_b [.t 2] 1 := Told.of Go.Proofs.Tryz.func41 (by decide +kernel)
theorem fnok_41 : fnOk Go.Proofs.Tryz.prog 41 = true := by decide +kernel
theorem told_42 : Told Go.Proofs.Tryz.prog 42 i_isPlace_b [.t 2] 1 := Told.of Go.Proofs.Tryz.func42 (by decide +kernel)
theorem fnok_42 : fnOk Go.Proofs.Tryz.prog 42 = true := by decide +kernel
theorem told_43 : Told Go.Proofs.Tryz.prog 43 i_inRange_b [.t 6] 3 := Told.of Go.Proofs.Tryz.func43 (by decide +kernel)
theorem fnok_43 : fnOk Go.Proofs.Tryz.prog 43 = true := by decide +kernel
theorem told_44 : Told Go.Proofs.Tryz.prog 44 i_DiskOk_b [.t 2] 1 := Told.of Go.Proofs.Tryz.func44 (by decide +kernel)
theorem fnok_44 : fnOk Go.Proofs.Tryz.prog 44 = true := by decide +kernel
theorem told_45 : Told Go.Proofs.Tryz.prog 45 i_Shelf_objsOk_b [.t 2] 1 := Told.of Go.Proofs.Tryz.func45 (by decide +kernel)
theorem fnok_45 : fnOk Go.Proofs.Tryz.prog 45 = true := by decide +kernel
theorem told_46 : Told Go.Proofs.Tryz.prog 46 l_eqDisk_b [.t 4] 2 := Told.of Go.Proofs.Tryz.func46 (by decide +kernel)
theorem fnok_46 : fnOk Go.Proofs.Tryz.prog 46 = true := by decide +kernel
theorem told_47 : Told Go.Proofs.Tryz.prog 47 l_eqKeptS_b [.t 4] 2 := Told.of Go.Proofs.Tryz.func47 (by decide +kernel)
theorem fnok_47 : fnOk Go.Proofs.Tryz.prog 47 = true := by decide +kernel
theorem told_48 : Told Go.Proofs.Tryz.prog 48 l_eqBanS_b [.t 4] 2 := Told.of Go.Proofs.Tryz.func48 (by decide +kernel)
theorem fnok_48 : fnOk Go.Proofs.Tryz.prog 48 = true := by decide +kernel
theorem told_54 : Told Go.Proofs.Tryz.prog 54 i_isTime_b [.t 2] 1 := Told.of Go.Proofs.Tryz.func54 (by decide +kernel)
theorem fnok_54 : fnOk Go.Proofs.Tryz.prog 54 = true := by decide +kernel
theorem told_55 : Told Go.Proofs.Tryz.prog 55 i_pathOk_b [.t 2] 1 := Told.of Go.Proofs.Tryz.func55 (by decide +kernel)
theorem fnok_55 : fnOk Go.Proofs.Tryz.prog 55 = true := by decide +kernel
theorem told_56 : Told Go.Proofs.Tryz.prog 56 i_TokenOk_b [.t 2] 1 := Told.of Go.Proofs.Tryz.func56 (by decide +kernel)
theorem fnok_56 : fnOk Go.Proofs.Tryz.prog 56 = true := by decide +kernel
theorem told_57 : Told Go.Proofs.Tryz.prog 57 i_ValueOk_b [.t 2] 1 := Told.of Go.Proofs.Tryz.func57 (by decide +kernel)
theorem fnok_57 : fnOk Go.Proofs.Tryz.prog 57 = true := by decide +kernel
theorem told_67 : Told Go.Proofs.Tryz.prog 67 l_szFieldS_b [.t 4] 2 := Told.of Go.Proofs.Tryz.func67 (by decide +kernel)
theorem fnok_67 : fnOk Go.Proofs.Tryz.prog 67 = true := by decide +kernel
theorem told_68 : Told Go.Proofs.Tryz.prog 68 l_szStringS_b [.t 4] 2 := Told.of Go.Proofs.Tryz.func68 (by decide +kernel)
theorem fnok_68 : fnOk Go.Proofs.Tryz.prog 68 = true := by decide +kernel
theorem told_69 : Told Go.Proofs.Tryz.prog 69 l_szResp_b [.t 4] 2 := Told.of Go.Proofs.Tryz.func69 (by decide +kernel)
theorem fnok_69 : fnOk Go.Proofs.Tryz.prog 69 = true := by decide +kernel
theorem told_75 : Told Go.Proofs.Tryz.prog 75 s_RespOk_b [.t 2] 1 := Told.of Go.Proofs.Tryz.func75 (by decide +kernel)
theorem fnok_75 : fnOk Go.Proofs.Tryz.prog 75 = true := by decide +kernel
theorem told_76 : Told Go.Proofs.Tryz.prog 76 l_toFieldS_b [.t 2] 1 := Told.of Go.Proofs.Tryz.func76 (by decide +kernel)
theorem fnok_76 : fnOk Go.Proofs.Tryz.prog 76 = true := by decide +kernel
theorem told_77 : Told Go.Proofs.Tryz.prog 77 l_toStringS_b [.t 2] 1 := Told.of Go.Proofs.Tryz.func77 (by decide +kernel)
theorem fnok_77 : fnOk Go.Proofs.Tryz.prog 77 = true := by decide +kernel
theorem told_78 : Told Go.Proofs.Tryz.prog 78 l_toResp_b [.c 2 3 true 63] 1 := Told.of Go.Proofs.Tryz.func78 (by decide +kernel)
theorem fnok_78 : fnOk Go.Proofs.Tryz.prog 78 = true := by decide +kernel
theorem told_84 : Told Go.Proofs.Tryz.prog 84 i_RespOk_b [.t 2] 1 := Told.of Go.Proofs.Tryz.func84 (by decide +kernel)
theorem fnok_84 : fnOk Go.Proofs.Tryz.prog 84 = true := by decide +kernel
theorem told_85 : Told Go.Proofs.Tryz.prog 85 l_eqFieldS_b [.t 4] 2 := Told.of Go.Proofs.Tryz.func85 (by decide +kernel)
theorem fnok_85 : fnOk Go.Proofs.Tryz.prog 85 = true := by decide +kernel
theorem told_86 : Told Go.Proofs.Tryz.prog 86 l_eqStringS_b [.t 4] 2 := Told.of Go.Proofs.Tryz.func86 (by decide +kernel)
theorem fnok_86 : fnOk Go.Proofs.Tryz.prog 86 = true := by decide +kernel
theorem told_90 : Told Go.Proofs.Tryz.prog 90 l_szWriteS_b [.t 4] 2 := Told.of Go.Proofs.Tryz.func90 (by decide +kernel)
theorem fnok_90 : fnOk Go.Proofs.Tryz.prog 90 = true := by decide +kernel
theorem told_91 : Told Go.Proofs.Tryz.prog 91 l_szKept_b [.t 4] 2 := Told.of Go.Proofs.Tryz.func91 (by decide +kernel)
theorem fnok_91 : fnOk Go.Proofs.Tryz.prog 91 = true := by decide +kernel
theorem told_92 : Told Go.Proofs.Tryz.prog 92 l_szBan_b [.t 4] 2 := Told.of Go.Proofs.Tryz.func92 (by decide +kernel)
theorem fnok_92 : fnOk Go.Proofs.Tryz.prog 92 = true := by decide +kernel
theorem told_93 : Told Go.Proofs.Tryz.prog 93 s_l3Path_b [.t 2] 1 := Told.of Go.Proofs.Tryz.func93 (by decide +kernel)
theorem fnok_93 : fnOk Go.Proofs.Tryz.prog 93 = true := by decide +kernel
theorem told_94 : Told Go.Proofs.Tryz.prog 94 s_TokenOk_b [.t 2] 1 := Told.of Go.Proofs.Tryz.func94 (by decide +kernel)
theorem fnok_94 : fnOk Go.Proofs.Tryz.prog 94 = true := by decide +kernel
theorem told_95 : Told Go.Proofs.Tryz.prog 95 s_ValueOk_b [.t 2] 1 := Told.of Go.Proofs.Tryz.func95 (by decide +kernel)
theorem fnok_95 : fnOk Go.Proofs.Tryz.prog 95 = true := by decide +kernel
theorem told_96 : Told Go.Proofs.Tryz.prog 96 s_l9Names_b [.t 2] 1 := Told.of Go.Proofs.Tryz.func96 (by decide +kernel)
theorem fnok_96 : fnOk Go.Proofs.Tryz.prog 96 = true := by decide +kernel
theorem told_97 : Told Go.Proofs.Tryz.prog 97 s_l8Texts_b [.t 4] 2 := Told.of Go.Proofs.Tryz.func97 (by decide +kernel)
theorem fnok_97 : fnOk Go.Proofs.Tryz.prog 97 = true := by decide +kernel
theorem told_98 : Told Go.Proofs.Tryz.prog 98 s_VaryOf_b [.t 2] 1 := Told.of Go.Proofs.Tryz.func98 (by decide +kernel)
theorem fnok_98 : fnOk Go.Proofs.Tryz.prog 98 = true := by decide +kernel
theorem told_99 : Told Go.Proofs.Tryz.prog 99 l_toWriteS_b [.t 2] 1 := Told.of Go.Proofs.Tryz.func99 (by decide +kernel)
theorem fnok_99 : fnOk Go.Proofs.Tryz.prog 99 = true := by decide +kernel
theorem told_100 : Told Go.Proofs.Tryz.prog 100 l_toKept_b [.c 2 9 true 84] 1 := Told.of Go.Proofs.Tryz.func100 (by decide +kernel)
theorem fnok_100 : fnOk Go.Proofs.Tryz.prog 100 = true := by decide +kernel
theorem told_101 : Told Go.Proofs.Tryz.prog 101 l_toBan_b [.c 2 4 true 45] 1 := Told.of Go.Proofs.Tryz.func101 (by decide +kernel)
theorem fnok_101 : fnOk Go.Proofs.Tryz.prog 101 = true := by decide +kernel
theorem told_102 : Told Go.Proofs.Tryz.prog 102 i_isCell_b [.t 2] 1 := Told.of Go.Proofs.Tryz.func102 (by decide +kernel)
theorem fnok_102 : fnOk Go.Proofs.Tryz.prog 102 = true := by decide +kernel
theorem told_103 : Told Go.Proofs.Tryz.prog 103 x_slices_ContainsFunc_impl_Kept_impl_Kept_b [.t 4] 2 := Told.of Go.Proofs.Tryz.func103 (by decide +kernel)
theorem fnok_103 : fnOk Go.Proofs.Tryz.prog 103 = true := by decide +kernel
theorem told_104 : Told Go.Proofs.Tryz.prog 104 i_Shelf_objsOk_1_b [.t 3] 2 := Told.of Go.Proofs.Tryz.func104 (by decide +kernel)
theorem fnok_104 : fnOk Go.Proofs.Tryz.prog 104 = true := by decide +kernel
theorem told_105 : Told Go.Proofs.Tryz.prog 105 i_ObjOk_b [.t 2] 1 := Told.of Go.Proofs.Tryz.func105 (by decide +kernel)
theorem fnok_105 : fnOk Go.Proofs.Tryz.prog 105 = true := by decide +kernel
theorem told_106 : Told Go.Proofs.Tryz.prog 106 l_eqWriteS_b [.t 4] 2 := Told.of Go.Proofs.Tryz.func106 (by decide +kernel)
theorem fnok_106 : fnOk Go.Proofs.Tryz.prog 106 = true := by decide +kernel
theorem told_107 : Told Go.Proofs.Tryz.prog 107 l_eqKept_b [.t 4] 2 := Told.of Go.Proofs.Tryz.func107 (by decide +kernel)
theorem fnok_107 : fnOk Go.Proofs.Tryz.prog 107 = true := by decide +kernel
theorem told_108 : Told Go.Proofs.Tryz.prog 108 l_eqBan_b [.t 4] 2 := Told.of Go.Proofs.Tryz.func108 (by decide +kernel)
theorem fnok_108 : fnOk Go.Proofs.Tryz.prog 108 = true := by decide +kernel
theorem told_112 : Told Go.Proofs.Tryz.prog 112 i_areFrom_b [.t 4] 2 := Told.of Go.Proofs.Tryz.func112 (by decide +kernel)
theorem fnok_112 : fnOk Go.Proofs.Tryz.prog 112 = true := by decide +kernel
theorem told_113 : Told Go.Proofs.Tryz.prog 113 i_Trim_b [.t 2] 1 := Told.of Go.Proofs.Tryz.func113 (by decide +kernel)
theorem fnok_113 : fnOk Go.Proofs.Tryz.prog 113 = true := by decide +kernel
theorem told_118 : Told Go.Proofs.Tryz.prog 118 l_szField_b [.t 4] 2 := Told.of Go.Proofs.Tryz.func118 (by decide +kernel)
theorem fnok_118 : fnOk Go.Proofs.Tryz.prog 118 = true := by decide +kernel
theorem told_120 : Told Go.Proofs.Tryz.prog 120 s_Get_b [.t 4, .t 5] 2 := Told.of Go.Proofs.Tryz.func120 (by decide +kernel)
theorem fnok_120 : fnOk Go.Proofs.Tryz.prog 120 = true := by decide +kernel
theorem told_121 : Told Go.Proofs.Tryz.prog 121 s_l2At_b [.t 4] 2 := Told.of Go.Proofs.Tryz.func121 (by decide +kernel)
theorem fnok_121 : fnOk Go.Proofs.Tryz.prog 121 = true := by decide +kernel
theorem told_124 : Told Go.Proofs.Tryz.prog 124 s_FieldsOk_b [.t 2] 1 := Told.of Go.Proofs.Tryz.func124 (by decide +kernel)
theorem fnok_124 : fnOk Go.Proofs.Tryz.prog 124 = true := by decide +kernel
theorem told_125 : Told Go.Proofs.Tryz.prog 125 l_toField_b [.c 2 2 true 161] 1 := Told.of Go.Proofs.Tryz.func125 (by decide +kernel)
theorem fnok_125 : fnOk Go.Proofs.Tryz.prog 125 = true := by decide +kernel
theorem told_127 : Told Go.Proofs.Tryz.prog 127 i_Get_b [.t 4, .t 5] 2 := Told.of Go.Proofs.Tryz.func127 (by decide +kernel)
theorem fnok_127 : fnOk Go.Proofs.Tryz.prog 127 = true := by decide +kernel
theorem told_128 : Told Go.Proofs.Tryz.prog 128 i_fieldAt_b [.t 4] 2 := Told.of Go.Proofs.Tryz.func128 (by decide +kernel)
theorem fnok_128 : fnOk Go.Proofs.Tryz.prog 128 = true := by decide +kernel
theorem told_131 : Told Go.Proofs.Tryz.prog 131 i_FieldsOk_b [.t 2] 1 := Told.of Go.Proofs.Tryz.func131 (by decide +kernel)
theorem fnok_131 : fnOk Go.Proofs.Tryz.prog 131 = true := by decide +kernel
theorem told_132 : Told Go.Proofs.Tryz.prog 132 l_eqField_b [.t 4] 2 := Told.of Go.Proofs.Tryz.func132 (by decide +kernel)
theorem fnok_132 : fnOk Go.Proofs.Tryz.prog 132 = true := by decide +kernel
theorem told_134 : Told Go.Proofs.Tryz.prog 134 l_szWrite_b [.t 4] 2 := Told.of Go.Proofs.Tryz.func134 (by decide +kernel)
theorem fnok_134 : fnOk Go.Proofs.Tryz.prog 134 = true := by decide +kernel
theorem told_135 : Told Go.Proofs.Tryz.prog 135 s_Trim_b [.t 2] 1 := Told.of Go.Proofs.Tryz.func135 (by decide +kernel)
theorem fnok_135 : fnOk Go.Proofs.Tryz.prog 135 = true := by decide +kernel
theorem told_136 : Told Go.Proofs.Tryz.prog 136 s_Split_b [.t 2] 1 := Told.of Go.Proofs.Tryz.func136 (by decide +kernel)
theorem fnok_136 : fnOk Go.Proofs.Tryz.prog 136 = true := by decide +kernel
theorem told_137 : Told Go.Proofs.Tryz.prog 137 s_Lower_b [.t 2] 1 := Told.of Go.Proofs.Tryz.func137 (by decide +kernel)
theorem fnok_137 : fnOk Go.Proofs.Tryz.prog 137 = true := by decide +kernel
theorem told_138 : Told Go.Proofs.Tryz.prog 138 l_toWrite_b [.c 2 2 true 131] 1 := Told.of Go.Proofs.Tryz.func138 (by decide +kernel)
theorem fnok_138 : fnOk Go.Proofs.Tryz.prog 138 = true := by decide +kernel
theorem told_139 : Told Go.Proofs.Tryz.prog 139 x_slices_IndexFunc_impl_Kept_impl_Kept_b [.t 4] 2 := Told.of Go.Proofs.Tryz.func139 (by decide +kernel)
theorem fnok_139 : fnOk Go.Proofs.Tryz.prog 139 = true := by decide +kernel
theorem told_140 : Told Go.Proofs.Tryz.prog 140 i_namesOk_b [.t 2] 1 := Told.of Go.Proofs.Tryz.func140 (by decide +kernel)
theorem fnok_140 : fnOk Go.Proofs.Tryz.prog 140 = true := by decide +kernel
theorem told_141 : Told Go.Proofs.Tryz.prog 141 x_slices_Equal_string_string_b [.t 4] 2 := Told.of Go.Proofs.Tryz.func141 (by decide +kernel)
theorem fnok_141 : fnOk Go.Proofs.Tryz.prog 141 = true := by decide +kernel
theorem told_142 : Told Go.Proofs.Tryz.prog 142 i_VaryOf_b [.t 2] 1 := Told.of Go.Proofs.Tryz.func142 (by decide +kernel)
theorem fnok_142 : fnOk Go.Proofs.Tryz.prog 142 = true := by decide +kernel
theorem told_143 : Told Go.Proofs.Tryz.prog 143 l_eqWrite_b [.t 4] 2 := Told.of Go.Proofs.Tryz.func143 (by decide +kernel)
theorem fnok_143 : fnOk Go.Proofs.Tryz.prog 143 = true := by decide +kernel
theorem told_156 : Told Go.Proofs.Tryz.prog 156 x_slices_IndexFunc_impl_Field_impl_Field_b [.t 4] 2 := Told.of Go.Proofs.Tryz.func156 (by decide +kernel)
theorem fnok_156 : fnOk Go.Proofs.Tryz.prog 156 = true := by decide +kernel
theorem told_157 : Told Go.Proofs.Tryz.prog 157 i_fieldAt_1_b [.t 3] 2 := Told.of Go.Proofs.Tryz.func157 (by decide +kernel)
theorem fnok_157 : fnOk Go.Proofs.Tryz.prog 157 = true := by decide +kernel
theorem told_159 : Told Go.Proofs.Tryz.prog 159 i_Split_b [.t 2] 1 := Told.of Go.Proofs.Tryz.func159 (by decide +kernel)
theorem fnok_159 : fnOk Go.Proofs.Tryz.prog 159 = true := by decide +kernel
theorem told_160 : Told Go.Proofs.Tryz.prog 160 i_Lower_b [.t 2] 1 := Told.of Go.Proofs.Tryz.func160 (by decide +kernel)
theorem fnok_160 : fnOk Go.Proofs.Tryz.prog 160 = true := by decide +kernel
theorem TT_ok : TT.Ok Go.Proofs.Tryz.prog := by
  refine ⟨fun f F h => ?_, fun f F h => ?_⟩
  · unfold TT at h
    split at h
    · cases h; exact told_3
    · cases h; exact told_6
    · cases h; exact told_7
    · cases h; exact told_8
    · cases h; exact told_9
    · cases h; exact told_10
    · cases h; exact told_15
    · cases h; exact told_20
    · cases h; exact told_23
    · cases h; exact told_25
    · cases h; exact told_27
    · cases h; exact told_32
    · cases h; exact told_33
    · cases h; exact told_34
    · cases h; exact told_35
    · cases h; exact told_36
    · cases h; exact told_37
    · cases h; exact told_38
    · cases h; exact told_39
    · cases h; exact told_40
    · cases h; exact told_41
    · cases h; exact told_42
    · cases h; exact told_43
    · cases h; exact told_44
    · cases h; exact told_45
    · cases h; exact told_46
    · cases h; exact told_47
    · cases h; exact told_48
    · cases h; exact told_54
    · cases h; exact told_55
    · cases h; exact told_56
    · cases h; exact told_57
    · cases h; exact told_67
    · cases h; exact told_68
    · cases h; exact told_69
    · cases h; exact told_75
    · cases h; exact told_76
    · cases h; exact told_77
    · cases h; exact told_78
    · cases h; exact told_84
    · cases h; exact told_85
    · cases h; exact told_86
    · cases h; exact told_90
    · cases h; exact told_91
    · cases h; exact told_92
    · cases h; exact told_93
    · cases h; exact told_94
    · cases h; exact told_95
    · cases h; exact told_96
    · cases h; exact told_97
    · cases h; exact told_98
    · cases h; exact told_99
    · cases h; exact told_100
    · cases h; exact told_101
    · cases h; exact told_102
    · cases h; exact told_103
    · cases h; exact told_104
    · cases h; exact told_105
    · cases h; exact told_106
    · cases h; exact told_107
    · cases h; exact told_108
    · cases h; exact told_112
    · cases h; exact told_113
    · cases h; exact told_118
    · cases h; exact told_120
    · cases h; exact told_121
    · cases h; exact told_124
    · cases h; exact told_125
    · cases h; exact told_127
    · cases h; exact told_128
    · cases h; exact told_131
    · cases h; exact told_132
    · cases h; exact told_134
    · cases h; exact told_135
    · cases h; exact told_136
    · cases h; exact told_137
    · cases h; exact told_138
    · cases h; exact told_139
    · cases h; exact told_140
    · cases h; exact told_141
    · cases h; exact told_142
    · cases h; exact told_143
    · cases h; exact told_156
    · cases h; exact told_157
    · cases h; exact told_159
    · cases h; exact told_160
    · cases h
  · unfold TT at h
    split at h
    · cases h; exact fnok_3
    · cases h; exact fnok_6
    · cases h; exact fnok_7
    · cases h; exact fnok_8
    · cases h; exact fnok_9
    · cases h; exact fnok_10
    · cases h; exact fnok_15
    · cases h; exact fnok_20
    · cases h; exact fnok_23
    · cases h; exact fnok_25
    · cases h; exact fnok_27
    · cases h; exact fnok_32
    · cases h; exact fnok_33
    · cases h; exact fnok_34
    · cases h; exact fnok_35
    · cases h; exact fnok_36
    · cases h; exact fnok_37
    · cases h; exact fnok_38
    · cases h; exact fnok_39
    · cases h; exact fnok_40
    · cases h; exact fnok_41
    · cases h; exact fnok_42
    · cases h; exact fnok_43
    · cases h; exact fnok_44
    · cases h; exact fnok_45
    · cases h; exact fnok_46
    · cases h; exact fnok_47
    · cases h; exact fnok_48
    · cases h; exact fnok_54
    · cases h; exact fnok_55
    · cases h; exact fnok_56
    · cases h; exact fnok_57
    · cases h; exact fnok_67
    · cases h; exact fnok_68
    · cases h; exact fnok_69
    · cases h; exact fnok_75
    · cases h; exact fnok_76
    · cases h; exact fnok_77
    · cases h; exact fnok_78
    · cases h; exact fnok_84
    · cases h; exact fnok_85
    · cases h; exact fnok_86
    · cases h; exact fnok_90
    · cases h; exact fnok_91
    · cases h; exact fnok_92
    · cases h; exact fnok_93
    · cases h; exact fnok_94
    · cases h; exact fnok_95
    · cases h; exact fnok_96
    · cases h; exact fnok_97
    · cases h; exact fnok_98
    · cases h; exact fnok_99
    · cases h; exact fnok_100
    · cases h; exact fnok_101
    · cases h; exact fnok_102
    · cases h; exact fnok_103
    · cases h; exact fnok_104
    · cases h; exact fnok_105
    · cases h; exact fnok_106
    · cases h; exact fnok_107
    · cases h; exact fnok_108
    · cases h; exact fnok_112
    · cases h; exact fnok_113
    · cases h; exact fnok_118
    · cases h; exact fnok_120
    · cases h; exact fnok_121
    · cases h; exact fnok_124
    · cases h; exact fnok_125
    · cases h; exact fnok_127
    · cases h; exact fnok_128
    · cases h; exact fnok_131
    · cases h; exact fnok_132
    · cases h; exact fnok_134
    · cases h; exact fnok_135
    · cases h; exact fnok_136
    · cases h; exact fnok_137
    · cases h; exact fnok_138
    · cases h; exact fnok_139
    · cases h; exact fnok_140
    · cases h; exact fnok_141
    · cases h; exact fnok_142
    · cases h; exact fnok_143
    · cases h; exact fnok_156
    · cases h; exact fnok_157
    · cases h; exact fnok_159
    · cases h; exact fnok_160
    · cases h
theorem LI_sound (hmax : ∃ m, Bs.W0.cell? ⟨0, 0, none⟩ = some (.int .i64 m)) : LI.Sound Go.Proofs.Tryz.prog := (orO_sound (splitO_sound (g1 := 0) (t9 := _) hmax fun s sep m w h1 h2 h3 => Go.Proofs.Tryz.strings_Split s sep m w h1 h2 h3) (trimO_sound fun s c h w hs => Go.Proofs.Tryz.strings_Trim_one s c h w hs))
end M
