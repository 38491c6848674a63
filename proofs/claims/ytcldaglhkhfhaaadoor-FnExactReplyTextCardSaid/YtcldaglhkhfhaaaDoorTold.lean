/- Each function of the table is the program's, and the library is as it is said to be; no conditions. -/
import Derived.Test.YtcldaglhkhfhaaaDoorProg
import Derived.Test.YtcldaglhkhfhaaaDoorLay
import Derived.Test.YtcldaglhkhfhaaaDoorTab
import Derived.Test.YtcldaglhkhfhaaaDoorMd
set_option linter.unusedSectionVars false
set_option linter.unusedVariables false
set_option linter.unusedSectionVars false
set_option maxRecDepth 100000
namespace M
open Go
variable [Bs]
theorem told_5 : Told Go.Proofs.Tryd.prog 5 l_FnExactReplyText_b [.t 2] 1 := Told.of Go.Proofs.Tryd.func5 (by decide +kernel)
theorem fnok_5 : fnOk Go.Proofs.Tryd.prog 5 = true := by decide +kernel
theorem told_20 : Told Go.Proofs.Tryd.prog 20 l_szReply_b [.t 4] 2 := Told.of Go.Proofs.Tryd.func20 (by decide +kernel)
theorem fnok_20 : fnOk Go.Proofs.Tryd.prog 20 = true := by decide +kernel
theorem told_21 : Told Go.Proofs.Tryd.prog 21 s_ReplyText_b [.t 2] 1 := Told.of Go.Proofs.Tryd.func21 (by decide +kernel)
theorem fnok_21 : fnOk Go.Proofs.Tryd.prog 21 = true := by decide +kernel
theorem told_22 : Told Go.Proofs.Tryd.prog 22 l_toReply_b [.c 2 18 true 54] 1 := Told.of Go.Proofs.Tryd.func22 (by decide +kernel)
theorem fnok_22 : fnOk Go.Proofs.Tryd.prog 22 = true := by decide +kernel
theorem told_23 : Told Go.Proofs.Tryd.prog 23 i_ReplyText_b [.t 2] 1 := Told.of Go.Proofs.Tryd.func23 (by decide +kernel)
theorem fnok_23 : fnOk Go.Proofs.Tryd.prog 23 = true := by decide +kernel
theorem told_24 : Told Go.Proofs.Tryd.prog 24 l_eqReply_b [.t 4] 2 := Told.of Go.Proofs.Tryd.func24 (by decide +kernel)
theorem fnok_24 : fnOk Go.Proofs.Tryd.prog 24 = true := by decide +kernel
theorem told_52 : Told Go.Proofs.Tryd.prog 52 i_inRange_b [.t 6] 3 := Told.of Go.Proofs.Tryd.func52 (by decide +kernel)
theorem fnok_52 : fnOk Go.Proofs.Tryd.prog 52 = true := by decide +kernel
theorem told_54 : Told Go.Proofs.Tryd.prog 54 s_l1In_b [.t 6] 3 := Told.of Go.Proofs.Tryd.func54 (by decide +kernel)
theorem fnok_54 : fnOk Go.Proofs.Tryd.prog 54 = true := by decide +kernel
theorem told_56 : Told Go.Proofs.Tryd.prog 56 l_szReq_b [.t 4] 2 := Told.of Go.Proofs.Tryd.func56 (by decide +kernel)
theorem fnok_56 : fnOk Go.Proofs.Tryd.prog 56 = true := by decide +kernel
theorem told_57 : Told Go.Proofs.Tryd.prog 57 l_szResp_b [.t 4] 2 := Told.of Go.Proofs.Tryd.func57 (by decide +kernel)
theorem fnok_57 : fnOk Go.Proofs.Tryd.prog 57 = true := by decide +kernel
theorem told_58 : Told Go.Proofs.Tryd.prog 58 l_szObj_b [.t 4] 2 := Told.of Go.Proofs.Tryd.func58 (by decide +kernel)
theorem fnok_58 : fnOk Go.Proofs.Tryd.prog 58 = true := by decide +kernel
theorem told_59 : Told Go.Proofs.Tryd.prog 59 s_KindText_b [.t 2] 1 := Told.of Go.Proofs.Tryd.func59 (by decide +kernel)
theorem fnok_59 : fnOk Go.Proofs.Tryd.prog 59 = true := by decide +kernel
theorem told_60 : Told Go.Proofs.Tryd.prog 60 s_NumText_b [.t 2] 1 := Told.of Go.Proofs.Tryd.func60 (by decide +kernel)
theorem fnok_60 : fnOk Go.Proofs.Tryd.prog 60 = true := by decide +kernel
theorem told_61 : Told Go.Proofs.Tryd.prog 61 s_Get_b [.t 4, .t 5] 2 := Told.of Go.Proofs.Tryd.func61 (by decide +kernel)
theorem fnok_61 : fnOk Go.Proofs.Tryd.prog 61 = true := by decide +kernel
theorem told_62 : Told Go.Proofs.Tryd.prog 62 l_toReq_b [.c 2 4 true 48] 1 := Told.of Go.Proofs.Tryd.func62 (by decide +kernel)
theorem fnok_62 : fnOk Go.Proofs.Tryd.prog 62 = true := by decide +kernel
theorem told_63 : Told Go.Proofs.Tryd.prog 63 l_toResp_b [.c 2 3 true 50] 1 := Told.of Go.Proofs.Tryd.func63 (by decide +kernel)
theorem fnok_63 : fnOk Go.Proofs.Tryd.prog 63 = true := by decide +kernel
theorem told_64 : Told Go.Proofs.Tryd.prog 64 l_toObj_b [.c 2 7 true 52] 1 := Told.of Go.Proofs.Tryd.func64 (by decide +kernel)
theorem fnok_64 : fnOk Go.Proofs.Tryd.prog 64 = true := by decide +kernel
theorem told_65 : Told Go.Proofs.Tryd.prog 65 i_KindText_b [.t 2] 1 := Told.of Go.Proofs.Tryd.func65 (by decide +kernel)
theorem fnok_65 : fnOk Go.Proofs.Tryd.prog 65 = true := by decide +kernel
theorem told_66 : Told Go.Proofs.Tryd.prog 66 i_NumText_b [.t 2] 1 := Told.of Go.Proofs.Tryd.func66 (by decide +kernel)
theorem fnok_66 : fnOk Go.Proofs.Tryd.prog 66 = true := by decide +kernel
theorem told_67 : Told Go.Proofs.Tryd.prog 67 i_Get_b [.t 4, .t 5] 2 := Told.of Go.Proofs.Tryd.func67 (by decide +kernel)
theorem fnok_67 : fnOk Go.Proofs.Tryd.prog 67 = true := by decide +kernel
theorem told_68 : Told Go.Proofs.Tryd.prog 68 l_eqReq_b [.t 4] 2 := Told.of Go.Proofs.Tryd.func68 (by decide +kernel)
theorem fnok_68 : fnOk Go.Proofs.Tryd.prog 68 = true := by decide +kernel
theorem told_69 : Told Go.Proofs.Tryd.prog 69 l_eqResp_b [.t 4] 2 := Told.of Go.Proofs.Tryd.func69 (by decide +kernel)
theorem fnok_69 : fnOk Go.Proofs.Tryd.prog 69 = true := by decide +kernel
theorem told_70 : Told Go.Proofs.Tryd.prog 70 l_eqObj_b [.t 4] 2 := Told.of Go.Proofs.Tryd.func70 (by decide +kernel)
theorem fnok_70 : fnOk Go.Proofs.Tryd.prog 70 = true := by decide +kernel
theorem told_91 : Told Go.Proofs.Tryd.prog 91 l_szFieldS_b [.t 4] 2 := Told.of Go.Proofs.Tryd.func91 (by decide +kernel)
theorem fnok_91 : fnOk Go.Proofs.Tryd.prog 91 = true := by decide +kernel
theorem told_92 : Told Go.Proofs.Tryd.prog 92 l_szStringS_b [.t 4] 2 := Told.of Go.Proofs.Tryd.func92 (by decide +kernel)
theorem fnok_92 : fnOk Go.Proofs.Tryd.prog 92 = true := by decide +kernel
theorem told_93 : Told Go.Proofs.Tryd.prog 93 s_l2At_b [.t 4] 2 := Told.of Go.Proofs.Tryd.func93 (by decide +kernel)
theorem fnok_93 : fnOk Go.Proofs.Tryd.prog 93 = true := by decide +kernel
theorem told_94 : Told Go.Proofs.Tryd.prog 94 l_toFieldS_b [.t 2] 1 := Told.of Go.Proofs.Tryd.func94 (by decide +kernel)
theorem fnok_94 : fnOk Go.Proofs.Tryd.prog 94 = true := by decide +kernel
theorem told_95 : Told Go.Proofs.Tryd.prog 95 l_toStringS_b [.t 2] 1 := Told.of Go.Proofs.Tryd.func95 (by decide +kernel)
theorem fnok_95 : fnOk Go.Proofs.Tryd.prog 95 = true := by decide +kernel
theorem told_96 : Told Go.Proofs.Tryd.prog 96 i_fieldAt_b [.t 4] 2 := Told.of Go.Proofs.Tryd.func96 (by decide +kernel)
theorem fnok_96 : fnOk Go.Proofs.Tryd.prog 96 = true := by decide +kernel
theorem told_97 : Told Go.Proofs.Tryd.prog 97 l_eqFieldS_b [.t 4] 2 := Told.of Go.Proofs.Tryd.func97 (by decide +kernel)
theorem fnok_97 : fnOk Go.Proofs.Tryd.prog 97 = true := by decide +kernel
theorem told_98 : Told Go.Proofs.Tryd.prog 98 l_eqStringS_b [.t 4] 2 := Told.of Go.Proofs.Tryd.func98 (by decide +kernel)
theorem fnok_98 : fnOk Go.Proofs.Tryd.prog 98 = true := by decide +kernel
theorem told_112 : Told Go.Proofs.Tryd.prog 112 l_szField_b [.t 4] 2 := Told.of Go.Proofs.Tryd.func112 (by decide +kernel)
theorem fnok_112 : fnOk Go.Proofs.Tryd.prog 112 = true := by decide +kernel
theorem told_113 : Told Go.Proofs.Tryd.prog 113 l_toField_b [.c 2 2 true 130] 1 := Told.of Go.Proofs.Tryd.func113 (by decide +kernel)
theorem fnok_113 : fnOk Go.Proofs.Tryd.prog 113 = true := by decide +kernel
theorem told_114 : Told Go.Proofs.Tryd.prog 114 x_slices_IndexFunc_impl_Field_impl_Field_b [.t 4] 2 := Told.of Go.Proofs.Tryd.func114 (by decide +kernel)
theorem fnok_114 : fnOk Go.Proofs.Tryd.prog 114 = true := by decide +kernel
theorem told_115 : Told Go.Proofs.Tryd.prog 115 i_fieldAt_1_b [.t 3] 2 := Told.of Go.Proofs.Tryd.func115 (by decide +kernel)
theorem fnok_115 : fnOk Go.Proofs.Tryd.prog 115 = true := by decide +kernel
theorem told_116 : Told Go.Proofs.Tryd.prog 116 l_eqField_b [.t 4] 2 := Told.of Go.Proofs.Tryd.func116 (by decide +kernel)
theorem fnok_116 : fnOk Go.Proofs.Tryd.prog 116 = true := by decide +kernel
theorem TT_ok : TT.Ok Go.Proofs.Tryd.prog := by
  refine ⟨fun f F h => ?_, fun f F h => ?_⟩
  · unfold TT at h
    split at h
    · cases h; exact told_5
    · cases h; exact told_20
    · cases h; exact told_21
    · cases h; exact told_22
    · cases h; exact told_23
    · cases h; exact told_24
    · cases h; exact told_52
    · cases h; exact told_54
    · cases h; exact told_56
    · cases h; exact told_57
    · cases h; exact told_58
    · cases h; exact told_59
    · cases h; exact told_60
    · cases h; exact told_61
    · cases h; exact told_62
    · cases h; exact told_63
    · cases h; exact told_64
    · cases h; exact told_65
    · cases h; exact told_66
    · cases h; exact told_67
    · cases h; exact told_68
    · cases h; exact told_69
    · cases h; exact told_70
    · cases h; exact told_91
    · cases h; exact told_92
    · cases h; exact told_93
    · cases h; exact told_94
    · cases h; exact told_95
    · cases h; exact told_96
    · cases h; exact told_97
    · cases h; exact told_98
    · cases h; exact told_112
    · cases h; exact told_113
    · cases h; exact told_114
    · cases h; exact told_115
    · cases h; exact told_116
    · cases h
  · unfold TT at h
    split at h
    · cases h; exact fnok_5
    · cases h; exact fnok_20
    · cases h; exact fnok_21
    · cases h; exact fnok_22
    · cases h; exact fnok_23
    · cases h; exact fnok_24
    · cases h; exact fnok_52
    · cases h; exact fnok_54
    · cases h; exact fnok_56
    · cases h; exact fnok_57
    · cases h; exact fnok_58
    · cases h; exact fnok_59
    · cases h; exact fnok_60
    · cases h; exact fnok_61
    · cases h; exact fnok_62
    · cases h; exact fnok_63
    · cases h; exact fnok_64
    · cases h; exact fnok_65
    · cases h; exact fnok_66
    · cases h; exact fnok_67
    · cases h; exact fnok_68
    · cases h; exact fnok_69
    · cases h; exact fnok_70
    · cases h; exact fnok_91
    · cases h; exact fnok_92
    · cases h; exact fnok_93
    · cases h; exact fnok_94
    · cases h; exact fnok_95
    · cases h; exact fnok_96
    · cases h; exact fnok_97
    · cases h; exact fnok_98
    · cases h; exact fnok_112
    · cases h; exact fnok_113
    · cases h; exact fnok_114
    · cases h; exact fnok_115
    · cases h; exact fnok_116
    · cases h
theorem LI_sound (htab : Lib.TabIs Go.Proofs.Tryd.prog Bs.W0 "internal/strconv.uint64pow10" .u64 Lib.pow10Tab) : LI.Sound Go.Proofs.Tryd.prog := (itoaO_sound htab fun n h0 h1 w ht => Go.Proofs.Tryd.strconv_Itoa n h0 h1 w ht)
end M
