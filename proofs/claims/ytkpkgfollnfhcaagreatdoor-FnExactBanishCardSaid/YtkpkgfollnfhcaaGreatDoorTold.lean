/- Each function of the table is the program's, and the library is as it is said to be; no conditions. -/
import Derived.Test.YtkpkgfollnfhcaaGreatDoorProg
import Derived.Test.YtkpkgfollnfhcaaGreatDoorLay
import Derived.Test.YtkpkgfollnfhcaaGreatDoorTab
import Derived.Test.YtkpkgfollnfhcaaGreatDoorMc
set_option linter.unusedSectionVars false
set_option linter.unusedVariables false
set_option linter.unusedSimpArgs false
set_option maxRecDepth 100000
namespace M
open Go
variable [Bs]
theorem Us : Told Go.Proofs.Tryz.prog 7 oM [.t 4] 2:=Told.of Go.Proofs.Tryz.func7 (by decide +kernel)
theorem NT : av Go.Proofs.Tryz.prog 7 = true:=by decide +kernel
theorem S5 : Told Go.Proofs.Tryz.prog 18 nx [.t 4] 2:=Told.of Go.Proofs.Tryz.func18 (by decide +kernel)
theorem Mz : av Go.Proofs.Tryz.prog 18 = true:=by decide +kernel
theorem Tv : Told Go.Proofs.Tryz.prog 21 wX [.c 2 6 true 43] 1:=Told.of Go.Proofs.Tryz.func21 (by decide +kernel)
theorem MY : av Go.Proofs.Tryz.prog 21 = true:=by decide +kernel
theorem TF : Told Go.Proofs.Tryz.prog 24 kD [.t 4] 2:=Told.of Go.Proofs.Tryz.func24 (by decide +kernel)
theorem M6 : av Go.Proofs.Tryz.prog 24 = true:=by decide +kernel
theorem TI : Told Go.Proofs.Tryz.prog 25 kE [.t 4] 2:=Told.of Go.Proofs.Tryz.func25 (by decide +kernel)
theorem M9 : av Go.Proofs.Tryz.prog 25 = true:=by decide +kernel
theorem TY : Told Go.Proofs.Tryz.prog 27 wH [.t 4] 2:=Told.of Go.Proofs.Tryz.func27 (by decide +kernel)
theorem Nr : av Go.Proofs.Tryz.prog 27 = true:=by decide +kernel
theorem Uc : Told Go.Proofs.Tryz.prog 33 oR [.t 4] 2:=Told.of Go.Proofs.Tryz.func33 (by decide +kernel)
theorem NC : av Go.Proofs.Tryz.prog 33 = true:=by decide +kernel
theorem Ud : Told Go.Proofs.Tryz.prog 34 l7 [.c 4 6 true 43,.t 5] 2:=Told.of Go.Proofs.Tryz.func34 (by decide +kernel)
theorem ND : av Go.Proofs.Tryz.prog 34 = true:=by decide +kernel
theorem Ue : Told Go.Proofs.Tryz.prog 35 wO [.c 2 4 true 83] 1:=Told.of Go.Proofs.Tryz.func35 (by decide +kernel)
theorem NF : av Go.Proofs.Tryz.prog 35 = true:=by decide +kernel
theorem Uf : Told Go.Proofs.Tryz.prog 36 rE [.c 4 6 true 43,.t 5] 2:=Told.of Go.Proofs.Tryz.func36 (by decide +kernel)
theorem NG : av Go.Proofs.Tryz.prog 36 = true:=by decide +kernel
theorem Ug : Told Go.Proofs.Tryz.prog 37 wA [.t 4] 2:=Told.of Go.Proofs.Tryz.func37 (by decide +kernel)
theorem NH : av Go.Proofs.Tryz.prog 37 = true:=by decide +kernel
theorem Uh : Told Go.Proofs.Tryz.prog 38 lX [.t 4] 2:=Told.of Go.Proofs.Tryz.func38 (by decide +kernel)
theorem NI : av Go.Proofs.Tryz.prog 38 = true:=by decide +kernel
theorem Ui : Told Go.Proofs.Tryz.prog 40 wV [.c 2 7 true 61] 1:=Told.of Go.Proofs.Tryz.func40 (by decide +kernel)
theorem NJ : av Go.Proofs.Tryz.prog 40 = true:=by decide +kernel
theorem Uj : Told Go.Proofs.Tryz.prog 44 oS [.t 4] 2:=Told.of Go.Proofs.Tryz.func44 (by decide +kernel)
theorem NK : av Go.Proofs.Tryz.prog 44 = true:=by decide +kernel
theorem Uk : Told Go.Proofs.Tryz.prog 46 wP [.c 2 2 true 39] 1:=Told.of Go.Proofs.Tryz.func46 (by decide +kernel)
theorem NL : av Go.Proofs.Tryz.prog 46 = true:=by decide +kernel
theorem Ul : Told Go.Proofs.Tryz.prog 48 oN [.t 4] 2:=Told.of Go.Proofs.Tryz.func48 (by decide +kernel)
theorem NM : av Go.Proofs.Tryz.prog 48 = true:=by decide +kernel
theorem Um : Told Go.Proofs.Tryz.prog 49 wE [.t 4] 2:=Told.of Go.Proofs.Tryz.func49 (by decide +kernel)
theorem NN : av Go.Proofs.Tryz.prog 49 = true:=by decide +kernel
theorem Un : Told Go.Proofs.Tryz.prog 56 xu [.t 4] 2:=Told.of Go.Proofs.Tryz.func56 (by decide +kernel)
theorem NO : av Go.Proofs.Tryz.prog 56 = true:=by decide +kernel
theorem Uo : Told Go.Proofs.Tryz.prog 61 vB [.t 4] 2:=Told.of Go.Proofs.Tryz.func61 (by decide +kernel)
theorem NP : av Go.Proofs.Tryz.prog 61 = true:=by decide +kernel
theorem Up : Told Go.Proofs.Tryz.prog 67 oV [.t 4] 2:=Told.of Go.Proofs.Tryz.func67 (by decide +kernel)
theorem NQ : av Go.Proofs.Tryz.prog 67 = true:=by decide +kernel
theorem Uq : Told Go.Proofs.Tryz.prog 68 oQ [.t 4] 2:=Told.of Go.Proofs.Tryz.func68 (by decide +kernel)
theorem NR : av Go.Proofs.Tryz.prog 68 = true:=by decide +kernel
theorem Ur : Told Go.Proofs.Tryz.prog 69 oT [.t 4] 2:=Told.of Go.Proofs.Tryz.func69 (by decide +kernel)
theorem NS : av Go.Proofs.Tryz.prog 69 = true:=by decide +kernel
theorem Ut : Told Go.Proofs.Tryz.prog 73 wT [.t 2] 1:=Told.of Go.Proofs.Tryz.func73 (by decide +kernel)
theorem NU : av Go.Proofs.Tryz.prog 73 = true:=by decide +kernel
theorem Uu : Told Go.Proofs.Tryz.prog 74 wN [.t 2] 1:=Told.of Go.Proofs.Tryz.func74 (by decide +kernel)
theorem NV : av Go.Proofs.Tryz.prog 74 = true:=by decide +kernel
theorem Uv : Told Go.Proofs.Tryz.prog 75 wQ [.t 2] 1:=Told.of Go.Proofs.Tryz.func75 (by decide +kernel)
theorem NW : av Go.Proofs.Tryz.prog 75 = true:=by decide +kernel
theorem Uw : Told Go.Proofs.Tryz.prog 77 wm [.t 4] 2:=Told.of Go.Proofs.Tryz.func77 (by decide +kernel)
theorem NX : av Go.Proofs.Tryz.prog 77 = true:=by decide +kernel
theorem Ux : Told Go.Proofs.Tryz.prog 78 nw [.t 4] 2:=Told.of Go.Proofs.Tryz.func78 (by decide +kernel)
theorem NY : av Go.Proofs.Tryz.prog 78 = true:=by decide +kernel
theorem Uy : Told Go.Proofs.Tryz.prog 79 wk [.t 4] 2:=Told.of Go.Proofs.Tryz.func79 (by decide +kernel)
theorem NZ : av Go.Proofs.Tryz.prog 79 = true:=by decide +kernel
theorem Uz : Told Go.Proofs.Tryz.prog 80 wh [.t 4] 2:=Told.of Go.Proofs.Tryz.func80 (by decide +kernel)
theorem N0 : av Go.Proofs.Tryz.prog 80 = true:=by decide +kernel
theorem UA : Told Go.Proofs.Tryz.prog 81 wj [.t 4] 2:=Told.of Go.Proofs.Tryz.func81 (by decide +kernel)
theorem N1 : av Go.Proofs.Tryz.prog 81 = true:=by decide +kernel
theorem UB : Told Go.Proofs.Tryz.prog 82 wG [.t 4] 2:=Told.of Go.Proofs.Tryz.func82 (by decide +kernel)
theorem N2 : av Go.Proofs.Tryz.prog 82 = true:=by decide +kernel
theorem UC : Told Go.Proofs.Tryz.prog 83 wD [.t 4] 2:=Told.of Go.Proofs.Tryz.func83 (by decide +kernel)
theorem N3 : av Go.Proofs.Tryz.prog 83 = true:=by decide +kernel
theorem UD : Told Go.Proofs.Tryz.prog 84 wF [.t 4] 2:=Told.of Go.Proofs.Tryz.func84 (by decide +kernel)
theorem N4 : av Go.Proofs.Tryz.prog 84 = true:=by decide +kernel
theorem UE : Told Go.Proofs.Tryz.prog 85 wI [.t 4] 2:=Told.of Go.Proofs.Tryz.func85 (by decide +kernel)
theorem N5 : av Go.Proofs.Tryz.prog 85 = true:=by decide +kernel
theorem UF : Told Go.Proofs.Tryz.prog 87 wB [.t 4] 2:=Told.of Go.Proofs.Tryz.func87 (by decide +kernel)
theorem N6 : av Go.Proofs.Tryz.prog 87 = true:=by decide +kernel
theorem UG : Told Go.Proofs.Tryz.prog 89 jS [.t 2] 1:=Told.of Go.Proofs.Tryz.func89 (by decide +kernel)
theorem N7 : av Go.Proofs.Tryz.prog 89 = true:=by decide +kernel
theorem UH : Told Go.Proofs.Tryz.prog 91 xE [.c 2 7 true 61] 1:=Told.of Go.Proofs.Tryz.func91 (by decide +kernel)
theorem N8 : av Go.Proofs.Tryz.prog 91 = true:=by decide +kernel
theorem UI : Told Go.Proofs.Tryz.prog 92 iX [.t 2] 1:=Told.of Go.Proofs.Tryz.func92 (by decide +kernel)
theorem N9 : av Go.Proofs.Tryz.prog 92 = true:=by decide +kernel
theorem UJ : Told Go.Proofs.Tryz.prog 94 kM [.t 2] 1:=Told.of Go.Proofs.Tryz.func94 (by decide +kernel)
theorem Oa : av Go.Proofs.Tryz.prog 94 = true:=by decide +kernel
theorem UK : Told Go.Proofs.Tryz.prog 95 xK [.c 2 6 true 43] 1:=Told.of Go.Proofs.Tryz.func95 (by decide +kernel)
theorem Oc : av Go.Proofs.Tryz.prog 95 = true:=by decide +kernel
theorem UL : Told Go.Proofs.Tryz.prog 96 tQ [.c 6 6 true 43] 3:=Told.of Go.Proofs.Tryz.func96 (by decide +kernel)
theorem Od : av Go.Proofs.Tryz.prog 96 = true:=by decide +kernel
theorem UM : Told Go.Proofs.Tryz.prog 97 pQ [.t 4] 2:=Told.of Go.Proofs.Tryz.func97 (by decide +kernel)
theorem Oe : av Go.Proofs.Tryz.prog 97 = true:=by decide +kernel
theorem UN : Told Go.Proofs.Tryz.prog 98 tf [.t 2] 1:=Told.of Go.Proofs.Tryz.func98 (by decide +kernel)
theorem Og : av Go.Proofs.Tryz.prog 98 = true:=by decide +kernel
theorem UO : Told Go.Proofs.Tryz.prog 99 xq [.c 2 2 true 39] 1:=Told.of Go.Proofs.Tryz.func99 (by decide +kernel)
theorem Oh : av Go.Proofs.Tryz.prog 99 = true:=by decide +kernel
theorem Sp : Told Go.Proofs.Tryz.prog 100 vS [.c 2 6 true 43] 1:=Told.of Go.Proofs.Tryz.func100 (by decide +kernel)
theorem LW : av Go.Proofs.Tryz.prog 100 = true:=by decide +kernel
theorem Sq : Told Go.Proofs.Tryz.prog 101 ni [.t 4] 2:=Told.of Go.Proofs.Tryz.func101 (by decide +kernel)
theorem LX : av Go.Proofs.Tryz.prog 101 = true:=by decide +kernel
theorem Sr : Told Go.Proofs.Tryz.prog 102 wu [.t 4] 2:=Told.of Go.Proofs.Tryz.func102 (by decide +kernel)
theorem LY : av Go.Proofs.Tryz.prog 102 = true:=by decide +kernel
theorem Ss : Told Go.Proofs.Tryz.prog 103 wz [.t 4] 2:=Told.of Go.Proofs.Tryz.func103 (by decide +kernel)
theorem LZ : av Go.Proofs.Tryz.prog 103 = true:=by decide +kernel
theorem Su : Told Go.Proofs.Tryz.prog 104 wq [.t 4] 2:=Told.of Go.Proofs.Tryz.func104 (by decide +kernel)
theorem L0 : av Go.Proofs.Tryz.prog 104 = true:=by decide +kernel
theorem Sv : Told Go.Proofs.Tryz.prog 105 oY [.t 4] 2:=Told.of Go.Proofs.Tryz.func105 (by decide +kernel)
theorem L1 : av Go.Proofs.Tryz.prog 105 = true:=by decide +kernel
theorem Sw : Told Go.Proofs.Tryz.prog 106 oW [.t 4] 2:=Told.of Go.Proofs.Tryz.func106 (by decide +kernel)
theorem L2 : av Go.Proofs.Tryz.prog 106 = true:=by decide +kernel
theorem Sy : Told Go.Proofs.Tryz.prog 108 iF [.t 2] 1:=Told.of Go.Proofs.Tryz.func108 (by decide +kernel)
theorem L3 : av Go.Proofs.Tryz.prog 108 = true:=by decide +kernel
theorem Sz : Told Go.Proofs.Tryz.prog 111 wY [.t 2] 1:=Told.of Go.Proofs.Tryz.func111 (by decide +kernel)
theorem L4 : av Go.Proofs.Tryz.prog 111 = true:=by decide +kernel
theorem SA : Told Go.Proofs.Tryz.prog 112 wW [.c 2 3 true 59] 1:=Told.of Go.Proofs.Tryz.func112 (by decide +kernel)
theorem L5 : av Go.Proofs.Tryz.prog 112 = true:=by decide +kernel
theorem SB : Told Go.Proofs.Tryz.prog 118 oZ [.t 4] 2:=Told.of Go.Proofs.Tryz.func118 (by decide +kernel)
theorem L6 : av Go.Proofs.Tryz.prog 118 = true:=by decide +kernel
theorem SC : Told Go.Proofs.Tryz.prog 119 xm [.t 2] 1:=Told.of Go.Proofs.Tryz.func119 (by decide +kernel)
theorem L7 : av Go.Proofs.Tryz.prog 119 = true:=by decide +kernel
theorem SE : Told Go.Proofs.Tryz.prog 126 xF [.c 2 2 true 39] 1:=Told.of Go.Proofs.Tryz.func126 (by decide +kernel)
theorem L8 : av Go.Proofs.Tryz.prog 126 = true:=by decide +kernel
theorem SF : Told Go.Proofs.Tryz.prog 127 wZ [.t 2] 1:=Told.of Go.Proofs.Tryz.func127 (by decide +kernel)
theorem L9 : av Go.Proofs.Tryz.prog 127 = true:=by decide +kernel
theorem SG : Told Go.Proofs.Tryz.prog 128 vw [.t 2] 1:=Told.of Go.Proofs.Tryz.func128 (by decide +kernel)
theorem Ma : av Go.Proofs.Tryz.prog 128 = true:=by decide +kernel
theorem SH : Told Go.Proofs.Tryz.prog 131 vO [.c 2 2 true 39] 1:=Told.of Go.Proofs.Tryz.func131 (by decide +kernel)
theorem Mb : av Go.Proofs.Tryz.prog 131 = true:=by decide +kernel
theorem SI : Told Go.Proofs.Tryz.prog 132 wo [.t 4] 2:=Told.of Go.Proofs.Tryz.func132 (by decide +kernel)
theorem Mc : av Go.Proofs.Tryz.prog 132 = true:=by decide +kernel
theorem SJ : Told Go.Proofs.Tryz.prog 133 wK [.t 4] 2:=Told.of Go.Proofs.Tryz.func133 (by decide +kernel)
theorem Me : av Go.Proofs.Tryz.prog 133 = true:=by decide +kernel
theorem SK : Told Go.Proofs.Tryz.prog 137 xW [.t 6] 3:=Told.of Go.Proofs.Tryz.func137 (by decide +kernel)
theorem Mf : av Go.Proofs.Tryz.prog 137 = true:=by decide +kernel
theorem SL : Told Go.Proofs.Tryz.prog 139 jj [.t 4] 2:=Told.of Go.Proofs.Tryz.func139 (by decide +kernel)
theorem Mg : av Go.Proofs.Tryz.prog 139 = true:=by decide +kernel
theorem SM : Told Go.Proofs.Tryz.prog 143 vY [.t 2] 1:=Told.of Go.Proofs.Tryz.func143 (by decide +kernel)
theorem Mh : av Go.Proofs.Tryz.prog 143 = true:=by decide +kernel
theorem SN : Told Go.Proofs.Tryz.prog 145 kA [.t 4] 2:=Told.of Go.Proofs.Tryz.func145 (by decide +kernel)
theorem Mi : av Go.Proofs.Tryz.prog 145 = true:=by decide +kernel
theorem SO : Told Go.Proofs.Tryz.prog 158 sF [.t 4] 2:=Told.of Go.Proofs.Tryz.func158 (by decide +kernel)
theorem Mj : av Go.Proofs.Tryz.prog 158 = true:=by decide +kernel
theorem SP : Told Go.Proofs.Tryz.prog 159 oU [.t 4] 2:=Told.of Go.Proofs.Tryz.func159 (by decide +kernel)
theorem Mk : av Go.Proofs.Tryz.prog 159 = true:=by decide +kernel
theorem SQ : Told Go.Proofs.Tryz.prog 160 nP [.t 2] 1:=Told.of Go.Proofs.Tryz.func160 (by decide +kernel)
theorem Ml : av Go.Proofs.Tryz.prog 160 = true:=by decide +kernel
theorem SR : Told Go.Proofs.Tryz.prog 161 xp [.t 2] 1:=Told.of Go.Proofs.Tryz.func161 (by decide +kernel)
theorem Mm : av Go.Proofs.Tryz.prog 161 = true:=by decide +kernel
theorem SS : Told Go.Proofs.Tryz.prog 162 tn [.t 4,.t 5] 2:=Told.of Go.Proofs.Tryz.func162 (by decide +kernel)
theorem Mn : av Go.Proofs.Tryz.prog 162 = true:=by decide +kernel
theorem SU : Told Go.Proofs.Tryz.prog 166 wU [.c 2 9 true 108] 1:=Told.of Go.Proofs.Tryz.func166 (by decide +kernel)
theorem Mo : av Go.Proofs.Tryz.prog 166 = true:=by decide +kernel
theorem SV : Told Go.Proofs.Tryz.prog 167 wR [.c 2 2 true 214] 1:=Told.of Go.Proofs.Tryz.func167 (by decide +kernel)
theorem Mp : av Go.Proofs.Tryz.prog 167 = true:=by decide +kernel
theorem SW : Told Go.Proofs.Tryz.prog 169 nv [.t 4] 2:=Told.of Go.Proofs.Tryz.func169 (by decide +kernel)
theorem Mq : av Go.Proofs.Tryz.prog 169 = true:=by decide +kernel
theorem SX : Told Go.Proofs.Tryz.prog 170 lW [.t 4] 2:=Told.of Go.Proofs.Tryz.func170 (by decide +kernel)
theorem Mr : av Go.Proofs.Tryz.prog 170 = true:=by decide +kernel
theorem SY : Told Go.Proofs.Tryz.prog 171 oO [.t 4] 2:=Told.of Go.Proofs.Tryz.func171 (by decide +kernel)
theorem Ms : av Go.Proofs.Tryz.prog 171 = true:=by decide +kernel
theorem SZ : Told Go.Proofs.Tryz.prog 172 sA [.t 2] 1:=Told.of Go.Proofs.Tryz.func172 (by decide +kernel)
theorem Mt : av Go.Proofs.Tryz.prog 172 = true:=by decide +kernel
theorem S0 : Told Go.Proofs.Tryz.prog 173 wv [.t 4] 2:=Told.of Go.Proofs.Tryz.func173 (by decide +kernel)
theorem Mu : av Go.Proofs.Tryz.prog 173 = true:=by decide +kernel
theorem S1 : Told Go.Proofs.Tryz.prog 175 pT [.t 4] 2:=Told.of Go.Proofs.Tryz.func175 (by decide +kernel)
theorem Mv : av Go.Proofs.Tryz.prog 175 = true:=by decide +kernel
theorem S2 : Told Go.Proofs.Tryz.prog 177 x7 [.c 2 3 true 59] 1:=Told.of Go.Proofs.Tryz.func177 (by decide +kernel)
theorem Mw : av Go.Proofs.Tryz.prog 177 = true:=by decide +kernel
theorem S3 : Told Go.Proofs.Tryz.prog 178 ku [.t 2] 1:=Told.of Go.Proofs.Tryz.func178 (by decide +kernel)
theorem Mx : av Go.Proofs.Tryz.prog 178 = true:=by decide +kernel
theorem S4 : Told Go.Proofs.Tryz.prog 179 vX [.t 2] 1:=Told.of Go.Proofs.Tryz.func179 (by decide +kernel)
theorem My : av Go.Proofs.Tryz.prog 179 = true:=by decide +kernel
theorem S6 : Told Go.Proofs.Tryz.prog 180 vV [.t 6] 3:=Told.of Go.Proofs.Tryz.func180 (by decide +kernel)
theorem MA : av Go.Proofs.Tryz.prog 180 = true:=by decide +kernel
theorem S7 : Told Go.Proofs.Tryz.prog 181 vF [.t 2] 1:=Told.of Go.Proofs.Tryz.func181 (by decide +kernel)
theorem MB : av Go.Proofs.Tryz.prog 181 = true:=by decide +kernel
theorem S8 : Told Go.Proofs.Tryz.prog 183 vQ [.c 2 7 true 61] 1:=Told.of Go.Proofs.Tryz.func183 (by decide +kernel)
theorem MC : av Go.Proofs.Tryz.prog 183 = true:=by decide +kernel
theorem S9 : Told Go.Proofs.Tryz.prog 184 xB [.t 2] 1:=Told.of Go.Proofs.Tryz.func184 (by decide +kernel)
theorem MD : av Go.Proofs.Tryz.prog 184 = true:=by decide +kernel
theorem Ta : Told Go.Proofs.Tryz.prog 185 nN [.t 2] 1:=Told.of Go.Proofs.Tryz.func185 (by decide +kernel)
theorem ME : av Go.Proofs.Tryz.prog 185 = true:=by decide +kernel
theorem Tb : Told Go.Proofs.Tryz.prog 186 xo [.c 6 2 true 39,.t 7] 3:=Told.of Go.Proofs.Tryz.func186 (by decide +kernel)
theorem MF : av Go.Proofs.Tryz.prog 186 = true:=by decide +kernel
theorem Tc : Told Go.Proofs.Tryz.prog 187 tI [.t 2] 1:=Told.of Go.Proofs.Tryz.func187 (by decide +kernel)
theorem MG : av Go.Proofs.Tryz.prog 187 = true:=by decide +kernel
theorem Td : Told Go.Proofs.Tryz.prog 188 xA [.t 2] 1:=Told.of Go.Proofs.Tryz.func188 (by decide +kernel)
theorem MH : av Go.Proofs.Tryz.prog 188 = true:=by decide +kernel
theorem Te : Told Go.Proofs.Tryz.prog 189 pP [.t 2] 1:=Told.of Go.Proofs.Tryz.func189 (by decide +kernel)
theorem MI : av Go.Proofs.Tryz.prog 189 = true:=by decide +kernel
theorem Tf : Told Go.Proofs.Tryz.prog 190 xI [.c 6 2 true 39] 3:=Told.of Go.Proofs.Tryz.func190 (by decide +kernel)
theorem MJ : av Go.Proofs.Tryz.prog 190 = true:=by decide +kernel
theorem Tg : Told Go.Proofs.Tryz.prog 191 vP [.t 2] 1:=Told.of Go.Proofs.Tryz.func191 (by decide +kernel)
theorem MK : av Go.Proofs.Tryz.prog 191 = true:=by decide +kernel
theorem Ti : Told Go.Proofs.Tryz.prog 193 rN [] 3:=Told.of Go.Proofs.Tryz.func193 (by decide +kernel)
theorem ML : av Go.Proofs.Tryz.prog 193 = true:=by decide +kernel
theorem Tj : Told Go.Proofs.Tryz.prog 194 oG [.t 4] 2:=Told.of Go.Proofs.Tryz.func194 (by decide +kernel)
theorem MN : av Go.Proofs.Tryz.prog 194 = true:=by decide +kernel
theorem Tl : Told Go.Proofs.Tryz.prog 195 rD [.t 2] 1:=Told.of Go.Proofs.Tryz.func195 (by decide +kernel)
theorem MO : av Go.Proofs.Tryz.prog 195 = true:=by decide +kernel
theorem Tm : Told Go.Proofs.Tryz.prog 196 vz [] 1:=Told.of Go.Proofs.Tryz.func196 (by decide +kernel)
theorem MP : av Go.Proofs.Tryz.prog 196 = true:=by decide +kernel
theorem Tn : Told Go.Proofs.Tryz.prog 197 uh [.t 4] 2:=Told.of Go.Proofs.Tryz.func197 (by decide +kernel)
theorem MQ : av Go.Proofs.Tryz.prog 197 = true:=by decide +kernel
theorem To : Told Go.Proofs.Tryz.prog 198 vD [.t 3] 2:=Told.of Go.Proofs.Tryz.func198 (by decide +kernel)
theorem MR : av Go.Proofs.Tryz.prog 198 = true:=by decide +kernel
theorem Tp : Told Go.Proofs.Tryz.prog 199 wC [.t 4] 2:=Told.of Go.Proofs.Tryz.func199 (by decide +kernel)
theorem MS : av Go.Proofs.Tryz.prog 199 = true:=by decide +kernel
theorem Tq : Told Go.Proofs.Tryz.prog 201 nK [.t 2] 1:=Told.of Go.Proofs.Tryz.func201 (by decide +kernel)
theorem MT : av Go.Proofs.Tryz.prog 201 = true:=by decide +kernel
theorem Ts : Told Go.Proofs.Tryz.prog 202 xZ [.t 2] 1:=Told.of Go.Proofs.Tryz.func202 (by decide +kernel)
theorem MU : av Go.Proofs.Tryz.prog 202 = true:=by decide +kernel
theorem Tt : Told Go.Proofs.Tryz.prog 203 xD [.t 2] 1:=Told.of Go.Proofs.Tryz.func203 (by decide +kernel)
theorem MW : av Go.Proofs.Tryz.prog 203 = true:=by decide +kernel
theorem Tu : Told Go.Proofs.Tryz.prog 205 iA [.t 2] 1:=Told.of Go.Proofs.Tryz.func205 (by decide +kernel)
theorem MX : av Go.Proofs.Tryz.prog 205 = true:=by decide +kernel
theorem Tw : Told Go.Proofs.Tryz.prog 211 sH [.t 4] 2:=Told.of Go.Proofs.Tryz.func211 (by decide +kernel)
theorem MZ : av Go.Proofs.Tryz.prog 211 = true:=by decide +kernel
theorem Tx : Told Go.Proofs.Tryz.prog 218 w4 [.c 2 2 true 246] 1:=Told.of Go.Proofs.Tryz.func218 (by decide +kernel)
theorem M0 : av Go.Proofs.Tryz.prog 218 = true:=by decide +kernel
theorem Tz : Told Go.Proofs.Tryz.prog 219 vW [.t 2] 1:=Told.of Go.Proofs.Tryz.func219 (by decide +kernel)
theorem M1 : av Go.Proofs.Tryz.prog 219 = true:=by decide +kernel
theorem TA : Told Go.Proofs.Tryz.prog 223 ug [.t 4] 2:=Told.of Go.Proofs.Tryz.func223 (by decide +kernel)
theorem M3 : av Go.Proofs.Tryz.prog 223 = true:=by decide +kernel
theorem TD : Told Go.Proofs.Tryz.prog 227 oP [.t 4] 2:=Told.of Go.Proofs.Tryz.func227 (by decide +kernel)
theorem M4 : av Go.Proofs.Tryz.prog 227 = true:=by decide +kernel
theorem TE : Told Go.Proofs.Tryz.prog 234 rH [.t 4,.t 5] 2:=Told.of Go.Proofs.Tryz.func234 (by decide +kernel)
theorem M5 : av Go.Proofs.Tryz.prog 234 = true:=by decide +kernel
theorem TG : Told Go.Proofs.Tryz.prog 243 yF [.t 4] 2:=Told.of Go.Proofs.Tryz.func243 (by decide +kernel)
theorem M7 : av Go.Proofs.Tryz.prog 243 = true:=by decide +kernel
theorem TH : Told Go.Proofs.Tryz.prog 246 vR [.c 2 3 true 59] 1:=Told.of Go.Proofs.Tryz.func246 (by decide +kernel)
theorem M8 : av Go.Proofs.Tryz.prog 246 = true:=by decide +kernel
theorem TJ : Told Go.Proofs.Tryz.prog 250 rK [.t 2] 1:=Told.of Go.Proofs.Tryz.func250 (by decide +kernel)
theorem Na : av Go.Proofs.Tryz.prog 250 = true:=by decide +kernel
theorem TK : Told Go.Proofs.Tryz.prog 251 nh [.t 2] 1:=Told.of Go.Proofs.Tryz.func251 (by decide +kernel)
theorem Nb : av Go.Proofs.Tryz.prog 251 = true:=by decide +kernel
theorem TL : Told Go.Proofs.Tryz.prog 252 tS [.t 4] 2:=Told.of Go.Proofs.Tryz.func252 (by decide +kernel)
theorem Nc : av Go.Proofs.Tryz.prog 252 = true:=by decide +kernel
theorem TM : Told Go.Proofs.Tryz.prog 253 xy [.t 2] 1:=Told.of Go.Proofs.Tryz.func253 (by decide +kernel)
theorem Nd : av Go.Proofs.Tryz.prog 253 = true:=by decide +kernel
theorem TN : Told Go.Proofs.Tryz.prog 254 xw [.t 2] 1:=Told.of Go.Proofs.Tryz.func254 (by decide +kernel)
theorem Nf : av Go.Proofs.Tryz.prog 254 = true:=by decide +kernel
theorem TO : Told Go.Proofs.Tryz.prog 258 xY [.t 2] 1:=Told.of Go.Proofs.Tryz.func258 (by decide +kernel)
theorem Ng : av Go.Proofs.Tryz.prog 258 = true:=by decide +kernel
theorem TP : Told Go.Proofs.Tryz.prog 259 oI [.t 2] 1:=Told.of Go.Proofs.Tryz.func259 (by decide +kernel)
theorem Nh : av Go.Proofs.Tryz.prog 259 = true:=by decide +kernel
theorem TQ : Told Go.Proofs.Tryz.prog 260 vJ [.t 2] 1:=Told.of Go.Proofs.Tryz.func260 (by decide +kernel)
theorem Ni : av Go.Proofs.Tryz.prog 260 = true:=by decide +kernel
theorem TR : Told Go.Proofs.Tryz.prog 261 nj [.t 2] 1:=Told.of Go.Proofs.Tryz.func261 (by decide +kernel)
theorem Nj : av Go.Proofs.Tryz.prog 261 = true:=by decide +kernel
theorem TS : Told Go.Proofs.Tryz.prog 262 vE [.t 3] 2:=Told.of Go.Proofs.Tryz.func262 (by decide +kernel)
theorem Nk : av Go.Proofs.Tryz.prog 262 = true:=by decide +kernel
theorem TU : Told Go.Proofs.Tryz.prog 264 xC [.t 2] 1:=Told.of Go.Proofs.Tryz.func264 (by decide +kernel)
theorem Nl : av Go.Proofs.Tryz.prog 264 = true:=by decide +kernel
theorem TV : Told Go.Proofs.Tryz.prog 266 vI [.t 2] 1:=Told.of Go.Proofs.Tryz.func266 (by decide +kernel)
theorem Nn : av Go.Proofs.Tryz.prog 266 = true:=by decide +kernel
theorem TW : Told Go.Proofs.Tryz.prog 267 vN [.t 2] 1:=Told.of Go.Proofs.Tryz.func267 (by decide +kernel)
theorem Np : av Go.Proofs.Tryz.prog 267 = true:=by decide +kernel
theorem TX : Told Go.Proofs.Tryz.prog 268 mg [.t 4] 2:=Told.of Go.Proofs.Tryz.func268 (by decide +kernel)
theorem Nq : av Go.Proofs.Tryz.prog 268 = true:=by decide +kernel
theorem TZ : Told Go.Proofs.Tryz.prog 271 vZ [.t 2] 1:=Told.of Go.Proofs.Tryz.func271 (by decide +kernel)
theorem Ns : av Go.Proofs.Tryz.prog 271 = true:=by decide +kernel
theorem T0 : Told Go.Proofs.Tryz.prog 272 vL [.t 2] 1:=Told.of Go.Proofs.Tryz.func272 (by decide +kernel)
theorem Nt : av Go.Proofs.Tryz.prog 272 = true:=by decide +kernel
theorem T3 : Told Go.Proofs.Tryz.prog 294 vA [.t 2] 1:=Told.of Go.Proofs.Tryz.func294 (by decide +kernel)
theorem Nu : av Go.Proofs.Tryz.prog 294 = true:=by decide +kernel
theorem T4 : Told Go.Proofs.Tryz.prog 296 vU [.t 4] 2:=Told.of Go.Proofs.Tryz.func296 (by decide +kernel)
theorem Nv : av Go.Proofs.Tryz.prog 296 = true:=by decide +kernel
theorem T5 : Told Go.Proofs.Tryz.prog 297 vH [.t 2] 1:=Told.of Go.Proofs.Tryz.func297 (by decide +kernel)
theorem Nw : av Go.Proofs.Tryz.prog 297 = true:=by decide +kernel
theorem T6 : Told Go.Proofs.Tryz.prog 299 vC [.t 2] 1:=Told.of Go.Proofs.Tryz.func299 (by decide +kernel)
theorem Nx : av Go.Proofs.Tryz.prog 299 = true:=by decide +kernel
theorem T8 : Told Go.Proofs.Tryz.prog 305 vM [.t 4] 2:=Told.of Go.Proofs.Tryz.func305 (by decide +kernel)
theorem Ny : av Go.Proofs.Tryz.prog 305 = true:=by decide +kernel
theorem T9 : Told Go.Proofs.Tryz.prog 306 vK [.t 2] 1:=Told.of Go.Proofs.Tryz.func306 (by decide +kernel)
theorem Nz : av Go.Proofs.Tryz.prog 306 = true:=by decide +kernel
theorem Ua : Told Go.Proofs.Tryz.prog 320 um [.t 4] 2:=Told.of Go.Proofs.Tryz.func320 (by decide +kernel)
theorem NA : av Go.Proofs.Tryz.prog 320 = true:=by decide +kernel
theorem Ub : Told Go.Proofs.Tryz.prog 321 vT [.t 3] 2:=Told.of Go.Proofs.Tryz.func321 (by decide +kernel)
theorem NB : av Go.Proofs.Tryz.prog 321 = true:=by decide +kernel
theorem Th : Told Go.Proofs.Tryz.prog 192 (mI 4 48) [.t 2] 1:=Told.of Go.Proofs.Tryz.func192 (by decide +kernel)
theorem T7 : Told Go.Proofs.Tryz.prog 304 (mI 2 32) [.t 2] 1:=Told.of Go.Proofs.Tryz.func304 (by decide +kernel)
theorem TC : Told Go.Proofs.Tryz.prog 226 (mI 2 24) [.t 2] 1:=Told.of Go.Proofs.Tryz.func226 (by decide +kernel)
theorem TB : Told Go.Proofs.Tryz.prog 225 (mI 1 16) [.t 2] 1:=Told.of Go.Proofs.Tryz.func225 (by decide +kernel)
theorem Vf : TT.Ok Go.Proofs.Tryz.prog:=by
 refine ⟨fun f F h=>?_,fun f F h=>?_⟩
 ·unfold TT at h
  split at h
  ·cases h; exact Us
  ·cases h; exact S5
  ·cases h; exact Tv
  ·cases h; exact TF
  ·cases h; exact TI
  ·cases h; exact TY
  ·cases h; exact Uc
  ·cases h; exact Ud
  ·cases h; exact Ue
  ·cases h; exact Uf
  ·cases h; exact Ug
  ·cases h; exact Uh
  ·cases h; exact Ui
  ·cases h; exact Uj
  ·cases h; exact Uk
  ·cases h; exact Ul
  ·cases h; exact Um
  ·cases h; exact Un
  ·cases h; exact Uo
  ·cases h; exact Up
  ·cases h; exact Uq
  ·cases h; exact Ur
  ·cases h; exact Ut
  ·cases h; exact Uu
  ·cases h; exact Uv
  ·cases h; exact Uw
  ·cases h; exact Ux
  ·cases h; exact Uy
  ·cases h; exact Uz
  ·cases h; exact UA
  ·cases h; exact UB
  ·cases h; exact UC
  ·cases h; exact UD
  ·cases h; exact UE
  ·cases h; exact UF
  ·cases h; exact UG
  ·cases h; exact UH
  ·cases h; exact UI
  ·cases h; exact UJ
  ·cases h; exact UK
  ·cases h; exact UL
  ·cases h; exact UM
  ·cases h; exact UN
  ·cases h; exact UO
  ·cases h; exact Sp
  ·cases h; exact Sq
  ·cases h; exact Sr
  ·cases h; exact Ss
  ·cases h; exact Su
  ·cases h; exact Sv
  ·cases h; exact Sw
  ·cases h; exact Sy
  ·cases h; exact Sz
  ·cases h; exact SA
  ·cases h; exact SB
  ·cases h; exact SC
  ·cases h; exact SE
  ·cases h; exact SF
  ·cases h; exact SG
  ·cases h; exact SH
  ·cases h; exact SI
  ·cases h; exact SJ
  ·cases h; exact SK
  ·cases h; exact SL
  ·cases h; exact SM
  ·cases h; exact SN
  ·cases h; exact SO
  ·cases h; exact SP
  ·cases h; exact SQ
  ·cases h; exact SR
  ·cases h; exact SS
  ·cases h; exact SU
  ·cases h; exact SV
  ·cases h; exact SW
  ·cases h; exact SX
  ·cases h; exact SY
  ·cases h; exact SZ
  ·cases h; exact S0
  ·cases h; exact S1
  ·cases h; exact S2
  ·cases h; exact S3
  ·cases h; exact S4
  ·cases h; exact S6
  ·cases h; exact S7
  ·cases h; exact S8
  ·cases h; exact S9
  ·cases h; exact Ta
  ·cases h; exact Tb
  ·cases h; exact Tc
  ·cases h; exact Td
  ·cases h; exact Te
  ·cases h; exact Tf
  ·cases h; exact Tg
  ·cases h; exact Ti
  ·cases h; exact Tj
  ·cases h; exact Tl
  ·cases h; exact Tm
  ·cases h; exact Tn
  ·cases h; exact To
  ·cases h; exact Tp
  ·cases h; exact Tq
  ·cases h; exact Ts
  ·cases h; exact Tt
  ·cases h; exact Tu
  ·cases h; exact Tw
  ·cases h; exact Tx
  ·cases h; exact Tz
  ·cases h; exact TA
  ·cases h; exact TD
  ·cases h; exact TE
  ·cases h; exact TG
  ·cases h; exact TH
  ·cases h; exact TJ
  ·cases h; exact TK
  ·cases h; exact TL
  ·cases h; exact TM
  ·cases h; exact TN
  ·cases h; exact TO
  ·cases h; exact TP
  ·cases h; exact TQ
  ·cases h; exact TR
  ·cases h; exact TS
  ·cases h; exact TU
  ·cases h; exact TV
  ·cases h; exact TW
  ·cases h; exact TX
  ·cases h; exact TZ
  ·cases h; exact T0
  ·cases h; exact T3
  ·cases h; exact T4
  ·cases h; exact T5
  ·cases h; exact T6
  ·cases h; exact T8
  ·cases h; exact T9
  ·cases h; exact Ua
  ·cases h; exact Ub
  ·cases h
 ·unfold TT at h
  split at h
  ·cases h; exact NT
  ·cases h; exact Mz
  ·cases h; exact MY
  ·cases h; exact M6
  ·cases h; exact M9
  ·cases h; exact Nr
  ·cases h; exact NC
  ·cases h; exact ND
  ·cases h; exact NF
  ·cases h; exact NG
  ·cases h; exact NH
  ·cases h; exact NI
  ·cases h; exact NJ
  ·cases h; exact NK
  ·cases h; exact NL
  ·cases h; exact NM
  ·cases h; exact NN
  ·cases h; exact NO
  ·cases h; exact NP
  ·cases h; exact NQ
  ·cases h; exact NR
  ·cases h; exact NS
  ·cases h; exact NU
  ·cases h; exact NV
  ·cases h; exact NW
  ·cases h; exact NX
  ·cases h; exact NY
  ·cases h; exact NZ
  ·cases h; exact N0
  ·cases h; exact N1
  ·cases h; exact N2
  ·cases h; exact N3
  ·cases h; exact N4
  ·cases h; exact N5
  ·cases h; exact N6
  ·cases h; exact N7
  ·cases h; exact N8
  ·cases h; exact N9
  ·cases h; exact Oa
  ·cases h; exact Oc
  ·cases h; exact Od
  ·cases h; exact Oe
  ·cases h; exact Og
  ·cases h; exact Oh
  ·cases h; exact LW
  ·cases h; exact LX
  ·cases h; exact LY
  ·cases h; exact LZ
  ·cases h; exact L0
  ·cases h; exact L1
  ·cases h; exact L2
  ·cases h; exact L3
  ·cases h; exact L4
  ·cases h; exact L5
  ·cases h; exact L6
  ·cases h; exact L7
  ·cases h; exact L8
  ·cases h; exact L9
  ·cases h; exact Ma
  ·cases h; exact Mb
  ·cases h; exact Mc
  ·cases h; exact Me
  ·cases h; exact Mf
  ·cases h; exact Mg
  ·cases h; exact Mh
  ·cases h; exact Mi
  ·cases h; exact Mj
  ·cases h; exact Mk
  ·cases h; exact Ml
  ·cases h; exact Mm
  ·cases h; exact Mn
  ·cases h; exact Mo
  ·cases h; exact Mp
  ·cases h; exact Mq
  ·cases h; exact Mr
  ·cases h; exact Ms
  ·cases h; exact Mt
  ·cases h; exact Mu
  ·cases h; exact Mv
  ·cases h; exact Mw
  ·cases h; exact Mx
  ·cases h; exact My
  ·cases h; exact MA
  ·cases h; exact MB
  ·cases h; exact MC
  ·cases h; exact MD
  ·cases h; exact ME
  ·cases h; exact MF
  ·cases h; exact MG
  ·cases h; exact MH
  ·cases h; exact MI
  ·cases h; exact MJ
  ·cases h; exact MK
  ·cases h; exact ML
  ·cases h; exact MN
  ·cases h; exact MO
  ·cases h; exact MP
  ·cases h; exact MQ
  ·cases h; exact MR
  ·cases h; exact MS
  ·cases h; exact MT
  ·cases h; exact MU
  ·cases h; exact MW
  ·cases h; exact MX
  ·cases h; exact MZ
  ·cases h; exact M0
  ·cases h; exact M1
  ·cases h; exact M3
  ·cases h; exact M4
  ·cases h; exact M5
  ·cases h; exact M7
  ·cases h; exact M8
  ·cases h; exact Na
  ·cases h; exact Nb
  ·cases h; exact Nc
  ·cases h; exact Nd
  ·cases h; exact Nf
  ·cases h; exact Ng
  ·cases h; exact Nh
  ·cases h; exact Ni
  ·cases h; exact Nj
  ·cases h; exact Nk
  ·cases h; exact Nl
  ·cases h; exact Nn
  ·cases h; exact Np
  ·cases h; exact Nq
  ·cases h; exact Ns
  ·cases h; exact Nt
  ·cases h; exact Nu
  ·cases h; exact Nv
  ·cases h; exact Nw
  ·cases h; exact Nx
  ·cases h; exact Ny
  ·cases h; exact Nz
  ·cases h; exact NA
  ·cases h; exact NB
  ·cases h
theorem Vc (htab : Lib.TabIs Go.Proofs.Tryz.prog Bs.W0 "internal/strconv.uint64pow10" .u64 Lib.pow10Tab) (hmax : ∃ m,Bs.W0.cell? ⟨1,0,none⟩ = some (.int .i64 m)) : LI.Sound Go.Proofs.Tryz.prog:=(nE (uN Th) (nE (uN T7) (nE (uN TC) (nE (uN TB) (nE (PE htab fun n h0 h1 w ht=>Go.Proofs.Tryz.strconv_Itoa n h0 h1 w ht) (nE (OL fun s p w=>Go.Proofs.Tryz.strings_HasPrefix s p w) (nE (R5 (g1:=1) (t9:=_) hmax fun s sep m w h1 h2 h3=>Go.Proofs.Tryz.strings_Split s sep m w h1 h2 h3) (UP fun s c h w hs=>Go.Proofs.Tryz.strings_Trim_one s c h w hs))))))))
end M
