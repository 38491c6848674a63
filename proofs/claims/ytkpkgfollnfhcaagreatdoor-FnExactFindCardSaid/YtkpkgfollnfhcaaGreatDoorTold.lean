/- Each function of the table is the program's, and the library is as it is said to be; no conditions. -/
import Derived.Test.YtkpkgfollnfhcaaGreatDoorProg
import Derived.Test.YtkpkgfollnfhcaaGreatDoorLay
import Derived.Test.YtkpkgfollnfhcaaGreatDoorTab
import Derived.Test.YtkpkgfollnfhcaaGreatDoorMc
set_option linter.unusedSectionVars false
set_option linter.unusedVariables false
set_option linter.unusedSimpArgs false
set_option maxRecDepth 100000
namespace M
open Go
variable [Bs]
theorem TS : Told Go.Proofs.Tryz.prog 6 pG [.t 4] 2:=Told.of Go.Proofs.Tryz.func6 (by decide +kernel)
theorem Nc : ax Go.Proofs.Tryz.prog 6 = true:=by decide +kernel
theorem SL : Told Go.Proofs.Tryz.prog 18 nI [.t 4] 2:=Told.of Go.Proofs.Tryz.func18 (by decide +kernel)
theorem L7 : ax Go.Proofs.Tryz.prog 18 = true:=by decide +kernel
theorem SR : Told Go.Proofs.Tryz.prog 19 nH [.t 4] 2:=Told.of Go.Proofs.Tryz.func19 (by decide +kernel)
theorem Me : ax Go.Proofs.Tryz.prog 19 = true:=by decide +kernel
theorem SX : Told Go.Proofs.Tryz.prog 21 xo [.c 2 6 true 43] 1:=Told.of Go.Proofs.Tryz.func21 (by decide +kernel)
theorem Mj : ax Go.Proofs.Tryz.prog 21 = true:=by decide +kernel
theorem S1 : Told Go.Proofs.Tryz.prog 22 xl [.c 2 4 true 66] 1:=Told.of Go.Proofs.Tryz.func22 (by decide +kernel)
theorem Mn : ax Go.Proofs.Tryz.prog 22 = true:=by decide +kernel
theorem S6 : Told Go.Proofs.Tryz.prog 24 kS [.t 4] 2:=Told.of Go.Proofs.Tryz.func24 (by decide +kernel)
theorem Mr : ax Go.Proofs.Tryz.prog 24 = true:=by decide +kernel
theorem Tb : Told Go.Proofs.Tryz.prog 25 kT [.t 4] 2:=Told.of Go.Proofs.Tryz.func25 (by decide +kernel)
theorem Mw : ax Go.Proofs.Tryz.prog 25 = true:=by decide +kernel
theorem Ti : Told Go.Proofs.Tryz.prog 26 mw [.t 4] 2:=Told.of Go.Proofs.Tryz.func26 (by decide +kernel)
theorem MD : ax Go.Proofs.Tryz.prog 26 = true:=by decide +kernel
theorem Tp : Told Go.Proofs.Tryz.prog 27 w4 [.t 4] 2:=Told.of Go.Proofs.Tryz.func27 (by decide +kernel)
theorem MJ : ax Go.Proofs.Tryz.prog 27 = true:=by decide +kernel
theorem Tt : Told Go.Proofs.Tryz.prog 28 wY [.t 4] 2:=Told.of Go.Proofs.Tryz.func28 (by decide +kernel)
theorem MN : ax Go.Proofs.Tryz.prog 28 = true:=by decide +kernel
theorem Tu : Told Go.Proofs.Tryz.prog 29 wX [.t 4] 2:=Told.of Go.Proofs.Tryz.func29 (by decide +kernel)
theorem MO : ax Go.Proofs.Tryz.prog 29 = true:=by decide +kernel
theorem TA : Told Go.Proofs.Tryz.prog 30 wP [.t 4] 2:=Told.of Go.Proofs.Tryz.func30 (by decide +kernel)
theorem MT : ax Go.Proofs.Tryz.prog 30 = true:=by decide +kernel
theorem TF : Told Go.Proofs.Tryz.prog 31 ql [.c 4 7 true 61,.t 5] 2:=Told.of Go.Proofs.Tryz.func31 (by decide +kernel)
theorem MY : ax Go.Proofs.Tryz.prog 31 = true:=by decide +kernel
theorem TG : Told Go.Proofs.Tryz.prog 32 sj [.c 4 7 true 61,.t 5] 2:=Told.of Go.Proofs.Tryz.func32 (by decide +kernel)
theorem MZ : ax Go.Proofs.Tryz.prog 32 = true:=by decide +kernel
theorem TJ : Told Go.Proofs.Tryz.prog 33 pM [.t 4] 2:=Told.of Go.Proofs.Tryz.func33 (by decide +kernel)
theorem M3 : ax Go.Proofs.Tryz.prog 33 = true:=by decide +kernel
theorem TK : Told Go.Proofs.Tryz.prog 35 xb [.c 2 4 true 83] 1:=Told.of Go.Proofs.Tryz.func35 (by decide +kernel)
theorem M4 : ax Go.Proofs.Tryz.prog 35 = true:=by decide +kernel
theorem TL : Told Go.Proofs.Tryz.prog 38 mz [.t 4] 2:=Told.of Go.Proofs.Tryz.func38 (by decide +kernel)
theorem M5 : ax Go.Proofs.Tryz.prog 38 = true:=by decide +kernel
theorem TM : Told Go.Proofs.Tryz.prog 40 xk [.c 2 7 true 61] 1:=Told.of Go.Proofs.Tryz.func40 (by decide +kernel)
theorem M6 : ax Go.Proofs.Tryz.prog 40 = true:=by decide +kernel
theorem TN : Told Go.Proofs.Tryz.prog 44 pN [.t 4] 2:=Told.of Go.Proofs.Tryz.func44 (by decide +kernel)
theorem M7 : ax Go.Proofs.Tryz.prog 44 = true:=by decide +kernel
theorem TO : Told Go.Proofs.Tryz.prog 46 xd [.c 2 2 true 39] 1:=Told.of Go.Proofs.Tryz.func46 (by decide +kernel)
theorem M8 : ax Go.Proofs.Tryz.prog 46 = true:=by decide +kernel
theorem TP : Told Go.Proofs.Tryz.prog 48 pI [.t 4] 2:=Told.of Go.Proofs.Tryz.func48 (by decide +kernel)
theorem M9 : ax Go.Proofs.Tryz.prog 48 = true:=by decide +kernel
theorem TQ : Told Go.Proofs.Tryz.prog 49 wU [.t 4] 2:=Told.of Go.Proofs.Tryz.func49 (by decide +kernel)
theorem Na : ax Go.Proofs.Tryz.prog 49 = true:=by decide +kernel
theorem TR : Told Go.Proofs.Tryz.prog 56 xK [.t 4] 2:=Told.of Go.Proofs.Tryz.func56 (by decide +kernel)
theorem Nb : ax Go.Proofs.Tryz.prog 56 = true:=by decide +kernel
theorem TU : Told Go.Proofs.Tryz.prog 61 vT [.t 4] 2:=Told.of Go.Proofs.Tryz.func61 (by decide +kernel)
theorem Nd : ax Go.Proofs.Tryz.prog 61 = true:=by decide +kernel
theorem TV : Told Go.Proofs.Tryz.prog 67 pQ [.t 4] 2:=Told.of Go.Proofs.Tryz.func67 (by decide +kernel)
theorem Nf : ax Go.Proofs.Tryz.prog 67 = true:=by decide +kernel
theorem TW : Told Go.Proofs.Tryz.prog 68 pL [.t 4] 2:=Told.of Go.Proofs.Tryz.func68 (by decide +kernel)
theorem Ng : ax Go.Proofs.Tryz.prog 68 = true:=by decide +kernel
theorem TX : Told Go.Proofs.Tryz.prog 69 pO [.t 4] 2:=Told.of Go.Proofs.Tryz.func69 (by decide +kernel)
theorem Nh : ax Go.Proofs.Tryz.prog 69 = true:=by decide +kernel
theorem TY : Told Go.Proofs.Tryz.prog 73 xh [.t 2] 1:=Told.of Go.Proofs.Tryz.func73 (by decide +kernel)
theorem Ni : ax Go.Proofs.Tryz.prog 73 = true:=by decide +kernel
theorem TZ : Told Go.Proofs.Tryz.prog 74 w9 [.t 2] 1:=Told.of Go.Proofs.Tryz.func74 (by decide +kernel)
theorem Nj : ax Go.Proofs.Tryz.prog 74 = true:=by decide +kernel
theorem T0 : Told Go.Proofs.Tryz.prog 75 xe [.t 2] 1:=Told.of Go.Proofs.Tryz.func75 (by decide +kernel)
theorem Nk : ax Go.Proofs.Tryz.prog 75 = true:=by decide +kernel
theorem T3 : Told Go.Proofs.Tryz.prog 77 wM [.t 4] 2:=Told.of Go.Proofs.Tryz.func77 (by decide +kernel)
theorem Nl : ax Go.Proofs.Tryz.prog 77 = true:=by decide +kernel
theorem T4 : Told Go.Proofs.Tryz.prog 78 nG [.t 4] 2:=Told.of Go.Proofs.Tryz.func78 (by decide +kernel)
theorem Nn : ax Go.Proofs.Tryz.prog 78 = true:=by decide +kernel
theorem T5 : Told Go.Proofs.Tryz.prog 79 wK [.t 4] 2:=Told.of Go.Proofs.Tryz.func79 (by decide +kernel)
theorem Np : ax Go.Proofs.Tryz.prog 79 = true:=by decide +kernel
theorem T6 : Told Go.Proofs.Tryz.prog 80 wI [.t 4] 2:=Told.of Go.Proofs.Tryz.func80 (by decide +kernel)
theorem Nq : ax Go.Proofs.Tryz.prog 80 = true:=by decide +kernel
theorem T7 : Told Go.Proofs.Tryz.prog 81 wJ [.t 4] 2:=Told.of Go.Proofs.Tryz.func81 (by decide +kernel)
theorem Nr : ax Go.Proofs.Tryz.prog 81 = true:=by decide +kernel
theorem T8 : Told Go.Proofs.Tryz.prog 82 wW [.t 4] 2:=Told.of Go.Proofs.Tryz.func82 (by decide +kernel)
theorem Ns : ax Go.Proofs.Tryz.prog 82 = true:=by decide +kernel
theorem T9 : Told Go.Proofs.Tryz.prog 83 wT [.t 4] 2:=Told.of Go.Proofs.Tryz.func83 (by decide +kernel)
theorem Nt : ax Go.Proofs.Tryz.prog 83 = true:=by decide +kernel
theorem Ua : Told Go.Proofs.Tryz.prog 84 wV [.t 4] 2:=Told.of Go.Proofs.Tryz.func84 (by decide +kernel)
theorem Nu : ax Go.Proofs.Tryz.prog 84 = true:=by decide +kernel
theorem Ub : Told Go.Proofs.Tryz.prog 85 w5 [.t 4] 2:=Told.of Go.Proofs.Tryz.func85 (by decide +kernel)
theorem Nv : ax Go.Proofs.Tryz.prog 85 = true:=by decide +kernel
theorem Uc : Told Go.Proofs.Tryz.prog 86 wZ [.t 4] 2:=Told.of Go.Proofs.Tryz.func86 (by decide +kernel)
theorem Nw : ax Go.Proofs.Tryz.prog 86 = true:=by decide +kernel
theorem Ud : Told Go.Proofs.Tryz.prog 87 wR [.t 4] 2:=Told.of Go.Proofs.Tryz.func87 (by decide +kernel)
theorem Nx : ax Go.Proofs.Tryz.prog 87 = true:=by decide +kernel
theorem Ue : Told Go.Proofs.Tryz.prog 88 wQ [.t 4] 2:=Told.of Go.Proofs.Tryz.func88 (by decide +kernel)
theorem Ny : ax Go.Proofs.Tryz.prog 88 = true:=by decide +kernel
theorem Uf : Told Go.Proofs.Tryz.prog 89 j7 [.t 2] 1:=Told.of Go.Proofs.Tryz.func89 (by decide +kernel)
theorem Nz : ax Go.Proofs.Tryz.prog 89 = true:=by decide +kernel
theorem Ug : Told Go.Proofs.Tryz.prog 90 xN [.t 6] 3:=Told.of Go.Proofs.Tryz.func90 (by decide +kernel)
theorem NA : ax Go.Proofs.Tryz.prog 90 = true:=by decide +kernel
theorem Uh : Told Go.Proofs.Tryz.prog 91 xS [.c 2 7 true 61] 1:=Told.of Go.Proofs.Tryz.func91 (by decide +kernel)
theorem NB : ax Go.Proofs.Tryz.prog 91 = true:=by decide +kernel
theorem Ui : Told Go.Proofs.Tryz.prog 92 jk [.t 2] 1:=Told.of Go.Proofs.Tryz.func92 (by decide +kernel)
theorem NC : ax Go.Proofs.Tryz.prog 92 = true:=by decide +kernel
theorem Uj : Told Go.Proofs.Tryz.prog 94 lp [.t 2] 1:=Told.of Go.Proofs.Tryz.func94 (by decide +kernel)
theorem ND : ax Go.Proofs.Tryz.prog 94 = true:=by decide +kernel
theorem R6 : Told Go.Proofs.Tryz.prog 105 pU [.t 4] 2:=Told.of Go.Proofs.Tryz.func105 (by decide +kernel)
theorem Lw : ax Go.Proofs.Tryz.prog 105 = true:=by decide +kernel
theorem R7 : Told Go.Proofs.Tryz.prog 106 pR [.t 4] 2:=Told.of Go.Proofs.Tryz.func106 (by decide +kernel)
theorem Lx : ax Go.Proofs.Tryz.prog 106 = true:=by decide +kernel
theorem R8 : Told Go.Proofs.Tryz.prog 108 iP [.t 2] 1:=Told.of Go.Proofs.Tryz.func108 (by decide +kernel)
theorem Ly : ax Go.Proofs.Tryz.prog 108 = true:=by decide +kernel
theorem R9 : Told Go.Proofs.Tryz.prog 111 xp [.t 2] 1:=Told.of Go.Proofs.Tryz.func111 (by decide +kernel)
theorem Lz : ax Go.Proofs.Tryz.prog 111 = true:=by decide +kernel
theorem Sa : Told Go.Proofs.Tryz.prog 112 xm [.c 2 3 true 59] 1:=Told.of Go.Proofs.Tryz.func112 (by decide +kernel)
theorem LA : ax Go.Proofs.Tryz.prog 112 = true:=by decide +kernel
theorem Sb : Told Go.Proofs.Tryz.prog 118 pV [.t 4] 2:=Told.of Go.Proofs.Tryz.func118 (by decide +kernel)
theorem LB : ax Go.Proofs.Tryz.prog 118 = true:=by decide +kernel
theorem Sc : Told Go.Proofs.Tryz.prog 119 xI [.t 2] 1:=Told.of Go.Proofs.Tryz.func119 (by decide +kernel)
theorem LC : ax Go.Proofs.Tryz.prog 119 = true:=by decide +kernel
theorem Sd : Told Go.Proofs.Tryz.prog 127 xq [.t 2] 1:=Told.of Go.Proofs.Tryz.func127 (by decide +kernel)
theorem LD : ax Go.Proofs.Tryz.prog 127 = true:=by decide +kernel
theorem Sf : Told Go.Proofs.Tryz.prog 128 vR [.t 2] 1:=Told.of Go.Proofs.Tryz.func128 (by decide +kernel)
theorem LF : ax Go.Proofs.Tryz.prog 128 = true:=by decide +kernel
theorem Sg : Told Go.Proofs.Tryz.prog 132 wN [.t 4] 2:=Told.of Go.Proofs.Tryz.func132 (by decide +kernel)
theorem LG : ax Go.Proofs.Tryz.prog 132 = true:=by decide +kernel
theorem Si : Told Go.Proofs.Tryz.prog 133 w7 [.t 4] 2:=Told.of Go.Proofs.Tryz.func133 (by decide +kernel)
theorem LH : ax Go.Proofs.Tryz.prog 133 = true:=by decide +kernel
theorem Sj : Told Go.Proofs.Tryz.prog 137 xT [.t 6] 3:=Told.of Go.Proofs.Tryz.func137 (by decide +kernel)
theorem LJ : ax Go.Proofs.Tryz.prog 137 = true:=by decide +kernel
theorem Sk : Told Go.Proofs.Tryz.prog 139 ju [.t 4] 2:=Told.of Go.Proofs.Tryz.func139 (by decide +kernel)
theorem LK : ax Go.Proofs.Tryz.prog 139 = true:=by decide +kernel
theorem Sl : Told Go.Proofs.Tryz.prog 143 wC [.t 2] 1:=Told.of Go.Proofs.Tryz.func143 (by decide +kernel)
theorem LL : ax Go.Proofs.Tryz.prog 143 = true:=by decide +kernel
theorem Sm : Told Go.Proofs.Tryz.prog 145 kO [.t 4] 2:=Told.of Go.Proofs.Tryz.func145 (by decide +kernel)
theorem LM : ax Go.Proofs.Tryz.prog 145 = true:=by decide +kernel
theorem Sn : Told Go.Proofs.Tryz.prog 154 vZ [.t 6] 3:=Told.of Go.Proofs.Tryz.func154 (by decide +kernel)
theorem LN : ax Go.Proofs.Tryz.prog 154 = true:=by decide +kernel
theorem Sq : Told Go.Proofs.Tryz.prog 158 sY [.t 4] 2:=Told.of Go.Proofs.Tryz.func158 (by decide +kernel)
theorem LO : ax Go.Proofs.Tryz.prog 158 = true:=by decide +kernel
theorem Sr : Told Go.Proofs.Tryz.prog 159 pP [.t 4] 2:=Told.of Go.Proofs.Tryz.func159 (by decide +kernel)
theorem LP : ax Go.Proofs.Tryz.prog 159 = true:=by decide +kernel
theorem Ss : Told Go.Proofs.Tryz.prog 160 oa [.t 2] 1:=Told.of Go.Proofs.Tryz.func160 (by decide +kernel)
theorem LQ : ax Go.Proofs.Tryz.prog 160 = true:=by decide +kernel
theorem Su : Told Go.Proofs.Tryz.prog 161 xJ [.t 2] 1:=Told.of Go.Proofs.Tryz.func161 (by decide +kernel)
theorem LR : ax Go.Proofs.Tryz.prog 161 = true:=by decide +kernel
theorem Sv : Told Go.Proofs.Tryz.prog 162 tO [.t 4,.t 5] 2:=Told.of Go.Proofs.Tryz.func162 (by decide +kernel)
theorem LS : ax Go.Proofs.Tryz.prog 162 = true:=by decide +kernel
theorem Sw : Told Go.Proofs.Tryz.prog 166 xj [.c 2 9 true 108] 1:=Told.of Go.Proofs.Tryz.func166 (by decide +kernel)
theorem LU : ax Go.Proofs.Tryz.prog 166 = true:=by decide +kernel
theorem Sy : Told Go.Proofs.Tryz.prog 167 xg [.c 2 2 true 214] 1:=Told.of Go.Proofs.Tryz.func167 (by decide +kernel)
theorem LV : ax Go.Proofs.Tryz.prog 167 = true:=by decide +kernel
theorem Sz : Told Go.Proofs.Tryz.prog 169 nF [.t 4] 2:=Told.of Go.Proofs.Tryz.func169 (by decide +kernel)
theorem LW : ax Go.Proofs.Tryz.prog 169 = true:=by decide +kernel
theorem SA : Told Go.Proofs.Tryz.prog 170 mu [.t 4] 2:=Told.of Go.Proofs.Tryz.func170 (by decide +kernel)
theorem LX : ax Go.Proofs.Tryz.prog 170 = true:=by decide +kernel
theorem SB : Told Go.Proofs.Tryz.prog 171 pJ [.t 4] 2:=Told.of Go.Proofs.Tryz.func171 (by decide +kernel)
theorem LY : ax Go.Proofs.Tryz.prog 171 = true:=by decide +kernel
theorem SC : Told Go.Proofs.Tryz.prog 172 sS [.t 2] 1:=Told.of Go.Proofs.Tryz.func172 (by decide +kernel)
theorem LZ : ax Go.Proofs.Tryz.prog 172 = true:=by decide +kernel
theorem SE : Told Go.Proofs.Tryz.prog 173 wO [.t 4] 2:=Told.of Go.Proofs.Tryz.func173 (by decide +kernel)
theorem L0 : ax Go.Proofs.Tryz.prog 173 = true:=by decide +kernel
theorem SF : Told Go.Proofs.Tryz.prog 174 uf [.t 2] 1:=Told.of Go.Proofs.Tryz.func174 (by decide +kernel)
theorem L1 : ax Go.Proofs.Tryz.prog 174 = true:=by decide +kernel
theorem SG : Told Go.Proofs.Tryz.prog 175 qo [.t 4] 2:=Told.of Go.Proofs.Tryz.func175 (by decide +kernel)
theorem L2 : ax Go.Proofs.Tryz.prog 175 = true:=by decide +kernel
theorem SH : Told Go.Proofs.Tryz.prog 176 xQ [.t 4] 2:=Told.of Go.Proofs.Tryz.func176 (by decide +kernel)
theorem L3 : ax Go.Proofs.Tryz.prog 176 = true:=by decide +kernel
theorem SI : Told Go.Proofs.Tryz.prog 177 xX [.c 2 3 true 59] 1:=Told.of Go.Proofs.Tryz.func177 (by decide +kernel)
theorem L4 : ax Go.Proofs.Tryz.prog 177 = true:=by decide +kernel
theorem SJ : Told Go.Proofs.Tryz.prog 178 kM [.t 2] 1:=Told.of Go.Proofs.Tryz.func178 (by decide +kernel)
theorem L5 : ax Go.Proofs.Tryz.prog 178 = true:=by decide +kernel
theorem SK : Told Go.Proofs.Tryz.prog 179 wB [.t 2] 1:=Told.of Go.Proofs.Tryz.func179 (by decide +kernel)
theorem L6 : ax Go.Proofs.Tryz.prog 179 = true:=by decide +kernel
theorem SM : Told Go.Proofs.Tryz.prog 180 wz [.t 6] 3:=Told.of Go.Proofs.Tryz.func180 (by decide +kernel)
theorem L8 : ax Go.Proofs.Tryz.prog 180 = true:=by decide +kernel
theorem SN : Told Go.Proofs.Tryz.prog 181 vW [.t 2] 1:=Told.of Go.Proofs.Tryz.func181 (by decide +kernel)
theorem L9 : ax Go.Proofs.Tryz.prog 181 = true:=by decide +kernel
theorem SO : Told Go.Proofs.Tryz.prog 183 wo [.c 2 7 true 61] 1:=Told.of Go.Proofs.Tryz.func183 (by decide +kernel)
theorem Ma : ax Go.Proofs.Tryz.prog 183 = true:=by decide +kernel
theorem SP : Told Go.Proofs.Tryz.prog 184 xO [.t 2] 1:=Told.of Go.Proofs.Tryz.func184 (by decide +kernel)
theorem Mb : ax Go.Proofs.Tryz.prog 184 = true:=by decide +kernel
theorem SQ : Told Go.Proofs.Tryz.prog 185 n9 [.t 2] 1:=Told.of Go.Proofs.Tryz.func185 (by decide +kernel)
theorem Mc : ax Go.Proofs.Tryz.prog 185 = true:=by decide +kernel
theorem SS : Told Go.Proofs.Tryz.prog 201 n7 [.t 2] 1:=Told.of Go.Proofs.Tryz.func201 (by decide +kernel)
theorem Mf : ax Go.Proofs.Tryz.prog 201 = true:=by decide +kernel
theorem SU : Told Go.Proofs.Tryz.prog 202 xW [.t 2] 1:=Told.of Go.Proofs.Tryz.func202 (by decide +kernel)
theorem Mg : ax Go.Proofs.Tryz.prog 202 = true:=by decide +kernel
theorem SV : Told Go.Proofs.Tryz.prog 203 xR [.t 2] 1:=Told.of Go.Proofs.Tryz.func203 (by decide +kernel)
theorem Mh : ax Go.Proofs.Tryz.prog 203 = true:=by decide +kernel
theorem SW : Told Go.Proofs.Tryz.prog 205 iJ [.t 2] 1:=Told.of Go.Proofs.Tryz.func205 (by decide +kernel)
theorem Mi : ax Go.Proofs.Tryz.prog 205 = true:=by decide +kernel
theorem SY : Told Go.Proofs.Tryz.prog 211 s5 [.t 4] 2:=Told.of Go.Proofs.Tryz.func211 (by decide +kernel)
theorem Mk : ax Go.Proofs.Tryz.prog 211 = true:=by decide +kernel
theorem SZ : Told Go.Proofs.Tryz.prog 218 xu [.c 2 2 true 246] 1:=Told.of Go.Proofs.Tryz.func218 (by decide +kernel)
theorem Ml : ax Go.Proofs.Tryz.prog 218 = true:=by decide +kernel
theorem S0 : Told Go.Proofs.Tryz.prog 219 wA [.t 2] 1:=Told.of Go.Proofs.Tryz.func219 (by decide +kernel)
theorem Mm : ax Go.Proofs.Tryz.prog 219 = true:=by decide +kernel
theorem S2 : Told Go.Proofs.Tryz.prog 223 uw [.t 4] 2:=Told.of Go.Proofs.Tryz.func223 (by decide +kernel)
theorem Mo : ax Go.Proofs.Tryz.prog 223 = true:=by decide +kernel
theorem S4 : Told Go.Proofs.Tryz.prog 227 pK [.t 4] 2:=Told.of Go.Proofs.Tryz.func227 (by decide +kernel)
theorem Mp : ax Go.Proofs.Tryz.prog 227 = true:=by decide +kernel
theorem S5 : Told Go.Proofs.Tryz.prog 234 sn [.t 4,.t 5] 2:=Told.of Go.Proofs.Tryz.func234 (by decide +kernel)
theorem Mq : ax Go.Proofs.Tryz.prog 234 = true:=by decide +kernel
theorem S7 : Told Go.Proofs.Tryz.prog 242 ux [.t 4] 2:=Told.of Go.Proofs.Tryz.func242 (by decide +kernel)
theorem Ms : ax Go.Proofs.Tryz.prog 242 = true:=by decide +kernel
theorem S8 : Told Go.Proofs.Tryz.prog 243 yq [.t 4] 2:=Told.of Go.Proofs.Tryz.func243 (by decide +kernel)
theorem Mt : ax Go.Proofs.Tryz.prog 243 = true:=by decide +kernel
theorem S9 : Told Go.Proofs.Tryz.prog 244 wj [.t 4] 2:=Told.of Go.Proofs.Tryz.func244 (by decide +kernel)
theorem Mu : ax Go.Proofs.Tryz.prog 244 = true:=by decide +kernel
theorem Ta : Told Go.Proofs.Tryz.prog 246 wq [.c 2 3 true 59] 1:=Told.of Go.Proofs.Tryz.func246 (by decide +kernel)
theorem Mv : ax Go.Proofs.Tryz.prog 246 = true:=by decide +kernel
theorem Tc : Told Go.Proofs.Tryz.prog 251 nB [.t 2] 1:=Told.of Go.Proofs.Tryz.func251 (by decide +kernel)
theorem Mx : ax Go.Proofs.Tryz.prog 251 = true:=by decide +kernel
theorem Td : Told Go.Proofs.Tryz.prog 252 uc [.t 4] 2:=Told.of Go.Proofs.Tryz.func252 (by decide +kernel)
theorem My : ax Go.Proofs.Tryz.prog 252 = true:=by decide +kernel
theorem Te : Told Go.Proofs.Tryz.prog 253 xM [.t 2] 1:=Told.of Go.Proofs.Tryz.func253 (by decide +kernel)
theorem Mz : ax Go.Proofs.Tryz.prog 253 = true:=by decide +kernel
theorem Tf : Told Go.Proofs.Tryz.prog 254 xL [.t 2] 1:=Told.of Go.Proofs.Tryz.func254 (by decide +kernel)
theorem MA : ax Go.Proofs.Tryz.prog 254 = true:=by decide +kernel
theorem Tg : Told Go.Proofs.Tryz.prog 258 xV [.t 2] 1:=Told.of Go.Proofs.Tryz.func258 (by decide +kernel)
theorem MB : ax Go.Proofs.Tryz.prog 258 = true:=by decide +kernel
theorem Th : Told Go.Proofs.Tryz.prog 259 pq [.t 2] 1:=Told.of Go.Proofs.Tryz.func259 (by decide +kernel)
theorem MC : ax Go.Proofs.Tryz.prog 259 = true:=by decide +kernel
theorem Tj : Told Go.Proofs.Tryz.prog 260 wg [.t 2] 1:=Told.of Go.Proofs.Tryz.func260 (by decide +kernel)
theorem ME : ax Go.Proofs.Tryz.prog 260 = true:=by decide +kernel
theorem Tl : Told Go.Proofs.Tryz.prog 261 nC [.t 2] 1:=Told.of Go.Proofs.Tryz.func261 (by decide +kernel)
theorem MF : ax Go.Proofs.Tryz.prog 261 = true:=by decide +kernel
theorem Tm : Told Go.Proofs.Tryz.prog 262 vV [.t 3] 2:=Told.of Go.Proofs.Tryz.func262 (by decide +kernel)
theorem MG : ax Go.Proofs.Tryz.prog 262 = true:=by decide +kernel
theorem Tn : Told Go.Proofs.Tryz.prog 264 xP [.t 2] 1:=Told.of Go.Proofs.Tryz.func264 (by decide +kernel)
theorem MH : ax Go.Proofs.Tryz.prog 264 = true:=by decide +kernel
theorem To : Told Go.Proofs.Tryz.prog 268 uC [.t 4] 2:=Told.of Go.Proofs.Tryz.func268 (by decide +kernel)
theorem MI : ax Go.Proofs.Tryz.prog 268 = true:=by decide +kernel
theorem Tq : Told Go.Proofs.Tryz.prog 271 wD [.t 2] 1:=Told.of Go.Proofs.Tryz.func271 (by decide +kernel)
theorem MK : ax Go.Proofs.Tryz.prog 271 = true:=by decide +kernel
theorem Ts : Told Go.Proofs.Tryz.prog 272 wk [.t 2] 1:=Told.of Go.Proofs.Tryz.func272 (by decide +kernel)
theorem ML : ax Go.Proofs.Tryz.prog 272 = true:=by decide +kernel
theorem Tv : Told Go.Proofs.Tryz.prog 294 vS [.t 2] 1:=Told.of Go.Proofs.Tryz.func294 (by decide +kernel)
theorem MP : ax Go.Proofs.Tryz.prog 294 = true:=by decide +kernel
theorem Tw : Told Go.Proofs.Tryz.prog 296 wv [.t 4] 2:=Told.of Go.Proofs.Tryz.func296 (by decide +kernel)
theorem MQ : ax Go.Proofs.Tryz.prog 296 = true:=by decide +kernel
theorem Tx : Told Go.Proofs.Tryz.prog 297 vY [.t 2] 1:=Told.of Go.Proofs.Tryz.func297 (by decide +kernel)
theorem MR : ax Go.Proofs.Tryz.prog 297 = true:=by decide +kernel
theorem Tz : Told Go.Proofs.Tryz.prog 299 vU [.t 2] 1:=Told.of Go.Proofs.Tryz.func299 (by decide +kernel)
theorem MS : ax Go.Proofs.Tryz.prog 299 = true:=by decide +kernel
theorem TB : Told Go.Proofs.Tryz.prog 303 uE [.t 4] 2:=Told.of Go.Proofs.Tryz.func303 (by decide +kernel)
theorem MU : ax Go.Proofs.Tryz.prog 303 = true:=by decide +kernel
theorem TD : Told Go.Proofs.Tryz.prog 305 wm [.t 4] 2:=Told.of Go.Proofs.Tryz.func305 (by decide +kernel)
theorem MW : ax Go.Proofs.Tryz.prog 305 = true:=by decide +kernel
theorem TE : Told Go.Proofs.Tryz.prog 306 wh [.t 2] 1:=Told.of Go.Proofs.Tryz.func306 (by decide +kernel)
theorem MX : ax Go.Proofs.Tryz.prog 306 = true:=by decide +kernel
theorem TH : Told Go.Proofs.Tryz.prog 320 uA [.t 4] 2:=Told.of Go.Proofs.Tryz.func320 (by decide +kernel)
theorem M0 : ax Go.Proofs.Tryz.prog 320 = true:=by decide +kernel
theorem TI : Told Go.Proofs.Tryz.prog 321 wu [.t 3] 2:=Told.of Go.Proofs.Tryz.func321 (by decide +kernel)
theorem M1 : ax Go.Proofs.Tryz.prog 321 = true:=by decide +kernel
theorem TC : Told Go.Proofs.Tryz.prog 304 (qU 2 32) [.t 2] 1:=Told.of Go.Proofs.Tryz.func304 (by decide +kernel)
theorem S3 : Told Go.Proofs.Tryz.prog 225 (qU 1 16) [.t 2] 1:=Told.of Go.Proofs.Tryz.func225 (by decide +kernel)
theorem UK : TT.Ok Go.Proofs.Tryz.prog:=by
 refine ⟨fun f F h=>?_,fun f F h=>?_⟩
 ·unfold TT at h
  split at h
  ·cases h; exact TS
  ·cases h; exact SL
  ·cases h; exact SR
  ·cases h; exact SX
  ·cases h; exact S1
  ·cases h; exact S6
  ·cases h; exact Tb
  ·cases h; exact Ti
  ·cases h; exact Tp
  ·cases h; exact Tt
  ·cases h; exact Tu
  ·cases h; exact TA
  ·cases h; exact TF
  ·cases h; exact TG
  ·cases h; exact TJ
  ·cases h; exact TK
  ·cases h; exact TL
  ·cases h; exact TM
  ·cases h; exact TN
  ·cases h; exact TO
  ·cases h; exact TP
  ·cases h; exact TQ
  ·cases h; exact TR
  ·cases h; exact TU
  ·cases h; exact TV
  ·cases h; exact TW
  ·cases h; exact TX
  ·cases h; exact TY
  ·cases h; exact TZ
  ·cases h; exact T0
  ·cases h; exact T3
  ·cases h; exact T4
  ·cases h; exact T5
  ·cases h; exact T6
  ·cases h; exact T7
  ·cases h; exact T8
  ·cases h; exact T9
  ·cases h; exact Ua
  ·cases h; exact Ub
  ·cases h; exact Uc
  ·cases h; exact Ud
  ·cases h; exact Ue
  ·cases h; exact Uf
  ·cases h; exact Ug
  ·cases h; exact Uh
  ·cases h; exact Ui
  ·cases h; exact Uj
  ·cases h; exact R6
  ·cases h; exact R7
  ·cases h; exact R8
  ·cases h; exact R9
  ·cases h; exact Sa
  ·cases h; exact Sb
  ·cases h; exact Sc
  ·cases h; exact Sd
  ·cases h; exact Sf
  ·cases h; exact Sg
  ·cases h; exact Si
  ·cases h; exact Sj
  ·cases h; exact Sk
  ·cases h; exact Sl
  ·cases h; exact Sm
  ·cases h; exact Sn
  ·cases h; exact Sq
  ·cases h; exact Sr
  ·cases h; exact Ss
  ·cases h; exact Su
  ·cases h; exact Sv
  ·cases h; exact Sw
  ·cases h; exact Sy
  ·cases h; exact Sz
  ·cases h; exact SA
  ·cases h; exact SB
  ·cases h; exact SC
  ·cases h; exact SE
  ·cases h; exact SF
  ·cases h; exact SG
  ·cases h; exact SH
  ·cases h; exact SI
  ·cases h; exact SJ
  ·cases h; exact SK
  ·cases h; exact SM
  ·cases h; exact SN
  ·cases h; exact SO
  ·cases h; exact SP
  ·cases h; exact SQ
  ·cases h; exact SS
  ·cases h; exact SU
  ·cases h; exact SV
  ·cases h; exact SW
  ·cases h; exact SY
  ·cases h; exact SZ
  ·cases h; exact S0
  ·cases h; exact S2
  ·cases h; exact S4
  ·cases h; exact S5
  ·cases h; exact S7
  ·cases h; exact S8
  ·cases h; exact S9
  ·cases h; exact Ta
  ·cases h; exact Tc
  ·cases h; exact Td
  ·cases h; exact Te
  ·cases h; exact Tf
  ·cases h; exact Tg
  ·cases h; exact Th
  ·cases h; exact Tj
  ·cases h; exact Tl
  ·cases h; exact Tm
  ·cases h; exact Tn
  ·cases h; exact To
  ·cases h; exact Tq
  ·cases h; exact Ts
  ·cases h; exact Tv
  ·cases h; exact Tw
  ·cases h; exact Tx
  ·cases h; exact Tz
  ·cases h; exact TB
  ·cases h; exact TD
  ·cases h; exact TE
  ·cases h; exact TH
  ·cases h; exact TI
  ·cases h
 ·unfold TT at h
  split at h
  ·cases h; exact Nc
  ·cases h; exact L7
  ·cases h; exact Me
  ·cases h; exact Mj
  ·cases h; exact Mn
  ·cases h; exact Mr
  ·cases h; exact Mw
  ·cases h; exact MD
  ·cases h; exact MJ
  ·cases h; exact MN
  ·cases h; exact MO
  ·cases h; exact MT
  ·cases h; exact MY
  ·cases h; exact MZ
  ·cases h; exact M3
  ·cases h; exact M4
  ·cases h; exact M5
  ·cases h; exact M6
  ·cases h; exact M7
  ·cases h; exact M8
  ·cases h; exact M9
  ·cases h; exact Na
  ·cases h; exact Nb
  ·cases h; exact Nd
  ·cases h; exact Nf
  ·cases h; exact Ng
  ·cases h; exact Nh
  ·cases h; exact Ni
  ·cases h; exact Nj
  ·cases h; exact Nk
  ·cases h; exact Nl
  ·cases h; exact Nn
  ·cases h; exact Np
  ·cases h; exact Nq
  ·cases h; exact Nr
  ·cases h; exact Ns
  ·cases h; exact Nt
  ·cases h; exact Nu
  ·cases h; exact Nv
  ·cases h; exact Nw
  ·cases h; exact Nx
  ·cases h; exact Ny
  ·cases h; exact Nz
  ·cases h; exact NA
  ·cases h; exact NB
  ·cases h; exact NC
  ·cases h; exact ND
  ·cases h; exact Lw
  ·cases h; exact Lx
  ·cases h; exact Ly
  ·cases h; exact Lz
  ·cases h; exact LA
  ·cases h; exact LB
  ·cases h; exact LC
  ·cases h; exact LD
  ·cases h; exact LF
  ·cases h; exact LG
  ·cases h; exact LH
  ·cases h; exact LJ
  ·cases h; exact LK
  ·cases h; exact LL
  ·cases h; exact LM
  ·cases h; exact LN
  ·cases h; exact LO
  ·cases h; exact LP
  ·cases h; exact LQ
  ·cases h; exact LR
  ·cases h; exact LS
  ·cases h; exact LU
  ·cases h; exact LV
  ·cases h; exact LW
  ·cases h; exact LX
  ·cases h; exact LY
  ·cases h; exact LZ
  ·cases h; exact L0
  ·cases h; exact L1
  ·cases h; exact L2
  ·cases h; exact L3
  ·cases h; exact L4
  ·cases h; exact L5
  ·cases h; exact L6
  ·cases h; exact L8
  ·cases h; exact L9
  ·cases h; exact Ma
  ·cases h; exact Mb
  ·cases h; exact Mc
  ·cases h; exact Mf
  ·cases h; exact Mg
  ·cases h; exact Mh
  ·cases h; exact Mi
  ·cases h; exact Mk
  ·cases h; exact Ml
  ·cases h; exact Mm
  ·cases h; exact Mo
  ·cases h; exact Mp
  ·cases h; exact Mq
  ·cases h; exact Ms
  ·cases h; exact Mt
  ·cases h; exact Mu
  ·cases h; exact Mv
  ·cases h; exact Mx
  ·cases h; exact My
  ·cases h; exact Mz
  ·cases h; exact MA
  ·cases h; exact MB
  ·cases h; exact MC
  ·cases h; exact ME
  ·cases h; exact MF
  ·cases h; exact MG
  ·cases h; exact MH
  ·cases h; exact MI
  ·cases h; exact MK
  ·cases h; exact ML
  ·cases h; exact MP
  ·cases h; exact MQ
  ·cases h; exact MR
  ·cases h; exact MS
  ·cases h; exact MU
  ·cases h; exact MW
  ·cases h; exact MX
  ·cases h; exact M0
  ·cases h; exact M1
  ·cases h
theorem UI (hmax : ∃ m,Bs.W0.cell? ⟨1,0,none⟩ = some (.int .i64 m)) : iy.Sound Go.Proofs.Tryz.prog:=(tG (Dy TC) (tG (Dy S3) (tG (N9 fun s p w=>Go.Proofs.Tryz.strings_HasPrefix s p w) (tG (RI (g1:=1) (t9:=_) hmax fun s sep m w h1 h2 h3=>Go.Proofs.Tryz.strings_Split s sep m w h1 h2 h3) (Uk fun s c h w hs=>Go.Proofs.Tryz.strings_Trim_one s c h w hs)))))
end M
