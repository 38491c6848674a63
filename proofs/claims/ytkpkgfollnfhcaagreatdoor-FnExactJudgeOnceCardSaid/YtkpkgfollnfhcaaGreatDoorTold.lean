/- Each function of the table is the program's, and the library is as it is said to be; no conditions. -/
import Derived.Test.YtkpkgfollnfhcaaGreatDoorProg
import Derived.Test.YtkpkgfollnfhcaaGreatDoorLay
import Derived.Test.YtkpkgfollnfhcaaGreatDoorTab
import Derived.Test.YtkpkgfollnfhcaaGreatDoorMc
set_option linter.unusedSectionVars false
set_option linter.unusedVariables false
set_option linter.unusedSimpArgs false
set_option linter.unusedVariables false
set_option linter.unusedSectionVars false
set_option maxRecDepth 100000
namespace Go.Proofs
open Go.RowKit
set_option maxHeartbeats 2000000 in
set_option maxRecDepth 100000 in
theorem PN (s : ByteArray) (h : 7 < s.size) (w : World) :
    Calls Go.Proofs.Tryz.prog 300 #[.string s] w fun e w'=>e = .returned (.tuple #[.int .i64 0,.bool false])∧w' = w:=by
  go_enter Tryz.func300,Tryz.ntmps300
  go_wp2
  · go_ret2; exact ⟨rfl,rfl⟩
set_option maxHeartbeats 2000000 in
set_option maxRecDepth 100000 in
theorem PR (s : ByteArray) (h : ¬ 7 < s.size) (v : Int) (hv : Lib.atoiAll s.data.toList = .ok v) (w : World) (htab : Lib.TabIs Go.Proofs.Tryz.prog w "internal/strconv.uint64pow10" .u64 Lib.pow10Tab) :
    Calls Go.Proofs.Tryz.prog 300 #[.string s] w fun e w'=>e = .returned (.tuple #[.int .i64 (pK v s.data.toList),.bool (jE v s.data.toList)])∧Below w.heap.size w w':=by
  have gI:=Lib.atoiAll_bounds hv
  go_enter Tryz.func300,Tryz.ntmps300
  go_wp2_with (first
    | (go_at_call 323; refine (Tryz.strconv_Atoi_ok s (by omega) v hv _).mono ?_; rintro e W1 ⟨rfl,EA⟩; have cJ : Below w.heap.size w W1:=(by rcases EA with rfl | ⟨t,rfl⟩; exact Below.refl _ _; exact Lib.bytesWorld_below _ _ _); clear EA)
    | (go_at_call 265; refine (Tryz.strconv_Itoa v gI.1 gI.2 _ (RB htab cJ)).mono ?_; rintro e W2 ⟨rfl,k,os,EB⟩; have hY : Below w.heap.size w W2:=(by subst EB; exact cJ.trans ((NI W1 k os).mono cJ.size)); clear EB)
    | go_in)
  all_goals go_ret2
  all_goals refine ⟨?_,by assumption⟩
  all_goals first
    | (have hb : jE v s.data.toList = true:=(by
        unfold jE
        rw [decide_eq_true_eq]
        refine ⟨by assumption,by assumption,?_⟩
        rw [← Lib.toList_data]
        rename_i hz
        simpa using hz)
       rw [pK,if_pos hb,hb]; rfl)
    | (have hb : jE v s.data.toList = false:=(by
        unfold jE
        rw [decide_eq_false_iff_not]
        rintro ⟨h1,h2,h3⟩
        first
        | omega
        | (rw [← Lib.toList_data] at h3
           rename_i hz
           simp [h3] at hz))
       rw [pK,hb]; rfl)
set_option maxHeartbeats 2000000 in
set_option maxRecDepth 100000 in
theorem PL (s : ByteArray) (h : ¬ 7 < s.size) (w : World)
    (hA : Calls Go.Proofs.Tryz.prog 323 #[.string s] w fun e w'=>∃ n t N,e = .returned (.tuple #[.int .i64 n,.iface t (.pointer (some ⟨N,0,none⟩))])∧Below w.heap.size w w') :
    Calls Go.Proofs.Tryz.prog 300 #[.string s] w fun e w'=>e = .returned (.tuple #[.int .i64 0,.bool false])∧Below w.heap.size w w':=by
  go_enter Tryz.func300,Tryz.ntmps300
  go_wp2_with (first
    | (go_at_call 323; refine hA.mono ?_; rintro e W1 ⟨n,t,N,rfl,cJ⟩)
    | go_in)
  all_goals go_ret2
  all_goals exact ⟨rfl,by assumption⟩
theorem PK [B : M.Bs] (htab : Lib.TabIs Go.Proofs.Tryz.prog B.W0 "internal/strconv.uint64pow10" .u64 Lib.pow10Tab) (zT : ∃ te pe,B.W0.var? Go.Proofs.Tryz.prog "strconv.ErrSyntax" = some #[.iface te pe]) (gj : ∃ te pe,B.W0.var? Go.Proofs.Tryz.prog "strconv.ErrRange" = some #[.iface te pe])
    (s : ByteArray) (w : World) (hw : M.kT w) (hs : s.size≤9223372036854775807) :
    Calls Go.Proofs.Tryz.prog 300 #[.string s] w fun e w'=>e = .returned (.tuple #[.int .i64 (((M.cL s.data.toList).getD 0 : Nat) : Int),.bool (M.cL s.data.toList).isSome])∧Below w.heap.size w w':=by
  refine PO (a:=0) hs (fun h=>PN s h w) (fun h v hv=>PR s h v hv w (M.TabIs.same htab hw)) fun h hv=>?_
  refine PL s h w ?_
  rcases cU : Lib.atoiAll s.data.toList with v | _ | _
  · exact absurd cU (hv v)
  · obtain ⟨te,pe,h1⟩:=zT
    exact (Any.strconv_Atoi_syntax_var Tryz.laysC172 s (by omega) cU te pe w (Gy h1 hw)).mono fun e w' ⟨N,he,_,_,hb⟩=>⟨_,_,N,he,hb⟩
  · obtain ⟨te,pe,h1⟩:=gj
    exact (Any.strconv_Atoi_range_var Tryz.laysC172 s (by omega) cU te pe w (Gy h1 hw)).mono fun e w' ⟨N,he,_,_,hb⟩=>⟨_,_,N,he,hb⟩
end Go.Proofs
namespace M
open Go
variable [Bs]
theorem T6 : Told Go.Proofs.Tryz.prog 9 rV [.t 2] 1:=Told.of Go.Proofs.Tryz.func9 (by decide +kernel)
theorem Nv : ax Go.Proofs.Tryz.prog 9 = true:=by decide +kernel
theorem RJ : Told Go.Proofs.Tryz.prog 11 lT [.t 4] 2:=Told.of Go.Proofs.Tryz.func11 (by decide +kernel)
theorem Ld : ax Go.Proofs.Tryz.prog 11 = true:=by decide +kernel
theorem RT : Told Go.Proofs.Tryz.prog 13 wB [.c 2 10 true 48] 1:=Told.of Go.Proofs.Tryz.func13 (by decide +kernel)
theorem Ln : ax Go.Proofs.Tryz.prog 13 = true:=by decide +kernel
theorem Sa : Told Go.Proofs.Tryz.prog 15 ku [.t 4] 2:=Told.of Go.Proofs.Tryz.func15 (by decide +kernel)
theorem LD : ax Go.Proofs.Tryz.prog 15 = true:=by decide +kernel
theorem Sw : Told Go.Proofs.Tryz.prog 18 nr [.t 4] 2:=Told.of Go.Proofs.Tryz.func18 (by decide +kernel)
theorem LX : ax Go.Proofs.Tryz.prog 18 = true:=by decide +kernel
theorem SE : Told Go.Proofs.Tryz.prog 19 nq [.t 4] 2:=Told.of Go.Proofs.Tryz.func19 (by decide +kernel)
theorem L3 : ax Go.Proofs.Tryz.prog 19 = true:=by decide +kernel
theorem SJ : Told Go.Proofs.Tryz.prog 21 wU [.c 2 6 true 43] 1:=Told.of Go.Proofs.Tryz.func21 (by decide +kernel)
theorem L8 : ax Go.Proofs.Tryz.prog 21 = true:=by decide +kernel
theorem SO : Told Go.Proofs.Tryz.prog 22 wP [.c 2 4 true 66] 1:=Told.of Go.Proofs.Tryz.func22 (by decide +kernel)
theorem Me : ax Go.Proofs.Tryz.prog 22 = true:=by decide +kernel
theorem S0 : Told Go.Proofs.Tryz.prog 24 kz [.t 4] 2:=Told.of Go.Proofs.Tryz.func24 (by decide +kernel)
theorem Mp : ax Go.Proofs.Tryz.prog 24 = true:=by decide +kernel
theorem S3 : Told Go.Proofs.Tryz.prog 25 kA [.t 4] 2:=Told.of Go.Proofs.Tryz.func25 (by decide +kernel)
theorem Ms : ax Go.Proofs.Tryz.prog 25 = true:=by decide +kernel
theorem Ta : Told Go.Proofs.Tryz.prog 26 lS [.t 4] 2:=Told.of Go.Proofs.Tryz.func26 (by decide +kernel)
theorem Mz : ax Go.Proofs.Tryz.prog 26 = true:=by decide +kernel
theorem Tt : Told Go.Proofs.Tryz.prog 33 oV [.t 4] 2:=Told.of Go.Proofs.Tryz.func33 (by decide +kernel)
theorem MR : ax Go.Proofs.Tryz.prog 33 = true:=by decide +kernel
theorem Tu : Told Go.Proofs.Tryz.prog 35 wA [.c 2 4 true 83] 1:=Told.of Go.Proofs.Tryz.func35 (by decide +kernel)
theorem MS : ax Go.Proofs.Tryz.prog 35 = true:=by decide +kernel
theorem Tv : Told Go.Proofs.Tryz.prog 38 lU [.t 4] 2:=Told.of Go.Proofs.Tryz.func38 (by decide +kernel)
theorem MT : ax Go.Proofs.Tryz.prog 38 = true:=by decide +kernel
theorem Tw : Told Go.Proofs.Tryz.prog 40 wK [.c 2 7 true 61] 1:=Told.of Go.Proofs.Tryz.func40 (by decide +kernel)
theorem MU : ax Go.Proofs.Tryz.prog 40 = true:=by decide +kernel
theorem Tx : Told Go.Proofs.Tryz.prog 42 tG [.t 2] 1:=Told.of Go.Proofs.Tryz.func42 (by decide +kernel)
theorem MW : ax Go.Proofs.Tryz.prog 42 = true:=by decide +kernel
theorem Tz : Told Go.Proofs.Tryz.prog 43 rH [.t 2] 1:=Told.of Go.Proofs.Tryz.func43 (by decide +kernel)
theorem MX : ax Go.Proofs.Tryz.prog 43 = true:=by decide +kernel
theorem TA : Told Go.Proofs.Tryz.prog 44 oW [.t 4] 2:=Told.of Go.Proofs.Tryz.func44 (by decide +kernel)
theorem MY : ax Go.Proofs.Tryz.prog 44 = true:=by decide +kernel
theorem TB : Told Go.Proofs.Tryz.prog 46 wC [.c 2 2 true 39] 1:=Told.of Go.Proofs.Tryz.func46 (by decide +kernel)
theorem MZ : ax Go.Proofs.Tryz.prog 46 = true:=by decide +kernel
theorem TC : Told Go.Proofs.Tryz.prog 48 oR [.t 4] 2:=Told.of Go.Proofs.Tryz.func48 (by decide +kernel)
theorem M0 : ax Go.Proofs.Tryz.prog 48 = true:=by decide +kernel
theorem TD : Told Go.Proofs.Tryz.prog 50 oZ [.t 4] 2:=Told.of Go.Proofs.Tryz.func50 (by decide +kernel)
theorem M1 : ax Go.Proofs.Tryz.prog 50 = true:=by decide +kernel
theorem TE : Told Go.Proofs.Tryz.prog 51 o9 [.t 4] 2:=Told.of Go.Proofs.Tryz.func51 (by decide +kernel)
theorem M3 : ax Go.Proofs.Tryz.prog 51 = true:=by decide +kernel
theorem TF : Told Go.Proofs.Tryz.prog 52 o7 [.t 4] 2:=Told.of Go.Proofs.Tryz.func52 (by decide +kernel)
theorem M4 : ax Go.Proofs.Tryz.prog 52 = true:=by decide +kernel
theorem TG : Told Go.Proofs.Tryz.prog 53 jK [.t 2] 1:=Told.of Go.Proofs.Tryz.func53 (by decide +kernel)
theorem M5 : ax Go.Proofs.Tryz.prog 53 = true:=by decide +kernel
theorem TH : Told Go.Proofs.Tryz.prog 55 xG [.t 4] 2:=Told.of Go.Proofs.Tryz.func55 (by decide +kernel)
theorem M6 : ax Go.Proofs.Tryz.prog 55 = true:=by decide +kernel
theorem TI : Told Go.Proofs.Tryz.prog 57 wF [.t 2] 1:=Told.of Go.Proofs.Tryz.func57 (by decide +kernel)
theorem M7 : ax Go.Proofs.Tryz.prog 57 = true:=by decide +kernel
theorem TJ : Told Go.Proofs.Tryz.prog 58 wR [.t 2] 1:=Told.of Go.Proofs.Tryz.func58 (by decide +kernel)
theorem M8 : ax Go.Proofs.Tryz.prog 58 = true:=by decide +kernel
theorem TK : Told Go.Proofs.Tryz.prog 59 wM [.t 2] 1:=Told.of Go.Proofs.Tryz.func59 (by decide +kernel)
theorem M9 : ax Go.Proofs.Tryz.prog 59 = true:=by decide +kernel
theorem TL : Told Go.Proofs.Tryz.prog 60 kj [.t 2] 1:=Told.of Go.Proofs.Tryz.func60 (by decide +kernel)
theorem Na : ax Go.Proofs.Tryz.prog 60 = true:=by decide +kernel
theorem TM : Told Go.Proofs.Tryz.prog 62 wh [.t 4] 2:=Told.of Go.Proofs.Tryz.func62 (by decide +kernel)
theorem Nb : ax Go.Proofs.Tryz.prog 62 = true:=by decide +kernel
theorem TN : Told Go.Proofs.Tryz.prog 63 wo [.t 4] 2:=Told.of Go.Proofs.Tryz.func63 (by decide +kernel)
theorem Nc : ax Go.Proofs.Tryz.prog 63 = true:=by decide +kernel
theorem TO : Told Go.Proofs.Tryz.prog 64 wm [.t 4] 2:=Told.of Go.Proofs.Tryz.func64 (by decide +kernel)
theorem Nd : ax Go.Proofs.Tryz.prog 64 = true:=by decide +kernel
theorem TP : Told Go.Proofs.Tryz.prog 67 o6 [.t 4] 2:=Told.of Go.Proofs.Tryz.func67 (by decide +kernel)
theorem Nf : ax Go.Proofs.Tryz.prog 67 = true:=by decide +kernel
theorem TQ : Told Go.Proofs.Tryz.prog 68 oU [.t 4] 2:=Told.of Go.Proofs.Tryz.func68 (by decide +kernel)
theorem Ng : ax Go.Proofs.Tryz.prog 68 = true:=by decide +kernel
theorem TR : Told Go.Proofs.Tryz.prog 69 oX [.t 4] 2:=Told.of Go.Proofs.Tryz.func69 (by decide +kernel)
theorem Nh : ax Go.Proofs.Tryz.prog 69 = true:=by decide +kernel
theorem TS : Told Go.Proofs.Tryz.prog 70 pY [.t 2] 1:=Told.of Go.Proofs.Tryz.func70 (by decide +kernel)
theorem Ni : ax Go.Proofs.Tryz.prog 70 = true:=by decide +kernel
theorem TU : Told Go.Proofs.Tryz.prog 71 xm [.c 2 6 true 122] 1:=Told.of Go.Proofs.Tryz.func71 (by decide +kernel)
theorem Nj : ax Go.Proofs.Tryz.prog 71 = true:=by decide +kernel
theorem TV : Told Go.Proofs.Tryz.prog 73 wI [.t 2] 1:=Told.of Go.Proofs.Tryz.func73 (by decide +kernel)
theorem Nk : ax Go.Proofs.Tryz.prog 73 = true:=by decide +kernel
theorem TW : Told Go.Proofs.Tryz.prog 74 wz [.t 2] 1:=Told.of Go.Proofs.Tryz.func74 (by decide +kernel)
theorem Nl : ax Go.Proofs.Tryz.prog 74 = true:=by decide +kernel
theorem TX : Told Go.Proofs.Tryz.prog 75 wD [.t 2] 1:=Told.of Go.Proofs.Tryz.func75 (by decide +kernel)
theorem Nn : ax Go.Proofs.Tryz.prog 75 = true:=by decide +kernel
theorem TY : Told Go.Proofs.Tryz.prog 77 wq [.t 4] 2:=Told.of Go.Proofs.Tryz.func77 (by decide +kernel)
theorem Np : ax Go.Proofs.Tryz.prog 77 = true:=by decide +kernel
theorem TZ : Told Go.Proofs.Tryz.prog 78 nh [.t 4] 2:=Told.of Go.Proofs.Tryz.func78 (by decide +kernel)
theorem Nq : ax Go.Proofs.Tryz.prog 78 = true:=by decide +kernel
theorem T0 : Told Go.Proofs.Tryz.prog 79 wk [.t 4] 2:=Told.of Go.Proofs.Tryz.func79 (by decide +kernel)
theorem Nr : ax Go.Proofs.Tryz.prog 79 = true:=by decide +kernel
theorem T3 : Told Go.Proofs.Tryz.prog 80 v8 [.t 4] 2:=Told.of Go.Proofs.Tryz.func80 (by decide +kernel)
theorem Ns : ax Go.Proofs.Tryz.prog 80 = true:=by decide +kernel
theorem T4 : Told Go.Proofs.Tryz.prog 81 wg [.t 4] 2:=Told.of Go.Proofs.Tryz.func81 (by decide +kernel)
theorem Nt : ax Go.Proofs.Tryz.prog 81 = true:=by decide +kernel
theorem T5 : Told Go.Proofs.Tryz.prog 89 jN [.t 2] 1:=Told.of Go.Proofs.Tryz.func89 (by decide +kernel)
theorem Nu : ax Go.Proofs.Tryz.prog 89 = true:=by decide +kernel
theorem T7 : Told Go.Proofs.Tryz.prog 92 iS [.t 2] 1:=Told.of Go.Proofs.Tryz.func92 (by decide +kernel)
theorem Nw : ax Go.Proofs.Tryz.prog 92 = true:=by decide +kernel
theorem T8 : Told Go.Proofs.Tryz.prog 94 kJ [.t 2] 1:=Told.of Go.Proofs.Tryz.func94 (by decide +kernel)
theorem Nx : ax Go.Proofs.Tryz.prog 94 = true:=by decide +kernel
theorem RG : Told Go.Proofs.Tryz.prog 105 pq [.t 4] 2:=Told.of Go.Proofs.Tryz.func105 (by decide +kernel)
theorem La : ax Go.Proofs.Tryz.prog 105 = true:=by decide +kernel
theorem RH : Told Go.Proofs.Tryz.prog 106 o8 [.t 4] 2:=Told.of Go.Proofs.Tryz.func106 (by decide +kernel)
theorem Lb : ax Go.Proofs.Tryz.prog 106 = true:=by decide +kernel
theorem RI : Told Go.Proofs.Tryz.prog 108 iz [.t 2] 1:=Told.of Go.Proofs.Tryz.func108 (by decide +kernel)
theorem Lc : ax Go.Proofs.Tryz.prog 108 = true:=by decide +kernel
theorem RL : Told Go.Proofs.Tryz.prog 111 wV [.t 2] 1:=Told.of Go.Proofs.Tryz.func111 (by decide +kernel)
theorem Le : ax Go.Proofs.Tryz.prog 111 = true:=by decide +kernel
theorem RM : Told Go.Proofs.Tryz.prog 112 wQ [.c 2 3 true 59] 1:=Told.of Go.Proofs.Tryz.func112 (by decide +kernel)
theorem Lf : ax Go.Proofs.Tryz.prog 112 = true:=by decide +kernel
theorem RN : Told Go.Proofs.Tryz.prog 114 xD [.t 2] 1:=Told.of Go.Proofs.Tryz.func114 (by decide +kernel)
theorem Lg : ax Go.Proofs.Tryz.prog 114 = true:=by decide +kernel
theorem RO : Told Go.Proofs.Tryz.prog 115 vW [.t 2] 1:=Told.of Go.Proofs.Tryz.func115 (by decide +kernel)
theorem Lh : ax Go.Proofs.Tryz.prog 115 = true:=by decide +kernel
theorem RP : Told Go.Proofs.Tryz.prog 118 pz [.t 4] 2:=Told.of Go.Proofs.Tryz.func118 (by decide +kernel)
theorem Li : ax Go.Proofs.Tryz.prog 118 = true:=by decide +kernel
theorem RQ : Told Go.Proofs.Tryz.prog 119 xp [.t 2] 1:=Told.of Go.Proofs.Tryz.func119 (by decide +kernel)
theorem Lj : ax Go.Proofs.Tryz.prog 119 = true:=by decide +kernel
theorem RR : Told Go.Proofs.Tryz.prog 127 wW [.t 2] 1:=Told.of Go.Proofs.Tryz.func127 (by decide +kernel)
theorem Ll : ax Go.Proofs.Tryz.prog 127 = true:=by decide +kernel
theorem RS : Told Go.Proofs.Tryz.prog 128 vB [.t 2] 1:=Told.of Go.Proofs.Tryz.func128 (by decide +kernel)
theorem Lm : ax Go.Proofs.Tryz.prog 128 = true:=by decide +kernel
theorem RU : Told Go.Proofs.Tryz.prog 132 wu [.t 4] 2:=Told.of Go.Proofs.Tryz.func132 (by decide +kernel)
theorem Lo : ax Go.Proofs.Tryz.prog 132 = true:=by decide +kernel
theorem RW : Told Go.Proofs.Tryz.prog 134 nj [.t 4] 2:=Told.of Go.Proofs.Tryz.func134 (by decide +kernel)
theorem Lp : ax Go.Proofs.Tryz.prog 134 = true:=by decide +kernel
theorem RX : Told Go.Proofs.Tryz.prog 135 pg [.t 4] 2:=Told.of Go.Proofs.Tryz.func135 (by decide +kernel)
theorem Lq : ax Go.Proofs.Tryz.prog 135 = true:=by decide +kernel
theorem RY : Told Go.Proofs.Tryz.prog 136 nk [.t 4] 2:=Told.of Go.Proofs.Tryz.func136 (by decide +kernel)
theorem Lr : ax Go.Proofs.Tryz.prog 136 = true:=by decide +kernel
theorem RZ : Told Go.Proofs.Tryz.prog 137 xF [.t 6] 3:=Told.of Go.Proofs.Tryz.func137 (by decide +kernel)
theorem Ls : ax Go.Proofs.Tryz.prog 137 = true:=by decide +kernel
theorem R1 : Told Go.Proofs.Tryz.prog 138 jJ [.t 4] 2:=Told.of Go.Proofs.Tryz.func138 (by decide +kernel)
theorem Lt : ax Go.Proofs.Tryz.prog 138 = true:=by decide +kernel
theorem R2 : Told Go.Proofs.Tryz.prog 140 wG [.c 2 13 true 184] 1:=Told.of Go.Proofs.Tryz.func140 (by decide +kernel)
theorem Lu : ax Go.Proofs.Tryz.prog 140 = true:=by decide +kernel
theorem R3 : Told Go.Proofs.Tryz.prog 141 wT [.c 2 8 true 188] 1:=Told.of Go.Proofs.Tryz.func141 (by decide +kernel)
theorem Lv : ax Go.Proofs.Tryz.prog 141 = true:=by decide +kernel
theorem R4 : Told Go.Proofs.Tryz.prog 142 wN [.c 2 18 true 104] 1:=Told.of Go.Proofs.Tryz.func142 (by decide +kernel)
theorem Lw : ax Go.Proofs.Tryz.prog 142 = true:=by decide +kernel
theorem R5 : Told Go.Proofs.Tryz.prog 143 vU [.t 2] 1:=Told.of Go.Proofs.Tryz.func143 (by decide +kernel)
theorem Lx : ax Go.Proofs.Tryz.prog 143 = true:=by decide +kernel
theorem R6 : Told Go.Proofs.Tryz.prog 144 vP [.t 2] 1:=Told.of Go.Proofs.Tryz.func144 (by decide +kernel)
theorem Lz : ax Go.Proofs.Tryz.prog 144 = true:=by decide +kernel
theorem R7 : Told Go.Proofs.Tryz.prog 146 lR [.t 4] 2:=Told.of Go.Proofs.Tryz.func146 (by decide +kernel)
theorem LA : ax Go.Proofs.Tryz.prog 146 = true:=by decide +kernel
theorem R8 : Told Go.Proofs.Tryz.prog 147 ni [.t 4] 2:=Told.of Go.Proofs.Tryz.func147 (by decide +kernel)
theorem LB : ax Go.Proofs.Tryz.prog 147 = true:=by decide +kernel
theorem R9 : Told Go.Proofs.Tryz.prog 148 iV [.t 4] 2:=Told.of Go.Proofs.Tryz.func148 (by decide +kernel)
theorem LC : ax Go.Proofs.Tryz.prog 148 = true:=by decide +kernel
theorem Sb : Told Go.Proofs.Tryz.prog 152 vz [.c 2 6 true 122] 1:=Told.of Go.Proofs.Tryz.func152 (by decide +kernel)
theorem LF : ax Go.Proofs.Tryz.prog 152 = true:=by decide +kernel
theorem Sc : Told Go.Proofs.Tryz.prog 158 sA [.t 4] 2:=Told.of Go.Proofs.Tryz.func158 (by decide +kernel)
theorem LG : ax Go.Proofs.Tryz.prog 158 = true:=by decide +kernel
theorem Sd : Told Go.Proofs.Tryz.prog 159 oY [.t 4] 2:=Told.of Go.Proofs.Tryz.func159 (by decide +kernel)
theorem LH : ax Go.Proofs.Tryz.prog 159 = true:=by decide +kernel
theorem Sf : Told Go.Proofs.Tryz.prog 160 nP [.t 2] 1:=Told.of Go.Proofs.Tryz.func160 (by decide +kernel)
theorem LJ : ax Go.Proofs.Tryz.prog 160 = true:=by decide +kernel
theorem Sg : Told Go.Proofs.Tryz.prog 161 xq [.t 2] 1:=Told.of Go.Proofs.Tryz.func161 (by decide +kernel)
theorem LK : ax Go.Proofs.Tryz.prog 161 = true:=by decide +kernel
theorem Si : Told Go.Proofs.Tryz.prog 162 tD [.t 4,.t 5] 2:=Told.of Go.Proofs.Tryz.func162 (by decide +kernel)
theorem LL : ax Go.Proofs.Tryz.prog 162 = true:=by decide +kernel
theorem Sj : Told Go.Proofs.Tryz.prog 163 xo [.c 2 6 true 122] 1:=Told.of Go.Proofs.Tryz.func163 (by decide +kernel)
theorem LM : ax Go.Proofs.Tryz.prog 163 = true:=by decide +kernel
theorem Sk : Told Go.Proofs.Tryz.prog 166 wJ [.c 2 9 true 108] 1:=Told.of Go.Proofs.Tryz.func166 (by decide +kernel)
theorem LN : ax Go.Proofs.Tryz.prog 166 = true:=by decide +kernel
theorem Sl : Told Go.Proofs.Tryz.prog 167 wE [.c 2 2 true 214] 1:=Told.of Go.Proofs.Tryz.func167 (by decide +kernel)
theorem LO : ax Go.Proofs.Tryz.prog 167 = true:=by decide +kernel
theorem Sm : Told Go.Proofs.Tryz.prog 168 vR [.t 2] 1:=Told.of Go.Proofs.Tryz.func168 (by decide +kernel)
theorem LP : ax Go.Proofs.Tryz.prog 168 = true:=by decide +kernel
theorem Sn : Told Go.Proofs.Tryz.prog 169 ng [.t 4] 2:=Told.of Go.Proofs.Tryz.func169 (by decide +kernel)
theorem LQ : ax Go.Proofs.Tryz.prog 169 = true:=by decide +kernel
theorem Sq : Told Go.Proofs.Tryz.prog 170 lQ [.t 4] 2:=Told.of Go.Proofs.Tryz.func170 (by decide +kernel)
theorem LR : ax Go.Proofs.Tryz.prog 170 = true:=by decide +kernel
theorem Sr : Told Go.Proofs.Tryz.prog 171 oS [.t 4] 2:=Told.of Go.Proofs.Tryz.func171 (by decide +kernel)
theorem LS : ax Go.Proofs.Tryz.prog 171 = true:=by decide +kernel
theorem Ss : Told Go.Proofs.Tryz.prog 175 p9 [.t 4] 2:=Told.of Go.Proofs.Tryz.func175 (by decide +kernel)
theorem LU : ax Go.Proofs.Tryz.prog 175 = true:=by decide +kernel
theorem Su : Told Go.Proofs.Tryz.prog 178 ki [.t 2] 1:=Told.of Go.Proofs.Tryz.func178 (by decide +kernel)
theorem LV : ax Go.Proofs.Tryz.prog 178 = true:=by decide +kernel
theorem Sv : Told Go.Proofs.Tryz.prog 179 vT [.t 2] 1:=Told.of Go.Proofs.Tryz.func179 (by decide +kernel)
theorem LW : ax Go.Proofs.Tryz.prog 179 = true:=by decide +kernel
theorem Sy : Told Go.Proofs.Tryz.prog 180 vQ [.t 6] 3:=Told.of Go.Proofs.Tryz.func180 (by decide +kernel)
theorem LY : ax Go.Proofs.Tryz.prog 180 = true:=by decide +kernel
theorem Sz : Told Go.Proofs.Tryz.prog 181 vG [.t 2] 1:=Told.of Go.Proofs.Tryz.func181 (by decide +kernel)
theorem LZ : ax Go.Proofs.Tryz.prog 181 = true:=by decide +kernel
theorem SA : Told Go.Proofs.Tryz.prog 184 xA [.t 2] 1:=Told.of Go.Proofs.Tryz.func184 (by decide +kernel)
theorem L0 : ax Go.Proofs.Tryz.prog 184 = true:=by decide +kernel
theorem SB : Told Go.Proofs.Tryz.prog 185 nO [.t 2] 1:=Told.of Go.Proofs.Tryz.func185 (by decide +kernel)
theorem L1 : ax Go.Proofs.Tryz.prog 185 = true:=by decide +kernel
theorem SC : Told Go.Proofs.Tryz.prog 189 pX [.t 2] 1:=Told.of Go.Proofs.Tryz.func189 (by decide +kernel)
theorem L2 : ax Go.Proofs.Tryz.prog 189 = true:=by decide +kernel
theorem SF : Told Go.Proofs.Tryz.prog 201 nM [.t 2] 1:=Told.of Go.Proofs.Tryz.func201 (by decide +kernel)
theorem L4 : ax Go.Proofs.Tryz.prog 201 = true:=by decide +kernel
theorem SG : Told Go.Proofs.Tryz.prog 202 xI [.t 2] 1:=Told.of Go.Proofs.Tryz.func202 (by decide +kernel)
theorem L5 : ax Go.Proofs.Tryz.prog 202 = true:=by decide +kernel
theorem SH : Told Go.Proofs.Tryz.prog 203 xC [.t 2] 1:=Told.of Go.Proofs.Tryz.func203 (by decide +kernel)
theorem L6 : ax Go.Proofs.Tryz.prog 203 = true:=by decide +kernel
theorem SI : Told Go.Proofs.Tryz.prog 205 ij [.t 2] 1:=Told.of Go.Proofs.Tryz.func205 (by decide +kernel)
theorem L7 : ax Go.Proofs.Tryz.prog 205 = true:=by decide +kernel
theorem SK : Told Go.Proofs.Tryz.prog 211 sE [.t 4] 2:=Told.of Go.Proofs.Tryz.func211 (by decide +kernel)
theorem L9 : ax Go.Proofs.Tryz.prog 211 = true:=by decide +kernel
theorem SL : Told Go.Proofs.Tryz.prog 216 l5 [.t 2,.t 3] 1:=Told.of Go.Proofs.Tryz.func216 (by decide +kernel)
theorem Ma : ax Go.Proofs.Tryz.prog 216 = true:=by decide +kernel
theorem SM : Told Go.Proofs.Tryz.prog 218 wX [.c 2 2 true 246] 1:=Told.of Go.Proofs.Tryz.func218 (by decide +kernel)
theorem Mb : ax Go.Proofs.Tryz.prog 218 = true:=by decide +kernel
theorem SN : Told Go.Proofs.Tryz.prog 219 vS [.t 2] 1:=Told.of Go.Proofs.Tryz.func219 (by decide +kernel)
theorem Mc : ax Go.Proofs.Tryz.prog 219 = true:=by decide +kernel
theorem SP : Told Go.Proofs.Tryz.prog 223 uh [.t 4] 2:=Told.of Go.Proofs.Tryz.func223 (by decide +kernel)
theorem Mf : ax Go.Proofs.Tryz.prog 223 = true:=by decide +kernel
theorem SQ : Told Go.Proofs.Tryz.prog 227 oT [.t 4] 2:=Told.of Go.Proofs.Tryz.func227 (by decide +kernel)
theorem Mg : ax Go.Proofs.Tryz.prog 227 = true:=by decide +kernel
theorem SR : Told Go.Proofs.Tryz.prog 228 sx [.t 4] 2:=Told.of Go.Proofs.Tryz.func228 (by decide +kernel)
theorem Mh : ax Go.Proofs.Tryz.prog 228 = true:=by decide +kernel
theorem SS : Told Go.Proofs.Tryz.prog 229 p6 [.t 4] 2:=Told.of Go.Proofs.Tryz.func229 (by decide +kernel)
theorem Mi : ax Go.Proofs.Tryz.prog 229 = true:=by decide +kernel
theorem SU : Told Go.Proofs.Tryz.prog 230 wH [.t 2] 1:=Told.of Go.Proofs.Tryz.func230 (by decide +kernel)
theorem Mj : ax Go.Proofs.Tryz.prog 230 = true:=by decide +kernel
theorem SV : Told Go.Proofs.Tryz.prog 231 oI [.t 2] 1:=Told.of Go.Proofs.Tryz.func231 (by decide +kernel)
theorem Mk : ax Go.Proofs.Tryz.prog 231 = true:=by decide +kernel
theorem SW : Told Go.Proofs.Tryz.prog 232 mR [.t 4] 2:=Told.of Go.Proofs.Tryz.func232 (by decide +kernel)
theorem Ml : ax Go.Proofs.Tryz.prog 232 = true:=by decide +kernel
theorem SX : Told Go.Proofs.Tryz.prog 234 rF [.t 4,.t 5] 2:=Told.of Go.Proofs.Tryz.func234 (by decide +kernel)
theorem Mm : ax Go.Proofs.Tryz.prog 234 = true:=by decide +kernel
theorem SY : Told Go.Proofs.Tryz.prog 235 wj [.t 4] 2:=Told.of Go.Proofs.Tryz.func235 (by decide +kernel)
theorem Mn : ax Go.Proofs.Tryz.prog 235 = true:=by decide +kernel
theorem SZ : Told Go.Proofs.Tryz.prog 239 vA [.c 2 6 true 122] 1:=Told.of Go.Proofs.Tryz.func239 (by decide +kernel)
theorem Mo : ax Go.Proofs.Tryz.prog 239 = true:=by decide +kernel
theorem S1 : Told Go.Proofs.Tryz.prog 243 yc [.t 4] 2:=Told.of Go.Proofs.Tryz.func243 (by decide +kernel)
theorem Mq : ax Go.Proofs.Tryz.prog 243 = true:=by decide +kernel
theorem S2 : Told Go.Proofs.Tryz.prog 245 yb [.t 4] 2:=Told.of Go.Proofs.Tryz.func245 (by decide +kernel)
theorem Mr : ax Go.Proofs.Tryz.prog 245 = true:=by decide +kernel
theorem S4 : Told Go.Proofs.Tryz.prog 251 mU [.t 2] 1:=Told.of Go.Proofs.Tryz.func251 (by decide +kernel)
theorem Mt : ax Go.Proofs.Tryz.prog 251 = true:=by decide +kernel
theorem S5 : Told Go.Proofs.Tryz.prog 252 tS [.t 4] 2:=Told.of Go.Proofs.Tryz.func252 (by decide +kernel)
theorem Mu : ax Go.Proofs.Tryz.prog 252 = true:=by decide +kernel
theorem S6 : Told Go.Proofs.Tryz.prog 253 xy [.t 2] 1:=Told.of Go.Proofs.Tryz.func253 (by decide +kernel)
theorem Mv : ax Go.Proofs.Tryz.prog 253 = true:=by decide +kernel
theorem S7 : Told Go.Proofs.Tryz.prog 254 xw [.t 2] 1:=Told.of Go.Proofs.Tryz.func254 (by decide +kernel)
theorem Mw : ax Go.Proofs.Tryz.prog 254 = true:=by decide +kernel
theorem S8 : Told Go.Proofs.Tryz.prog 255 p7 [.t 2,.t 3] 1:=Told.of Go.Proofs.Tryz.func255 (by decide +kernel)
theorem Mx : ax Go.Proofs.Tryz.prog 255 = true:=by decide +kernel
theorem S9 : Told Go.Proofs.Tryz.prog 259 oL [.t 2] 1:=Told.of Go.Proofs.Tryz.func259 (by decide +kernel)
theorem My : ax Go.Proofs.Tryz.prog 259 = true:=by decide +kernel
theorem Tb : Told Go.Proofs.Tryz.prog 260 vJ [.t 2] 1:=Told.of Go.Proofs.Tryz.func260 (by decide +kernel)
theorem MA : ax Go.Proofs.Tryz.prog 260 = true:=by decide +kernel
theorem Tc : Told Go.Proofs.Tryz.prog 261 mV [.t 2] 1:=Told.of Go.Proofs.Tryz.func261 (by decide +kernel)
theorem MB : ax Go.Proofs.Tryz.prog 261 = true:=by decide +kernel
theorem Td : Told Go.Proofs.Tryz.prog 262 vF [.t 3] 2:=Told.of Go.Proofs.Tryz.func262 (by decide +kernel)
theorem MC : ax Go.Proofs.Tryz.prog 262 = true:=by decide +kernel
theorem Te : Told Go.Proofs.Tryz.prog 264 xB [.t 2] 1:=Told.of Go.Proofs.Tryz.func264 (by decide +kernel)
theorem MD : ax Go.Proofs.Tryz.prog 264 = true:=by decide +kernel
theorem Tf : Told Go.Proofs.Tryz.prog 268 ur [.t 4] 2:=Told.of Go.Proofs.Tryz.func268 (by decide +kernel)
theorem ME : ax Go.Proofs.Tryz.prog 268 = true:=by decide +kernel
theorem Tg : Told Go.Proofs.Tryz.prog 271 vV [.t 2] 1:=Told.of Go.Proofs.Tryz.func271 (by decide +kernel)
theorem MF : ax Go.Proofs.Tryz.prog 271 = true:=by decide +kernel
theorem Th : Told Go.Proofs.Tryz.prog 272 vL [.t 2] 1:=Told.of Go.Proofs.Tryz.func272 (by decide +kernel)
theorem MG : ax Go.Proofs.Tryz.prog 272 = true:=by decide +kernel
theorem Ti : Told Go.Proofs.Tryz.prog 294 vC [.t 2] 1:=Told.of Go.Proofs.Tryz.func294 (by decide +kernel)
theorem MH : ax Go.Proofs.Tryz.prog 294 = true:=by decide +kernel
theorem Tj : Told Go.Proofs.Tryz.prog 296 vO [.t 4] 2:=Told.of Go.Proofs.Tryz.func296 (by decide +kernel)
theorem MI : ax Go.Proofs.Tryz.prog 296 = true:=by decide +kernel
theorem Tl : Told Go.Proofs.Tryz.prog 297 vI [.t 2] 1:=Told.of Go.Proofs.Tryz.func297 (by decide +kernel)
theorem MJ : ax Go.Proofs.Tryz.prog 297 = true:=by decide +kernel
theorem Tm : Told Go.Proofs.Tryz.prog 298 kn [] 2:=Told.of Go.Proofs.Tryz.func298 (by decide +kernel)
theorem MK : ax Go.Proofs.Tryz.prog 298 = true:=by decide +kernel
theorem Tn : Told Go.Proofs.Tryz.prog 299 vE [.t 2] 1:=Told.of Go.Proofs.Tryz.func299 (by decide +kernel)
theorem ML : ax Go.Proofs.Tryz.prog 299 = true:=by decide +kernel
theorem To : Told Go.Proofs.Tryz.prog 305 vM [.t 4] 2:=Told.of Go.Proofs.Tryz.func305 (by decide +kernel)
theorem MN : ax Go.Proofs.Tryz.prog 305 = true:=by decide +kernel
theorem Tp : Told Go.Proofs.Tryz.prog 306 vK [.t 2] 1:=Told.of Go.Proofs.Tryz.func306 (by decide +kernel)
theorem MO : ax Go.Proofs.Tryz.prog 306 = true:=by decide +kernel
theorem Tq : Told Go.Proofs.Tryz.prog 320 uo [.t 4] 2:=Told.of Go.Proofs.Tryz.func320 (by decide +kernel)
theorem MP : ax Go.Proofs.Tryz.prog 320 = true:=by decide +kernel
theorem Ts : Told Go.Proofs.Tryz.prog 321 vN [.t 3] 2:=Told.of Go.Proofs.Tryz.func321 (by decide +kernel)
theorem MQ : ax Go.Proofs.Tryz.prog 321 = true:=by decide +kernel
theorem Uw : TT.Ok Go.Proofs.Tryz.prog:=by
  refine ⟨fun f F h=>?_,fun f F h=>?_⟩
  · unfold TT at h
    split at h
    · cases h; exact T6
    · cases h; exact RJ
    · cases h; exact RT
    · cases h; exact Sa
    · cases h; exact Sw
    · cases h; exact SE
    · cases h; exact SJ
    · cases h; exact SO
    · cases h; exact S0
    · cases h; exact S3
    · cases h; exact Ta
    · cases h; exact Tt
    · cases h; exact Tu
    · cases h; exact Tv
    · cases h; exact Tw
    · cases h; exact Tx
    · cases h; exact Tz
    · cases h; exact TA
    · cases h; exact TB
    · cases h; exact TC
    · cases h; exact TD
    · cases h; exact TE
    · cases h; exact TF
    · cases h; exact TG
    · cases h; exact TH
    · cases h; exact TI
    · cases h; exact TJ
    · cases h; exact TK
    · cases h; exact TL
    · cases h; exact TM
    · cases h; exact TN
    · cases h; exact TO
    · cases h; exact TP
    · cases h; exact TQ
    · cases h; exact TR
    · cases h; exact TS
    · cases h; exact TU
    · cases h; exact TV
    · cases h; exact TW
    · cases h; exact TX
    · cases h; exact TY
    · cases h; exact TZ
    · cases h; exact T0
    · cases h; exact T3
    · cases h; exact T4
    · cases h; exact T5
    · cases h; exact T7
    · cases h; exact T8
    · cases h; exact RG
    · cases h; exact RH
    · cases h; exact RI
    · cases h; exact RL
    · cases h; exact RM
    · cases h; exact RN
    · cases h; exact RO
    · cases h; exact RP
    · cases h; exact RQ
    · cases h; exact RR
    · cases h; exact RS
    · cases h; exact RU
    · cases h; exact RW
    · cases h; exact RX
    · cases h; exact RY
    · cases h; exact RZ
    · cases h; exact R1
    · cases h; exact R2
    · cases h; exact R3
    · cases h; exact R4
    · cases h; exact R5
    · cases h; exact R6
    · cases h; exact R7
    · cases h; exact R8
    · cases h; exact R9
    · cases h; exact Sb
    · cases h; exact Sc
    · cases h; exact Sd
    · cases h; exact Sf
    · cases h; exact Sg
    · cases h; exact Si
    · cases h; exact Sj
    · cases h; exact Sk
    · cases h; exact Sl
    · cases h; exact Sm
    · cases h; exact Sn
    · cases h; exact Sq
    · cases h; exact Sr
    · cases h; exact Ss
    · cases h; exact Su
    · cases h; exact Sv
    · cases h; exact Sy
    · cases h; exact Sz
    · cases h; exact SA
    · cases h; exact SB
    · cases h; exact SC
    · cases h; exact SF
    · cases h; exact SG
    · cases h; exact SH
    · cases h; exact SI
    · cases h; exact SK
    · cases h; exact SL
    · cases h; exact SM
    · cases h; exact SN
    · cases h; exact SP
    · cases h; exact SQ
    · cases h; exact SR
    · cases h; exact SS
    · cases h; exact SU
    · cases h; exact SV
    · cases h; exact SW
    · cases h; exact SX
    · cases h; exact SY
    · cases h; exact SZ
    · cases h; exact S1
    · cases h; exact S2
    · cases h; exact S4
    · cases h; exact S5
    · cases h; exact S6
    · cases h; exact S7
    · cases h; exact S8
    · cases h; exact S9
    · cases h; exact Tb
    · cases h; exact Tc
    · cases h; exact Td
    · cases h; exact Te
    · cases h; exact Tf
    · cases h; exact Tg
    · cases h; exact Th
    · cases h; exact Ti
    · cases h; exact Tj
    · cases h; exact Tl
    · cases h; exact Tm
    · cases h; exact Tn
    · cases h; exact To
    · cases h; exact Tp
    · cases h; exact Tq
    · cases h; exact Ts
    · cases h
  · unfold TT at h
    split at h
    · cases h; exact Nv
    · cases h; exact Ld
    · cases h; exact Ln
    · cases h; exact LD
    · cases h; exact LX
    · cases h; exact L3
    · cases h; exact L8
    · cases h; exact Me
    · cases h; exact Mp
    · cases h; exact Ms
    · cases h; exact Mz
    · cases h; exact MR
    · cases h; exact MS
    · cases h; exact MT
    · cases h; exact MU
    · cases h; exact MW
    · cases h; exact MX
    · cases h; exact MY
    · cases h; exact MZ
    · cases h; exact M0
    · cases h; exact M1
    · cases h; exact M3
    · cases h; exact M4
    · cases h; exact M5
    · cases h; exact M6
    · cases h; exact M7
    · cases h; exact M8
    · cases h; exact M9
    · cases h; exact Na
    · cases h; exact Nb
    · cases h; exact Nc
    · cases h; exact Nd
    · cases h; exact Nf
    · cases h; exact Ng
    · cases h; exact Nh
    · cases h; exact Ni
    · cases h; exact Nj
    · cases h; exact Nk
    · cases h; exact Nl
    · cases h; exact Nn
    · cases h; exact Np
    · cases h; exact Nq
    · cases h; exact Nr
    · cases h; exact Ns
    · cases h; exact Nt
    · cases h; exact Nu
    · cases h; exact Nw
    · cases h; exact Nx
    · cases h; exact La
    · cases h; exact Lb
    · cases h; exact Lc
    · cases h; exact Le
    · cases h; exact Lf
    · cases h; exact Lg
    · cases h; exact Lh
    · cases h; exact Li
    · cases h; exact Lj
    · cases h; exact Ll
    · cases h; exact Lm
    · cases h; exact Lo
    · cases h; exact Lp
    · cases h; exact Lq
    · cases h; exact Lr
    · cases h; exact Ls
    · cases h; exact Lt
    · cases h; exact Lu
    · cases h; exact Lv
    · cases h; exact Lw
    · cases h; exact Lx
    · cases h; exact Lz
    · cases h; exact LA
    · cases h; exact LB
    · cases h; exact LC
    · cases h; exact LF
    · cases h; exact LG
    · cases h; exact LH
    · cases h; exact LJ
    · cases h; exact LK
    · cases h; exact LL
    · cases h; exact LM
    · cases h; exact LN
    · cases h; exact LO
    · cases h; exact LP
    · cases h; exact LQ
    · cases h; exact LR
    · cases h; exact LS
    · cases h; exact LU
    · cases h; exact LV
    · cases h; exact LW
    · cases h; exact LY
    · cases h; exact LZ
    · cases h; exact L0
    · cases h; exact L1
    · cases h; exact L2
    · cases h; exact L4
    · cases h; exact L5
    · cases h; exact L6
    · cases h; exact L7
    · cases h; exact L9
    · cases h; exact Ma
    · cases h; exact Mb
    · cases h; exact Mc
    · cases h; exact Mf
    · cases h; exact Mg
    · cases h; exact Mh
    · cases h; exact Mi
    · cases h; exact Mj
    · cases h; exact Mk
    · cases h; exact Ml
    · cases h; exact Mm
    · cases h; exact Mn
    · cases h; exact Mo
    · cases h; exact Mq
    · cases h; exact Mr
    · cases h; exact Mt
    · cases h; exact Mu
    · cases h; exact Mv
    · cases h; exact Mw
    · cases h; exact Mx
    · cases h; exact My
    · cases h; exact MA
    · cases h; exact MB
    · cases h; exact MC
    · cases h; exact MD
    · cases h; exact ME
    · cases h; exact MF
    · cases h; exact MG
    · cases h; exact MH
    · cases h; exact MI
    · cases h; exact MJ
    · cases h; exact MK
    · cases h; exact ML
    · cases h; exact MN
    · cases h; exact MO
    · cases h; exact MP
    · cases h; exact MQ
    · cases h
theorem Uv (htab : Lib.TabIs Go.Proofs.Tryz.prog Bs.W0 "internal/strconv.uint64pow10" .u64 Lib.pow10Tab) (hmax : ∃ m,Bs.W0.cell? ⟨1,0,none⟩ = some (.int .i64 m)) (zT : ∃ te pe,Bs.W0.var? Go.Proofs.Tryz.prog "strconv.ErrSyntax" = some #[.iface te pe]) (gj : ∃ te pe,Bs.W0.var? Go.Proofs.Tryz.prog "strconv.ErrRange" = some #[.iface te pe]) : LI.Sound Go.Proofs.Tryz.prog:=(tg (PS fun s w hw hs=>Go.Proofs.PK htab zT gj s w hw hs) (tg (KF fun s p w=>Go.Proofs.Tryz.strings_CutPrefix s p w) (tg (Rn (g1:=1) (t9:=_) hmax fun s sep m w h1 h2 h3=>Go.Proofs.Tryz.strings_Split s sep m w h1 h2 h3) (tg (T9 fun s c h w hs=>Go.Proofs.Tryz.strings_Trim_one s c h w hs) (tg (Rl (fun a c w=>Go.Proofs.Tryz.slices_Sort_int_none a c w) fun g o c zs w h1 h2 h3=>Go.Proofs.Tryz.slices_Sort_int g o c zs w h1 h2 h3) (Ks (fun a c w=>Go.Proofs.Tryz.slices_Compact_int_empty a c w) fun g o c zs w h1 h2 h3=>Go.Proofs.Tryz.slices_Compact_int g o c zs w h1 h2 h3))))))
end M
