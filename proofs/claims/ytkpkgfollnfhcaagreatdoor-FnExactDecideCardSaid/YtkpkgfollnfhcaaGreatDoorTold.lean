/- Each function of the table is the program's, and the library is as it is said to be; no conditions. -/
import Derived.Test.YtkpkgfollnfhcaaGreatDoorProg
import Derived.Test.YtkpkgfollnfhcaaGreatDoorLay
import Derived.Test.YtkpkgfollnfhcaaGreatDoorTab
import Derived.Test.YtkpkgfollnfhcaaGreatDoorMc
set_option linter.unusedSectionVars false
set_option linter.unusedVariables false
set_option linter.unusedSimpArgs false
set_option linter.unusedVariables false
set_option linter.unusedSectionVars false
set_option maxRecDepth 100000
namespace Go.Proofs
open Go.RowKit
set_option maxHeartbeats 2000000 in
set_option maxRecDepth 100000 in
theorem S5 (s : ByteArray) (h : 7 < s.size) (w : World) :
    Calls Go.Proofs.Tryz.prog 300 #[.string s] w fun e w'=>e = .returned (.tuple #[.int .i64 0,.bool false])∧w' = w:=by
  go_enter Tryz.func300,Tryz.ntmps300
  go_wp2
  · go_ret2; exact ⟨rfl,rfl⟩
set_option maxHeartbeats 2000000 in
set_option maxRecDepth 100000 in
theorem S7 (s : ByteArray) (h : ¬ 7 < s.size) (v : Int) (hv : Lib.atoiAll s.data.toList = .ok v) (w : World) (htab : Lib.TabIs Go.Proofs.Tryz.prog w "internal/strconv.uint64pow10" .u64 Lib.pow10Tab) :
    Calls Go.Proofs.Tryz.prog 300 #[.string s] w fun e w'=>e = .returned (.tuple #[.int .i64 (ri v s.data.toList),.bool (kB v s.data.toList)])∧Below w.heap.size w w':=by
  have iD:=Lib.atoiAll_bounds hv
  go_enter Tryz.func300,Tryz.ntmps300
  go_wp2_with (first
    | (go_at_call 323; refine (Tryz.strconv_Atoi_ok s (by omega) v hv _).mono ?_; rintro e W1 ⟨rfl,GB⟩; have cT : Below w.heap.size w W1:=(by rcases GB with rfl | ⟨t,rfl⟩; exact Below.refl _ _; exact Lib.bytesWorld_below _ _ _); clear GB)
    | (go_at_call 265; refine (Tryz.strconv_Itoa v iD.1 iD.2 _ (U5 htab cT)).mono ?_; rintro e W2 ⟨rfl,k,os,GC⟩; have fF : Below w.heap.size w W2:=(by subst GC; exact cT.trans ((QG W1 k os).mono cT.size)); clear GC)
    | go_in)
  all_goals go_ret2
  all_goals refine ⟨?_,by assumption⟩
  all_goals first
    | (have hb : kB v s.data.toList = true:=(by
        unfold kB
        rw [decide_eq_true_eq]
        refine ⟨by assumption,by assumption,?_⟩
        rw [← Lib.toList_data]
        rename_i hz
        simpa using hz)
       rw [ri,if_pos hb,hb]; rfl)
    | (have hb : kB v s.data.toList = false:=(by
        unfold kB
        rw [decide_eq_false_iff_not]
        rintro ⟨h1,h2,h3⟩
        first
        | omega
        | (rw [← Lib.toList_data] at h3
           rename_i hz
           simp [h3] at hz))
       rw [ri,hb]; rfl)
set_option maxHeartbeats 2000000 in
set_option maxRecDepth 100000 in
theorem S4 (s : ByteArray) (h : ¬ 7 < s.size) (w : World)
    (hA : Calls Go.Proofs.Tryz.prog 323 #[.string s] w fun e w'=>∃ n t N,e = .returned (.tuple #[.int .i64 n,.iface t (.pointer (some ⟨N,0,none⟩))])∧Below w.heap.size w w') :
    Calls Go.Proofs.Tryz.prog 300 #[.string s] w fun e w'=>e = .returned (.tuple #[.int .i64 0,.bool false])∧Below w.heap.size w w':=by
  go_enter Tryz.func300,Tryz.ntmps300
  go_wp2_with (first
    | (go_at_call 323; refine hA.mono ?_; rintro e W1 ⟨n,t,N,rfl,cT⟩)
    | go_in)
  all_goals go_ret2
  all_goals exact ⟨rfl,by assumption⟩
theorem S3 [B : M.Bs] (htab : Lib.TabIs Go.Proofs.Tryz.prog B.W0 "internal/strconv.uint64pow10" .u64 Lib.pow10Tab) (BM : ∃ te pe,B.W0.var? Go.Proofs.Tryz.prog "strconv.ErrSyntax" = some #[.iface te pe]) (gS : ∃ te pe,B.W0.var? Go.Proofs.Tryz.prog "strconv.ErrRange" = some #[.iface te pe])
    (s : ByteArray) (w : World) (hw : M.mg w) (hs : s.size≤9223372036854775807) :
    Calls Go.Proofs.Tryz.prog 300 #[.string s] w fun e w'=>e = .returned (.tuple #[.int .i64 (((M.cz s.data.toList).getD 0 : Nat) : Int),.bool (M.cz s.data.toList).isSome])∧Below w.heap.size w w':=by
  refine S6 (a:=0) hs (fun h=>S5 s h w) (fun h v hv=>S7 s h v hv w (M.TabIs.same htab hw)) fun h hv=>?_
  refine S4 s h w ?_
  rcases dr : Lib.atoiAll s.data.toList with v | _ | _
  · exact absurd dr (hv v)
  · obtain ⟨te,pe,h1⟩:=BM
    exact (Any.strconv_Atoi_syntax_var Tryz.laysC172 s (by omega) dr te pe w (I5 h1 hw)).mono fun e w' ⟨N,he,_,_,hb⟩=>⟨_,_,N,he,hb⟩
  · obtain ⟨te,pe,h1⟩:=gS
    exact (Any.strconv_Atoi_range_var Tryz.laysC172 s (by omega) dr te pe w (I5 h1 hw)).mono fun e w' ⟨N,he,_,_,hb⟩=>⟨_,_,N,he,hb⟩
end Go.Proofs
namespace M
open Go
variable [Bs]
theorem Xh : Told Go.Proofs.Tryz.prog 5 qI [.t 6] 3:=Told.of Go.Proofs.Tryz.func5 (by decide +kernel)
theorem P1 : ax Go.Proofs.Tryz.prog 5 = true:=by decide +kernel
theorem VT : Told Go.Proofs.Tryz.prog 18 oD [.t 4] 2:=Told.of Go.Proofs.Tryz.func18 (by decide +kernel)
theorem OE : ax Go.Proofs.Tryz.prog 18 = true:=by decide +kernel
theorem V0 : Told Go.Proofs.Tryz.prog 19 oC [.t 4] 2:=Told.of Go.Proofs.Tryz.func19 (by decide +kernel)
theorem OM : ax Go.Proofs.Tryz.prog 19 = true:=by decide +kernel
theorem V1 : Told Go.Proofs.Tryz.prog 20 lZ [.t 6,.c 7 7 true 61] 3:=Told.of Go.Proofs.Tryz.func20 (by decide +kernel)
theorem ON : ax Go.Proofs.Tryz.prog 20 = true:=by decide +kernel
theorem V6 : Told Go.Proofs.Tryz.prog 21 yS [.c 2 6 true 43] 1:=Told.of Go.Proofs.Tryz.func21 (by decide +kernel)
theorem OS : ax Go.Proofs.Tryz.prog 21 = true:=by decide +kernel
theorem Wb : Told Go.Proofs.Tryz.prog 22 yQ [.c 2 4 true 66] 1:=Told.of Go.Proofs.Tryz.func22 (by decide +kernel)
theorem OX : ax Go.Proofs.Tryz.prog 22 = true:=by decide +kernel
theorem Wf : Told Go.Proofs.Tryz.prog 23 qy [.t 6,.c 7 7 true 61] 3:=Told.of Go.Proofs.Tryz.func23 (by decide +kernel)
theorem O0 : ax Go.Proofs.Tryz.prog 23 = true:=by decide +kernel
theorem Wj : Told Go.Proofs.Tryz.prog 24 lM [.t 4] 2:=Told.of Go.Proofs.Tryz.func24 (by decide +kernel)
theorem O4 : ax Go.Proofs.Tryz.prog 24 = true:=by decide +kernel
theorem Wq : Told Go.Proofs.Tryz.prog 25 lN [.t 4] 2:=Told.of Go.Proofs.Tryz.func25 (by decide +kernel)
theorem Pb : ax Go.Proofs.Tryz.prog 25 = true:=by decide +kernel
theorem WB : Told Go.Proofs.Tryz.prog 26 nk [.t 4] 2:=Told.of Go.Proofs.Tryz.func26 (by decide +kernel)
theorem Pn : ax Go.Proofs.Tryz.prog 26 = true:=by decide +kernel
theorem WI : Told Go.Proofs.Tryz.prog 27 yC [.t 4] 2:=Told.of Go.Proofs.Tryz.func27 (by decide +kernel)
theorem Pu : ax Go.Proofs.Tryz.prog 27 = true:=by decide +kernel
theorem WL : Told Go.Proofs.Tryz.prog 28 yA [.t 4] 2:=Told.of Go.Proofs.Tryz.func28 (by decide +kernel)
theorem Px : ax Go.Proofs.Tryz.prog 28 = true:=by decide +kernel
theorem WM : Told Go.Proofs.Tryz.prog 29 yz [.t 4] 2:=Told.of Go.Proofs.Tryz.func29 (by decide +kernel)
theorem Py : ax Go.Proofs.Tryz.prog 29 = true:=by decide +kernel
theorem WT : Told Go.Proofs.Tryz.prog 30 yp [.t 4] 2:=Told.of Go.Proofs.Tryz.func30 (by decide +kernel)
theorem PE : ax Go.Proofs.Tryz.prog 30 = true:=by decide +kernel
theorem W4 : Told Go.Proofs.Tryz.prog 31 rF [.c 4 7 true 61,.t 5] 2:=Told.of Go.Proofs.Tryz.func31 (by decide +kernel)
theorem PL : ax Go.Proofs.Tryz.prog 31 = true:=by decide +kernel
theorem W5 : Told Go.Proofs.Tryz.prog 32 tK [.c 4 7 true 61,.t 5] 2:=Told.of Go.Proofs.Tryz.func32 (by decide +kernel)
theorem PN : ax Go.Proofs.Tryz.prog 32 = true:=by decide +kernel
theorem W9 : Told Go.Proofs.Tryz.prog 33 qN [.t 4] 2:=Told.of Go.Proofs.Tryz.func33 (by decide +kernel)
theorem PT : ax Go.Proofs.Tryz.prog 33 = true:=by decide +kernel
theorem Xa : Told Go.Proofs.Tryz.prog 35 yJ [.c 2 4 true 83] 1:=Told.of Go.Proofs.Tryz.func35 (by decide +kernel)
theorem PU : ax Go.Proofs.Tryz.prog 35 = true:=by decide +kernel
theorem Xb : Told Go.Proofs.Tryz.prog 38 nq [.t 4] 2:=Told.of Go.Proofs.Tryz.func38 (by decide +kernel)
theorem PV : ax Go.Proofs.Tryz.prog 38 = true:=by decide +kernel
theorem Xc : Told Go.Proofs.Tryz.prog 40 yP [.c 2 7 true 61] 1:=Told.of Go.Proofs.Tryz.func40 (by decide +kernel)
theorem PW : ax Go.Proofs.Tryz.prog 40 = true:=by decide +kernel
theorem Xd : Told Go.Proofs.Tryz.prog 44 qO [.t 4] 2:=Told.of Go.Proofs.Tryz.func44 (by decide +kernel)
theorem PX : ax Go.Proofs.Tryz.prog 44 = true:=by decide +kernel
theorem Xe : Told Go.Proofs.Tryz.prog 46 yK [.c 2 2 true 39] 1:=Told.of Go.Proofs.Tryz.func46 (by decide +kernel)
theorem PY : ax Go.Proofs.Tryz.prog 46 = true:=by decide +kernel
theorem Xf : Told Go.Proofs.Tryz.prog 48 qJ [.t 4] 2:=Told.of Go.Proofs.Tryz.func48 (by decide +kernel)
theorem PZ : ax Go.Proofs.Tryz.prog 48 = true:=by decide +kernel
theorem Xg : Told Go.Proofs.Tryz.prog 49 yw [.t 4] 2:=Told.of Go.Proofs.Tryz.func49 (by decide +kernel)
theorem P0 : ax Go.Proofs.Tryz.prog 49 = true:=by decide +kernel
theorem Xi : Told Go.Proofs.Tryz.prog 54 zK [.t 4] 2:=Told.of Go.Proofs.Tryz.func54 (by decide +kernel)
theorem P2 : ax Go.Proofs.Tryz.prog 54 = true:=by decide +kernel
theorem Xj : Told Go.Proofs.Tryz.prog 55 zL [.t 4] 2:=Told.of Go.Proofs.Tryz.func55 (by decide +kernel)
theorem P3 : ax Go.Proofs.Tryz.prog 55 = true:=by decide +kernel
theorem Xk : Told Go.Proofs.Tryz.prog 56 zu [.t 4] 2:=Told.of Go.Proofs.Tryz.func56 (by decide +kernel)
theorem P4 : ax Go.Proofs.Tryz.prog 56 = true:=by decide +kernel
theorem Xl : Told Go.Proofs.Tryz.prog 61 xG [.t 4] 2:=Told.of Go.Proofs.Tryz.func61 (by decide +kernel)
theorem P5 : ax Go.Proofs.Tryz.prog 61 = true:=by decide +kernel
theorem Xm : Told Go.Proofs.Tryz.prog 67 qR [.t 4] 2:=Told.of Go.Proofs.Tryz.func67 (by decide +kernel)
theorem P6 : ax Go.Proofs.Tryz.prog 67 = true:=by decide +kernel
theorem Xn : Told Go.Proofs.Tryz.prog 68 qM [.t 4] 2:=Told.of Go.Proofs.Tryz.func68 (by decide +kernel)
theorem P7 : ax Go.Proofs.Tryz.prog 68 = true:=by decide +kernel
theorem Xo : Told Go.Proofs.Tryz.prog 69 qP [.t 4] 2:=Told.of Go.Proofs.Tryz.func69 (by decide +kernel)
theorem P8 : ax Go.Proofs.Tryz.prog 69 = true:=by decide +kernel
theorem Xp : Told Go.Proofs.Tryz.prog 70 rH [.t 2] 1:=Told.of Go.Proofs.Tryz.func70 (by decide +kernel)
theorem P9 : ax Go.Proofs.Tryz.prog 70 = true:=by decide +kernel
theorem Xq : Told Go.Proofs.Tryz.prog 71 zk [.c 2 6 true 122] 1:=Told.of Go.Proofs.Tryz.func71 (by decide +kernel)
theorem Qa : ax Go.Proofs.Tryz.prog 71 = true:=by decide +kernel
theorem Xr : Told Go.Proofs.Tryz.prog 72 zq [.t 6] 3:=Told.of Go.Proofs.Tryz.func72 (by decide +kernel)
theorem Qb : ax Go.Proofs.Tryz.prog 72 = true:=by decide +kernel
theorem Xs : Told Go.Proofs.Tryz.prog 73 yN [.t 2] 1:=Told.of Go.Proofs.Tryz.func73 (by decide +kernel)
theorem Qc : ax Go.Proofs.Tryz.prog 73 = true:=by decide +kernel
theorem Xt : Told Go.Proofs.Tryz.prog 74 yI [.t 2] 1:=Told.of Go.Proofs.Tryz.func74 (by decide +kernel)
theorem Qd : ax Go.Proofs.Tryz.prog 74 = true:=by decide +kernel
theorem Xu : Told Go.Proofs.Tryz.prog 75 yL [.t 2] 1:=Told.of Go.Proofs.Tryz.func75 (by decide +kernel)
theorem Qe : ax Go.Proofs.Tryz.prog 75 = true:=by decide +kernel
theorem Xv : Told Go.Proofs.Tryz.prog 76 ox [.t 8] 4:=Told.of Go.Proofs.Tryz.func76 (by decide +kernel)
theorem Qf : ax Go.Proofs.Tryz.prog 76 = true:=by decide +kernel
theorem Xw : Told Go.Proofs.Tryz.prog 77 yl [.t 4] 2:=Told.of Go.Proofs.Tryz.func77 (by decide +kernel)
theorem Qg : ax Go.Proofs.Tryz.prog 77 = true:=by decide +kernel
theorem Xx : Told Go.Proofs.Tryz.prog 78 oB [.t 4] 2:=Told.of Go.Proofs.Tryz.func78 (by decide +kernel)
theorem Qh : ax Go.Proofs.Tryz.prog 78 = true:=by decide +kernel
theorem Xy : Told Go.Proofs.Tryz.prog 79 yj [.t 4] 2:=Told.of Go.Proofs.Tryz.func79 (by decide +kernel)
theorem Qi : ax Go.Proofs.Tryz.prog 79 = true:=by decide +kernel
theorem Xz : Told Go.Proofs.Tryz.prog 80 yg [.t 4] 2:=Told.of Go.Proofs.Tryz.func80 (by decide +kernel)
theorem Qj : ax Go.Proofs.Tryz.prog 80 = true:=by decide +kernel
theorem XA : Told Go.Proofs.Tryz.prog 81 yh [.t 4] 2:=Told.of Go.Proofs.Tryz.func81 (by decide +kernel)
theorem Qk : ax Go.Proofs.Tryz.prog 81 = true:=by decide +kernel
theorem XB : Told Go.Proofs.Tryz.prog 82 yy [.t 4] 2:=Told.of Go.Proofs.Tryz.func82 (by decide +kernel)
theorem Ql : ax Go.Proofs.Tryz.prog 82 = true:=by decide +kernel
theorem XC : Told Go.Proofs.Tryz.prog 83 yu [.t 4] 2:=Told.of Go.Proofs.Tryz.func83 (by decide +kernel)
theorem Qm : ax Go.Proofs.Tryz.prog 83 = true:=by decide +kernel
theorem XD : Told Go.Proofs.Tryz.prog 84 yx [.t 4] 2:=Told.of Go.Proofs.Tryz.func84 (by decide +kernel)
theorem Qn : ax Go.Proofs.Tryz.prog 84 = true:=by decide +kernel
theorem XE : Told Go.Proofs.Tryz.prog 85 yE [.t 4] 2:=Told.of Go.Proofs.Tryz.func85 (by decide +kernel)
theorem Qo : ax Go.Proofs.Tryz.prog 85 = true:=by decide +kernel
theorem XF : Told Go.Proofs.Tryz.prog 86 yB [.t 4] 2:=Told.of Go.Proofs.Tryz.func86 (by decide +kernel)
theorem Qp : ax Go.Proofs.Tryz.prog 86 = true:=by decide +kernel
theorem XG : Told Go.Proofs.Tryz.prog 87 yt [.t 4] 2:=Told.of Go.Proofs.Tryz.func87 (by decide +kernel)
theorem Qq : ax Go.Proofs.Tryz.prog 87 = true:=by decide +kernel
theorem XH : Told Go.Proofs.Tryz.prog 88 yq [.t 4] 2:=Told.of Go.Proofs.Tryz.func88 (by decide +kernel)
theorem Qr : ax Go.Proofs.Tryz.prog 88 = true:=by decide +kernel
theorem XI : Told Go.Proofs.Tryz.prog 89 kK [.t 2] 1:=Told.of Go.Proofs.Tryz.func89 (by decide +kernel)
theorem Qs : ax Go.Proofs.Tryz.prog 89 = true:=by decide +kernel
theorem XJ : Told Go.Proofs.Tryz.prog 90 zA [.t 6] 3:=Told.of Go.Proofs.Tryz.func90 (by decide +kernel)
theorem Qt : ax Go.Proofs.Tryz.prog 90 = true:=by decide +kernel
theorem XK : Told Go.Proofs.Tryz.prog 91 zI [.c 2 7 true 61] 1:=Told.of Go.Proofs.Tryz.func91 (by decide +kernel)
theorem Qu : ax Go.Proofs.Tryz.prog 91 = true:=by decide +kernel
theorem XL : Told Go.Proofs.Tryz.prog 92 jH [.t 2] 1:=Told.of Go.Proofs.Tryz.func92 (by decide +kernel)
theorem Qv : ax Go.Proofs.Tryz.prog 92 = true:=by decide +kernel
theorem XM : Told Go.Proofs.Tryz.prog 94 lY [.t 2] 1:=Told.of Go.Proofs.Tryz.func94 (by decide +kernel)
theorem Qw : ax Go.Proofs.Tryz.prog 94 = true:=by decide +kernel
theorem Vf : Told Go.Proofs.Tryz.prog 105 qU [.t 4] 2:=Told.of Go.Proofs.Tryz.func105 (by decide +kernel)
theorem NU : ax Go.Proofs.Tryz.prog 105 = true:=by decide +kernel
theorem Vg : Told Go.Proofs.Tryz.prog 106 qS [.t 4] 2:=Told.of Go.Proofs.Tryz.func106 (by decide +kernel)
theorem NV : ax Go.Proofs.Tryz.prog 106 = true:=by decide +kernel
theorem Vh : Told Go.Proofs.Tryz.prog 108 jk [.t 2] 1:=Told.of Go.Proofs.Tryz.func108 (by decide +kernel)
theorem NW : ax Go.Proofs.Tryz.prog 108 = true:=by decide +kernel
theorem Vi : Told Go.Proofs.Tryz.prog 111 yT [.t 2] 1:=Told.of Go.Proofs.Tryz.func111 (by decide +kernel)
theorem NX : ax Go.Proofs.Tryz.prog 111 = true:=by decide +kernel
theorem Vj : Told Go.Proofs.Tryz.prog 112 yR [.c 2 3 true 59] 1:=Told.of Go.Proofs.Tryz.func112 (by decide +kernel)
theorem NY : ax Go.Proofs.Tryz.prog 112 = true:=by decide +kernel
theorem Vk : Told Go.Proofs.Tryz.prog 118 qV [.t 4] 2:=Told.of Go.Proofs.Tryz.func118 (by decide +kernel)
theorem NZ : ax Go.Proofs.Tryz.prog 118 = true:=by decide +kernel
theorem Vl : Told Go.Proofs.Tryz.prog 119 zn [.t 2] 1:=Told.of Go.Proofs.Tryz.func119 (by decide +kernel)
theorem N0 : ax Go.Proofs.Tryz.prog 119 = true:=by decide +kernel
theorem Vm : Told Go.Proofs.Tryz.prog 127 yU [.t 2] 1:=Told.of Go.Proofs.Tryz.func127 (by decide +kernel)
theorem N1 : ax Go.Proofs.Tryz.prog 127 = true:=by decide +kernel
theorem Vn : Told Go.Proofs.Tryz.prog 128 xD [.t 2] 1:=Told.of Go.Proofs.Tryz.func128 (by decide +kernel)
theorem N2 : ax Go.Proofs.Tryz.prog 128 = true:=by decide +kernel
theorem Vo : Told Go.Proofs.Tryz.prog 132 ym [.t 4] 2:=Told.of Go.Proofs.Tryz.func132 (by decide +kernel)
theorem N3 : ax Go.Proofs.Tryz.prog 132 = true:=by decide +kernel
theorem Vp : Told Go.Proofs.Tryz.prog 133 yG [.t 4] 2:=Told.of Go.Proofs.Tryz.func133 (by decide +kernel)
theorem N4 : ax Go.Proofs.Tryz.prog 133 = true:=by decide +kernel
theorem Vq : Told Go.Proofs.Tryz.prog 137 zJ [.t 6] 3:=Told.of Go.Proofs.Tryz.func137 (by decide +kernel)
theorem N5 : ax Go.Proofs.Tryz.prog 137 = true:=by decide +kernel
theorem Vr : Told Go.Proofs.Tryz.prog 139 jQ [.t 4] 2:=Told.of Go.Proofs.Tryz.func139 (by decide +kernel)
theorem N6 : ax Go.Proofs.Tryz.prog 139 = true:=by decide +kernel
theorem Vs : Told Go.Proofs.Tryz.prog 143 x9 [.t 2] 1:=Told.of Go.Proofs.Tryz.func143 (by decide +kernel)
theorem N7 : ax Go.Proofs.Tryz.prog 143 = true:=by decide +kernel
theorem Vt : Told Go.Proofs.Tryz.prog 145 lH [.t 4] 2:=Told.of Go.Proofs.Tryz.func145 (by decide +kernel)
theorem N8 : ax Go.Proofs.Tryz.prog 145 = true:=by decide +kernel
theorem Vu : Told Go.Proofs.Tryz.prog 152 xB [.c 2 6 true 122] 1:=Told.of Go.Proofs.Tryz.func152 (by decide +kernel)
theorem N9 : ax Go.Proofs.Tryz.prog 152 = true:=by decide +kernel
theorem Vv : Told Go.Proofs.Tryz.prog 153 xF [.t 6] 3:=Told.of Go.Proofs.Tryz.func153 (by decide +kernel)
theorem Oa : ax Go.Proofs.Tryz.prog 153 = true:=by decide +kernel
theorem Vw : Told Go.Proofs.Tryz.prog 154 xO [.t 6] 3:=Told.of Go.Proofs.Tryz.func154 (by decide +kernel)
theorem Oc : ax Go.Proofs.Tryz.prog 154 = true:=by decide +kernel
theorem Vx : Told Go.Proofs.Tryz.prog 158 uv [.t 4] 2:=Told.of Go.Proofs.Tryz.func158 (by decide +kernel)
theorem Od : ax Go.Proofs.Tryz.prog 158 = true:=by decide +kernel
theorem Vy : Told Go.Proofs.Tryz.prog 159 qQ [.t 4] 2:=Told.of Go.Proofs.Tryz.func159 (by decide +kernel)
theorem Oe : ax Go.Proofs.Tryz.prog 159 = true:=by decide +kernel
theorem Vz : Told Go.Proofs.Tryz.prog 160 o8 [.t 2] 1:=Told.of Go.Proofs.Tryz.func160 (by decide +kernel)
theorem Og : ax Go.Proofs.Tryz.prog 160 = true:=by decide +kernel
theorem VA : Told Go.Proofs.Tryz.prog 161 zo [.t 2] 1:=Told.of Go.Proofs.Tryz.func161 (by decide +kernel)
theorem Oh : ax Go.Proofs.Tryz.prog 161 = true:=by decide +kernel
theorem VB : Told Go.Proofs.Tryz.prog 162 vf [.t 4,.t 5] 2:=Told.of Go.Proofs.Tryz.func162 (by decide +kernel)
theorem Oi : ax Go.Proofs.Tryz.prog 162 = true:=by decide +kernel
theorem VC : Told Go.Proofs.Tryz.prog 163 zm [.c 2 6 true 122] 1:=Told.of Go.Proofs.Tryz.func163 (by decide +kernel)
theorem Oj : ax Go.Proofs.Tryz.prog 163 = true:=by decide +kernel
theorem VD : Told Go.Proofs.Tryz.prog 164 rE [.t 6] 3:=Told.of Go.Proofs.Tryz.func164 (by decide +kernel)
theorem Ol : ax Go.Proofs.Tryz.prog 164 = true:=by decide +kernel
theorem VE : Told Go.Proofs.Tryz.prog 165 zv [.t 2] 1:=Told.of Go.Proofs.Tryz.func165 (by decide +kernel)
theorem Om : ax Go.Proofs.Tryz.prog 165 = true:=by decide +kernel
theorem VF : Told Go.Proofs.Tryz.prog 166 yO [.c 2 9 true 108] 1:=Told.of Go.Proofs.Tryz.func166 (by decide +kernel)
theorem On : ax Go.Proofs.Tryz.prog 166 = true:=by decide +kernel
theorem VG : Told Go.Proofs.Tryz.prog 167 yM [.c 2 2 true 214] 1:=Told.of Go.Proofs.Tryz.func167 (by decide +kernel)
theorem Oo : ax Go.Proofs.Tryz.prog 167 = true:=by decide +kernel
theorem VH : Told Go.Proofs.Tryz.prog 168 xZ [.t 2] 1:=Told.of Go.Proofs.Tryz.func168 (by decide +kernel)
theorem Oq : ax Go.Proofs.Tryz.prog 168 = true:=by decide +kernel
theorem VI : Told Go.Proofs.Tryz.prog 169 oA [.t 4] 2:=Told.of Go.Proofs.Tryz.func169 (by decide +kernel)
theorem Ot : ax Go.Proofs.Tryz.prog 169 = true:=by decide +kernel
theorem VJ : Told Go.Proofs.Tryz.prog 170 nj [.t 4] 2:=Told.of Go.Proofs.Tryz.func170 (by decide +kernel)
theorem Ou : ax Go.Proofs.Tryz.prog 170 = true:=by decide +kernel
theorem VK : Told Go.Proofs.Tryz.prog 171 qK [.t 4] 2:=Told.of Go.Proofs.Tryz.func171 (by decide +kernel)
theorem Ov : ax Go.Proofs.Tryz.prog 171 = true:=by decide +kernel
theorem VL : Told Go.Proofs.Tryz.prog 172 um [.t 2] 1:=Told.of Go.Proofs.Tryz.func172 (by decide +kernel)
theorem Ow : ax Go.Proofs.Tryz.prog 172 = true:=by decide +kernel
theorem VM : Told Go.Proofs.Tryz.prog 173 yo [.t 4] 2:=Told.of Go.Proofs.Tryz.func173 (by decide +kernel)
theorem Ox : ax Go.Proofs.Tryz.prog 173 = true:=by decide +kernel
theorem VN : Told Go.Proofs.Tryz.prog 174 vz [.t 2] 1:=Told.of Go.Proofs.Tryz.func174 (by decide +kernel)
theorem Oy : ax Go.Proofs.Tryz.prog 174 = true:=by decide +kernel
theorem VO : Told Go.Proofs.Tryz.prog 175 rK [.t 4] 2:=Told.of Go.Proofs.Tryz.func175 (by decide +kernel)
theorem Oz : ax Go.Proofs.Tryz.prog 175 = true:=by decide +kernel
theorem VP : Told Go.Proofs.Tryz.prog 176 zG [.t 4] 2:=Told.of Go.Proofs.Tryz.func176 (by decide +kernel)
theorem OA : ax Go.Proofs.Tryz.prog 176 = true:=by decide +kernel
theorem VQ : Told Go.Proofs.Tryz.prog 177 zQ [.c 2 3 true 59] 1:=Told.of Go.Proofs.Tryz.func177 (by decide +kernel)
theorem OB : ax Go.Proofs.Tryz.prog 177 = true:=by decide +kernel
theorem VR : Told Go.Proofs.Tryz.prog 178 lE [.t 2] 1:=Told.of Go.Proofs.Tryz.func178 (by decide +kernel)
theorem OC : ax Go.Proofs.Tryz.prog 178 = true:=by decide +kernel
theorem VS : Told Go.Proofs.Tryz.prog 179 x8 [.t 2] 1:=Told.of Go.Proofs.Tryz.func179 (by decide +kernel)
theorem OD : ax Go.Proofs.Tryz.prog 179 = true:=by decide +kernel
theorem VU : Told Go.Proofs.Tryz.prog 180 xY [.t 6] 3:=Told.of Go.Proofs.Tryz.func180 (by decide +kernel)
theorem OG : ax Go.Proofs.Tryz.prog 180 = true:=by decide +kernel
theorem VV : Told Go.Proofs.Tryz.prog 181 xL [.t 2] 1:=Told.of Go.Proofs.Tryz.func181 (by decide +kernel)
theorem OH : ax Go.Proofs.Tryz.prog 181 = true:=by decide +kernel
theorem VW : Told Go.Proofs.Tryz.prog 183 xU [.c 2 7 true 61] 1:=Told.of Go.Proofs.Tryz.func183 (by decide +kernel)
theorem OI : ax Go.Proofs.Tryz.prog 183 = true:=by decide +kernel
theorem VX : Told Go.Proofs.Tryz.prog 184 zB [.t 2] 1:=Told.of Go.Proofs.Tryz.func184 (by decide +kernel)
theorem OJ : ax Go.Proofs.Tryz.prog 184 = true:=by decide +kernel
theorem VY : Told Go.Proofs.Tryz.prog 185 o7 [.t 2] 1:=Told.of Go.Proofs.Tryz.func185 (by decide +kernel)
theorem OK : ax Go.Proofs.Tryz.prog 185 = true:=by decide +kernel
theorem VZ : Told Go.Proofs.Tryz.prog 189 rG [.t 2] 1:=Told.of Go.Proofs.Tryz.func189 (by decide +kernel)
theorem OL : ax Go.Proofs.Tryz.prog 189 = true:=by decide +kernel
theorem V2 : Told Go.Proofs.Tryz.prog 201 oZ [.t 2] 1:=Told.of Go.Proofs.Tryz.func201 (by decide +kernel)
theorem OO : ax Go.Proofs.Tryz.prog 201 = true:=by decide +kernel
theorem V3 : Told Go.Proofs.Tryz.prog 202 zP [.t 2] 1:=Told.of Go.Proofs.Tryz.func202 (by decide +kernel)
theorem OP : ax Go.Proofs.Tryz.prog 202 = true:=by decide +kernel
theorem V4 : Told Go.Proofs.Tryz.prog 203 zH [.t 2] 1:=Told.of Go.Proofs.Tryz.func203 (by decide +kernel)
theorem OQ : ax Go.Proofs.Tryz.prog 203 = true:=by decide +kernel
theorem V5 : Told Go.Proofs.Tryz.prog 205 jc [.t 2] 1:=Told.of Go.Proofs.Tryz.func205 (by decide +kernel)
theorem OR : ax Go.Proofs.Tryz.prog 205 = true:=by decide +kernel
theorem V7 : Told Go.Proofs.Tryz.prog 211 ux [.t 4] 2:=Told.of Go.Proofs.Tryz.func211 (by decide +kernel)
theorem OT : ax Go.Proofs.Tryz.prog 211 = true:=by decide +kernel
theorem V8 : Told Go.Proofs.Tryz.prog 216 nE [.t 2,.t 3] 1:=Told.of Go.Proofs.Tryz.func216 (by decide +kernel)
theorem OU : ax Go.Proofs.Tryz.prog 216 = true:=by decide +kernel
theorem V9 : Told Go.Proofs.Tryz.prog 218 yV [.c 2 2 true 246] 1:=Told.of Go.Proofs.Tryz.func218 (by decide +kernel)
theorem OV : ax Go.Proofs.Tryz.prog 218 = true:=by decide +kernel
theorem Wa : Told Go.Proofs.Tryz.prog 219 x7 [.t 2] 1:=Told.of Go.Proofs.Tryz.func219 (by decide +kernel)
theorem OW : ax Go.Proofs.Tryz.prog 219 = true:=by decide +kernel
theorem Wc : Told Go.Proofs.Tryz.prog 223 vL [.t 4] 2:=Told.of Go.Proofs.Tryz.func223 (by decide +kernel)
theorem OY : ax Go.Proofs.Tryz.prog 223 = true:=by decide +kernel
theorem We : Told Go.Proofs.Tryz.prog 227 qL [.t 4] 2:=Told.of Go.Proofs.Tryz.func227 (by decide +kernel)
theorem OZ : ax Go.Proofs.Tryz.prog 227 = true:=by decide +kernel
theorem Wg : Told Go.Proofs.Tryz.prog 231 qA [.t 2] 1:=Told.of Go.Proofs.Tryz.func231 (by decide +kernel)
theorem O1 : ax Go.Proofs.Tryz.prog 231 = true:=by decide +kernel
theorem Wh : Told Go.Proofs.Tryz.prog 234 tL [.t 4,.t 5] 2:=Told.of Go.Proofs.Tryz.func234 (by decide +kernel)
theorem O2 : ax Go.Proofs.Tryz.prog 234 = true:=by decide +kernel
theorem Wi : Told Go.Proofs.Tryz.prog 239 xC [.c 2 6 true 122] 1:=Told.of Go.Proofs.Tryz.func239 (by decide +kernel)
theorem O3 : ax Go.Proofs.Tryz.prog 239 = true:=by decide +kernel
theorem Wk : Told Go.Proofs.Tryz.prog 240 qx [.t 6] 3:=Told.of Go.Proofs.Tryz.func240 (by decide +kernel)
theorem O5 : ax Go.Proofs.Tryz.prog 240 = true:=by decide +kernel
theorem Wl : Told Go.Proofs.Tryz.prog 241 xH [.t 2] 1:=Told.of Go.Proofs.Tryz.func241 (by decide +kernel)
theorem O6 : ax Go.Proofs.Tryz.prog 241 = true:=by decide +kernel
theorem Wm : Told Go.Proofs.Tryz.prog 242 vM [.t 4] 2:=Told.of Go.Proofs.Tryz.func242 (by decide +kernel)
theorem O7 : ax Go.Proofs.Tryz.prog 242 = true:=by decide +kernel
theorem Wn : Told Go.Proofs.Tryz.prog 243 Am [.t 4] 2:=Told.of Go.Proofs.Tryz.func243 (by decide +kernel)
theorem O8 : ax Go.Proofs.Tryz.prog 243 = true:=by decide +kernel
theorem Wo : Told Go.Proofs.Tryz.prog 244 xR [.t 4] 2:=Told.of Go.Proofs.Tryz.func244 (by decide +kernel)
theorem O9 : ax Go.Proofs.Tryz.prog 244 = true:=by decide +kernel
theorem Wp : Told Go.Proofs.Tryz.prog 246 xV [.c 2 3 true 59] 1:=Told.of Go.Proofs.Tryz.func246 (by decide +kernel)
theorem Pa : ax Go.Proofs.Tryz.prog 246 = true:=by decide +kernel
theorem Ws : Told Go.Proofs.Tryz.prog 251 ov [.t 2] 1:=Told.of Go.Proofs.Tryz.func251 (by decide +kernel)
theorem Pc : ax Go.Proofs.Tryz.prog 251 = true:=by decide +kernel
theorem Wt : Told Go.Proofs.Tryz.prog 252 vt [.t 4] 2:=Told.of Go.Proofs.Tryz.func252 (by decide +kernel)
theorem Pd : ax Go.Proofs.Tryz.prog 252 = true:=by decide +kernel
theorem Wu : Told Go.Proofs.Tryz.prog 253 zz [.t 2] 1:=Told.of Go.Proofs.Tryz.func253 (by decide +kernel)
theorem Pe : ax Go.Proofs.Tryz.prog 253 = true:=by decide +kernel
theorem Wv : Told Go.Proofs.Tryz.prog 254 zw [.t 2] 1:=Told.of Go.Proofs.Tryz.func254 (by decide +kernel)
theorem Pf : ax Go.Proofs.Tryz.prog 254 = true:=by decide +kernel
theorem Ww : Told Go.Proofs.Tryz.prog 255 rI [.t 2,.t 3] 1:=Told.of Go.Proofs.Tryz.func255 (by decide +kernel)
theorem Pg : ax Go.Proofs.Tryz.prog 255 = true:=by decide +kernel
theorem Wx : Told Go.Proofs.Tryz.prog 256 zy [.t 4] 2:=Told.of Go.Proofs.Tryz.func256 (by decide +kernel)
theorem Ph : ax Go.Proofs.Tryz.prog 256 = true:=by decide +kernel
theorem Wy : Told Go.Proofs.Tryz.prog 257 o9 [.t 4] 2:=Told.of Go.Proofs.Tryz.func257 (by decide +kernel)
theorem Pj : ax Go.Proofs.Tryz.prog 257 = true:=by decide +kernel
theorem Wz : Told Go.Proofs.Tryz.prog 258 zN [.t 2] 1:=Told.of Go.Proofs.Tryz.func258 (by decide +kernel)
theorem Pk : ax Go.Proofs.Tryz.prog 258 = true:=by decide +kernel
theorem WA : Told Go.Proofs.Tryz.prog 259 qC [.t 2] 1:=Told.of Go.Proofs.Tryz.func259 (by decide +kernel)
theorem Pm : ax Go.Proofs.Tryz.prog 259 = true:=by decide +kernel
theorem WC : Told Go.Proofs.Tryz.prog 260 xP [.t 2] 1:=Told.of Go.Proofs.Tryz.func260 (by decide +kernel)
theorem Po : ax Go.Proofs.Tryz.prog 260 = true:=by decide +kernel
theorem WD : Told Go.Proofs.Tryz.prog 261 ow [.t 2] 1:=Told.of Go.Proofs.Tryz.func261 (by decide +kernel)
theorem Pp : ax Go.Proofs.Tryz.prog 261 = true:=by decide +kernel
theorem WE : Told Go.Proofs.Tryz.prog 262 xK [.t 3] 2:=Told.of Go.Proofs.Tryz.func262 (by decide +kernel)
theorem Pq : ax Go.Proofs.Tryz.prog 262 = true:=by decide +kernel
theorem WG : Told Go.Proofs.Tryz.prog 264 zE [.t 2] 1:=Told.of Go.Proofs.Tryz.func264 (by decide +kernel)
theorem Pr : ax Go.Proofs.Tryz.prog 264 = true:=by decide +kernel
theorem WH : Told Go.Proofs.Tryz.prog 268 vR [.t 4] 2:=Told.of Go.Proofs.Tryz.func268 (by decide +kernel)
theorem Pt : ax Go.Proofs.Tryz.prog 268 = true:=by decide +kernel
theorem WJ : Told Go.Proofs.Tryz.prog 271 ya [.t 2] 1:=Told.of Go.Proofs.Tryz.func271 (by decide +kernel)
theorem Pv : ax Go.Proofs.Tryz.prog 271 = true:=by decide +kernel
theorem WK : Told Go.Proofs.Tryz.prog 272 xS [.t 2] 1:=Told.of Go.Proofs.Tryz.func272 (by decide +kernel)
theorem Pw : ax Go.Proofs.Tryz.prog 272 = true:=by decide +kernel
theorem WN : Told Go.Proofs.Tryz.prog 294 xE [.t 2] 1:=Told.of Go.Proofs.Tryz.func294 (by decide +kernel)
theorem Pz : ax Go.Proofs.Tryz.prog 294 = true:=by decide +kernel
theorem WO : Told Go.Proofs.Tryz.prog 296 xX [.t 4] 2:=Told.of Go.Proofs.Tryz.func296 (by decide +kernel)
theorem PA : ax Go.Proofs.Tryz.prog 296 = true:=by decide +kernel
theorem WQ : Told Go.Proofs.Tryz.prog 297 xN [.t 2] 1:=Told.of Go.Proofs.Tryz.func297 (by decide +kernel)
theorem PB : ax Go.Proofs.Tryz.prog 297 = true:=by decide +kernel
theorem WR : Told Go.Proofs.Tryz.prog 298 lF [] 2:=Told.of Go.Proofs.Tryz.func298 (by decide +kernel)
theorem PC : ax Go.Proofs.Tryz.prog 298 = true:=by decide +kernel
theorem WS : Told Go.Proofs.Tryz.prog 299 xI [.t 2] 1:=Told.of Go.Proofs.Tryz.func299 (by decide +kernel)
theorem PD : ax Go.Proofs.Tryz.prog 299 = true:=by decide +kernel
theorem WU : Told Go.Proofs.Tryz.prog 301 xJ [.t 4] 2:=Told.of Go.Proofs.Tryz.func301 (by decide +kernel)
theorem PF : ax Go.Proofs.Tryz.prog 301 = true:=by decide +kernel
theorem WV : Told Go.Proofs.Tryz.prog 302 qE [.t 4] 2:=Told.of Go.Proofs.Tryz.func302 (by decide +kernel)
theorem PG : ax Go.Proofs.Tryz.prog 302 = true:=by decide +kernel
theorem WW : Told Go.Proofs.Tryz.prog 303 vT [.t 4] 2:=Told.of Go.Proofs.Tryz.func303 (by decide +kernel)
theorem PI : ax Go.Proofs.Tryz.prog 303 = true:=by decide +kernel
theorem WY : Told Go.Proofs.Tryz.prog 305 xT [.t 4] 2:=Told.of Go.Proofs.Tryz.func305 (by decide +kernel)
theorem PJ : ax Go.Proofs.Tryz.prog 305 = true:=by decide +kernel
theorem WZ : Told Go.Proofs.Tryz.prog 306 xQ [.t 2] 1:=Told.of Go.Proofs.Tryz.func306 (by decide +kernel)
theorem PK : ax Go.Proofs.Tryz.prog 306 = true:=by decide +kernel
theorem W6 : Told Go.Proofs.Tryz.prog 320 vP [.t 4] 2:=Told.of Go.Proofs.Tryz.func320 (by decide +kernel)
theorem PO : ax Go.Proofs.Tryz.prog 320 = true:=by decide +kernel
theorem W7 : Told Go.Proofs.Tryz.prog 321 xW [.t 3] 2:=Told.of Go.Proofs.Tryz.func321 (by decide +kernel)
theorem PR : ax Go.Proofs.Tryz.prog 321 = true:=by decide +kernel
theorem W8 : Told Go.Proofs.Tryz.prog 324 yb [.t 2] 1:=Told.of Go.Proofs.Tryz.func324 (by decide +kernel)
theorem PS : ax Go.Proofs.Tryz.prog 324 = true:=by decide +kernel
theorem WX : Told Go.Proofs.Tryz.prog 304 (sA 2 32) [.t 2] 1:=Told.of Go.Proofs.Tryz.func304 (by decide +kernel)
theorem Wd : Told Go.Proofs.Tryz.prog 225 (sA 1 16) [.t 2] 1:=Told.of Go.Proofs.Tryz.func225 (by decide +kernel)
theorem Ye : TT.Ok Go.Proofs.Tryz.prog:=by
  refine ⟨fun f F h=>?_,fun f F h=>?_⟩
  · unfold TT at h
    split at h
    · cases h; exact Xh
    · cases h; exact VT
    · cases h; exact V0
    · cases h; exact V1
    · cases h; exact V6
    · cases h; exact Wb
    · cases h; exact Wf
    · cases h; exact Wj
    · cases h; exact Wq
    · cases h; exact WB
    · cases h; exact WI
    · cases h; exact WL
    · cases h; exact WM
    · cases h; exact WT
    · cases h; exact W4
    · cases h; exact W5
    · cases h; exact W9
    · cases h; exact Xa
    · cases h; exact Xb
    · cases h; exact Xc
    · cases h; exact Xd
    · cases h; exact Xe
    · cases h; exact Xf
    · cases h; exact Xg
    · cases h; exact Xi
    · cases h; exact Xj
    · cases h; exact Xk
    · cases h; exact Xl
    · cases h; exact Xm
    · cases h; exact Xn
    · cases h; exact Xo
    · cases h; exact Xp
    · cases h; exact Xq
    · cases h; exact Xr
    · cases h; exact Xs
    · cases h; exact Xt
    · cases h; exact Xu
    · cases h; exact Xv
    · cases h; exact Xw
    · cases h; exact Xx
    · cases h; exact Xy
    · cases h; exact Xz
    · cases h; exact XA
    · cases h; exact XB
    · cases h; exact XC
    · cases h; exact XD
    · cases h; exact XE
    · cases h; exact XF
    · cases h; exact XG
    · cases h; exact XH
    · cases h; exact XI
    · cases h; exact XJ
    · cases h; exact XK
    · cases h; exact XL
    · cases h; exact XM
    · cases h; exact Vf
    · cases h; exact Vg
    · cases h; exact Vh
    · cases h; exact Vi
    · cases h; exact Vj
    · cases h; exact Vk
    · cases h; exact Vl
    · cases h; exact Vm
    · cases h; exact Vn
    · cases h; exact Vo
    · cases h; exact Vp
    · cases h; exact Vq
    · cases h; exact Vr
    · cases h; exact Vs
    · cases h; exact Vt
    · cases h; exact Vu
    · cases h; exact Vv
    · cases h; exact Vw
    · cases h; exact Vx
    · cases h; exact Vy
    · cases h; exact Vz
    · cases h; exact VA
    · cases h; exact VB
    · cases h; exact VC
    · cases h; exact VD
    · cases h; exact VE
    · cases h; exact VF
    · cases h; exact VG
    · cases h; exact VH
    · cases h; exact VI
    · cases h; exact VJ
    · cases h; exact VK
    · cases h; exact VL
    · cases h; exact VM
    · cases h; exact VN
    · cases h; exact VO
    · cases h; exact VP
    · cases h; exact VQ
    · cases h; exact VR
    · cases h; exact VS
    · cases h; exact VU
    · cases h; exact VV
    · cases h; exact VW
    · cases h; exact VX
    · cases h; exact VY
    · cases h; exact VZ
    · cases h; exact V2
    · cases h; exact V3
    · cases h; exact V4
    · cases h; exact V5
    · cases h; exact V7
    · cases h; exact V8
    · cases h; exact V9
    · cases h; exact Wa
    · cases h; exact Wc
    · cases h; exact We
    · cases h; exact Wg
    · cases h; exact Wh
    · cases h; exact Wi
    · cases h; exact Wk
    · cases h; exact Wl
    · cases h; exact Wm
    · cases h; exact Wn
    · cases h; exact Wo
    · cases h; exact Wp
    · cases h; exact Ws
    · cases h; exact Wt
    · cases h; exact Wu
    · cases h; exact Wv
    · cases h; exact Ww
    · cases h; exact Wx
    · cases h; exact Wy
    · cases h; exact Wz
    · cases h; exact WA
    · cases h; exact WC
    · cases h; exact WD
    · cases h; exact WE
    · cases h; exact WG
    · cases h; exact WH
    · cases h; exact WJ
    · cases h; exact WK
    · cases h; exact WN
    · cases h; exact WO
    · cases h; exact WQ
    · cases h; exact WR
    · cases h; exact WS
    · cases h; exact WU
    · cases h; exact WV
    · cases h; exact WW
    · cases h; exact WY
    · cases h; exact WZ
    · cases h; exact W6
    · cases h; exact W7
    · cases h; exact W8
    · cases h
  · unfold TT at h
    split at h
    · cases h; exact P1
    · cases h; exact OE
    · cases h; exact OM
    · cases h; exact ON
    · cases h; exact OS
    · cases h; exact OX
    · cases h; exact O0
    · cases h; exact O4
    · cases h; exact Pb
    · cases h; exact Pn
    · cases h; exact Pu
    · cases h; exact Px
    · cases h; exact Py
    · cases h; exact PE
    · cases h; exact PL
    · cases h; exact PN
    · cases h; exact PT
    · cases h; exact PU
    · cases h; exact PV
    · cases h; exact PW
    · cases h; exact PX
    · cases h; exact PY
    · cases h; exact PZ
    · cases h; exact P0
    · cases h; exact P2
    · cases h; exact P3
    · cases h; exact P4
    · cases h; exact P5
    · cases h; exact P6
    · cases h; exact P7
    · cases h; exact P8
    · cases h; exact P9
    · cases h; exact Qa
    · cases h; exact Qb
    · cases h; exact Qc
    · cases h; exact Qd
    · cases h; exact Qe
    · cases h; exact Qf
    · cases h; exact Qg
    · cases h; exact Qh
    · cases h; exact Qi
    · cases h; exact Qj
    · cases h; exact Qk
    · cases h; exact Ql
    · cases h; exact Qm
    · cases h; exact Qn
    · cases h; exact Qo
    · cases h; exact Qp
    · cases h; exact Qq
    · cases h; exact Qr
    · cases h; exact Qs
    · cases h; exact Qt
    · cases h; exact Qu
    · cases h; exact Qv
    · cases h; exact Qw
    · cases h; exact NU
    · cases h; exact NV
    · cases h; exact NW
    · cases h; exact NX
    · cases h; exact NY
    · cases h; exact NZ
    · cases h; exact N0
    · cases h; exact N1
    · cases h; exact N2
    · cases h; exact N3
    · cases h; exact N4
    · cases h; exact N5
    · cases h; exact N6
    · cases h; exact N7
    · cases h; exact N8
    · cases h; exact N9
    · cases h; exact Oa
    · cases h; exact Oc
    · cases h; exact Od
    · cases h; exact Oe
    · cases h; exact Og
    · cases h; exact Oh
    · cases h; exact Oi
    · cases h; exact Oj
    · cases h; exact Ol
    · cases h; exact Om
    · cases h; exact On
    · cases h; exact Oo
    · cases h; exact Oq
    · cases h; exact Ot
    · cases h; exact Ou
    · cases h; exact Ov
    · cases h; exact Ow
    · cases h; exact Ox
    · cases h; exact Oy
    · cases h; exact Oz
    · cases h; exact OA
    · cases h; exact OB
    · cases h; exact OC
    · cases h; exact OD
    · cases h; exact OG
    · cases h; exact OH
    · cases h; exact OI
    · cases h; exact OJ
    · cases h; exact OK
    · cases h; exact OL
    · cases h; exact OO
    · cases h; exact OP
    · cases h; exact OQ
    · cases h; exact OR
    · cases h; exact OT
    · cases h; exact OU
    · cases h; exact OV
    · cases h; exact OW
    · cases h; exact OY
    · cases h; exact OZ
    · cases h; exact O1
    · cases h; exact O2
    · cases h; exact O3
    · cases h; exact O5
    · cases h; exact O6
    · cases h; exact O7
    · cases h; exact O8
    · cases h; exact O9
    · cases h; exact Pa
    · cases h; exact Pc
    · cases h; exact Pd
    · cases h; exact Pe
    · cases h; exact Pf
    · cases h; exact Pg
    · cases h; exact Ph
    · cases h; exact Pj
    · cases h; exact Pk
    · cases h; exact Pm
    · cases h; exact Po
    · cases h; exact Pp
    · cases h; exact Pq
    · cases h; exact Pr
    · cases h; exact Pt
    · cases h; exact Pv
    · cases h; exact Pw
    · cases h; exact Pz
    · cases h; exact PA
    · cases h; exact PB
    · cases h; exact PC
    · cases h; exact PD
    · cases h; exact PF
    · cases h; exact PG
    · cases h; exact PI
    · cases h; exact PJ
    · cases h; exact PK
    · cases h; exact PO
    · cases h; exact PR
    · cases h; exact PS
    · cases h
theorem Yc (htab : Lib.TabIs Go.Proofs.Tryz.prog Bs.W0 "internal/strconv.uint64pow10" .u64 Lib.pow10Tab) (hmax : ∃ m,Bs.W0.cell? ⟨1,0,none⟩ = some (.int .i64 m)) (BM : ∃ te pe,Bs.W0.var? Go.Proofs.Tryz.prog "strconv.ErrSyntax" = some #[.iface te pe]) (gS : ∃ te pe,Bs.W0.var? Go.Proofs.Tryz.prog "strconv.ErrRange" = some #[.iface te pe]) : gK.Sound Go.Proofs.Tryz.prog:=(oP (S8 fun s w hw hs=>Go.Proofs.S3 htab BM gS s w hw hs) (oP (Fp WX) (oP (Fp Wd) (oP (M4 fun s p w=>Go.Proofs.Tryz.strings_CutPrefix s p w) (oP (Q5 fun s p w=>Go.Proofs.Tryz.strings_HasPrefix s p w) (oP (UP (g1:=1) (t9:=_) hmax fun s sep m w h1 h2 h3=>Go.Proofs.Tryz.strings_Split s sep m w h1 h2 h3) (XO fun s c h w hs=>Go.Proofs.Tryz.strings_Trim_one s c h w hs)))))))
end M
