/- The statement FnDecided of this seat's rows is proved; no conditions. -/
import Derived.Test.YtaaeoialiegmeaaGreatDoorTie
import Derived.Test.YtaaeoialiegmeaaGreatDoorCards
import Derived.Test.YtaaeoialiegmeaaGreatDoorFact
import Derived.Test.YtaaeoialiegmeaaGreatDoorFind
import Derived.Test.YtaaeoialiegmeaaGreatDoorTold
import Derived.Test.YtaaeoialiegmeaaGreatDoorConb
import Derived.WalkKit
import Derived.ProofKit
import Derived.OpenShut
import Derived.Handy
import Derived.Lay
import Derived.ChangeOld
import Derived.SizedLaws
import Derived.SevenTiedAt
import Derived.Stop.LaidErr
import Derived.Shelf.Vars
set_option linter.defProp false
set_option linter.unusedSectionVars false
set_option linter.unusedVariables false
set_option linter.unusedSimpArgs false
namespace Go.Proofs.YtaaeoialiegmeaaGreatDoor.aoj
open Go.ChangeShapes Go.WideShapes Go.ChangeAt Go.RowKit
theorem own:ownKnob Tryz.prog.godebug=none:=by kernel_rfl
theorem tys:Tryz.f5.params.toList.map (M.tP Tryz.prog)=[M.mV.one (.row [.int .u8])].map some:=by kernel_rfl
theorem ac(W:World)(htab:Lib.TabIs Tryz.prog W "internal/strconv.uint64pow10" .u64 Lib.pow10Tab) (hmax:∃m,W.cell? ⟨3,0,none⟩=some (.int .i64 m)) (Kr:∃te pe,W.var? Tryz.prog "strconv.ErrSyntax" =some #[.iface te pe]) (kM:∃te pe,W.var? Tryz.prog "strconv.ErrRange" =some #[.iface te pe]):∀xs,M.vL [M.mV.one (.row [.int .u8])] xs->@M.AC ⟨W⟩ Tryz.prog 5 xs λr _=>r=.bool true:=by intro xs hx;obtain⟨x0,xs0,rfl,h0,hx0⟩:=M.alx hx;obtain⟨a0,rfl,k0⟩:=M.alz (M.alw h0);obtain rfl:=M.aly hx0;letI:M.Bs:=⟨W⟩;obtain⟨ps,he⟩:=@M.am2 M.fd1 (a0) (k0);exact(M.YQ (L:=M.DR) (T:=M.TT) (M.akx (M.akw htab hmax Kr kM) M.aky) M.aky _ _ _ he).mono λr ps h=>h.1
theorem tab{W:World}(h:laidMetH Tryz.prog Rows.fnDecidedRow.laid W):Lib.TabIs Tryz.prog W "internal/strconv.uint64pow10" .u64 Lib.pow10Tab:=by rw[MakeChecks.laidMetH_plain _ _ _ (by kernel_rfl)] at h;obtain⟨ps,h,_⟩:=h;exact M.ag3 (g:=2) (t:=251) (e:=225) (n:=20) (by kernel_rfl) (by kernel_rfl) Tryz.underlying251 Tryz.underlying225 (by kernel_rfl) (by kernel_rfl) h (by unfold Rows.fnDecidedRow;exact cE _ (cE _ (bE ..)))
theorem star: "*" ++ "errors.errorString" = "*errors.errorString" :=by decide
theorem xJ(u:TypeId)(h:Tryz.prog.typeName? 3 u=some "*errors.errorString"):u=256:=
 typeName_ptr_named (nm:= "errors.errorString") (by rw[star];kernel_rfl) (by kernel_rfl) (by decide) u (by rw[star];exact h)
theorem es{W:World}(h:laidMetH Tryz.prog Rows.fnDecidedRow.laid W):∃te pe,W.var? Tryz.prog "strconv.ErrSyntax" =some #[.iface te pe]:=by rw[MakeChecks.laidMetH_plain _ _ _ (by kernel_rfl)] at h;unfold Rows.fnDecidedRow at h;obtain⟨a,s,hv,-,-,-⟩:=laid_sentinel (laidMet.tail (laidMet.tail (laidMet.tail (laidMet.tail (laidMet.tail h))))) (show Tryz.prog.globalNamed "strconv.ErrSyntax" =some 0 by kernel_rfl) (show (Tryz.prog.globals[0]?).map (·.type)=some 112 by kernel_rfl) Tryz.underlying112 xJ Tryz.underlying256 Tryz.underlying258 rfl rfl Tryz.underlying9 (by kernel_rfl) (by kernel_rfl);exact⟨_,_,hv⟩
theorem er{W:World}(h:laidMetH Tryz.prog Rows.fnDecidedRow.laid W):∃te pe,W.var? Tryz.prog "strconv.ErrRange" =some #[.iface te pe]:=by rw[MakeChecks.laidMetH_plain _ _ _ (by kernel_rfl)] at h;unfold Rows.fnDecidedRow at h;obtain⟨a,s,hv,-,-,-⟩:=laid_sentinel (laidMet.tail (laidMet.tail (laidMet.tail (laidMet.tail h)))) (show Tryz.prog.globalNamed "strconv.ErrRange" =some 1 by kernel_rfl) (show (Tryz.prog.globals[1]?).map (·.type)=some 112 by kernel_rfl) Tryz.underlying112 xJ Tryz.underlying256 Tryz.underlying258 rfl rfl Tryz.underlying9 (by kernel_rfl) (by kernel_rfl);exact⟨_,_,hv⟩
theorem mx{W:World}(h:W.ShapedOpen Tryz.prog):∃m,W.cell? ⟨3,0,none⟩=some (.int .i64 m):=
 Go.Proofs.cell_of_shapedOpen_int (zero:= #[.int .i64 0]) (t:=3) h (zh (by kernel_rfl)) (by kernel_rfl) rfl (by kernel_rfl) (by kernel_rfl) Tryz.underlying3
set_option maxRecDepth 100000 in
theorem lifted(os:Os)(started:os.Started)(H:Type)(enc:TypeId×Value->H):
  ReturnsInHanded {} Tryz.checked os 5 .any (λw args=>(Rows.fnDecidedSpec.pre enc Tryz.prog Tryz.f5 Rows.fnDecidedRow.domain false w args/\laidMetH Tryz.prog Rows.fnDecidedRow.laid w)/\sizedMet enc Tryz.prog Tryz.f5 (OpenSpec.ofChange Rows.fnDecidedSpec) false w args)
   (Rows.fnDecidedSpec.post enc Tryz.prog Tryz.f5 false true false false):=by
 refine anL (C:=Tryz.checked) (X:=λw _=>laidMetH Tryz.prog Rows.fnDecidedRow.laid w) (λ_ _ _ hh h=>h.of_heap hh) own started (by kernel_rfl) Tryz.func5
  (ChangeSpec.witness_shaped (enc:=enc) (C:=Tryz.checked) (os:=os) (X:=λw _=>laidMetH Tryz.prog Rows.fnDecidedRow.laid w) false (World.laidAll Tryz.prog os Rows.fnDecidedRow.laid) #[.slice none 0 0] 8 (World.laidAll_os _ _ _)
   (World.shaped_of_ZipB (by kernel_rfl) (by kernel_rfl)) (by kernel_rfl) (by kernel_rfl) (by kernel_rfl)
   (by rw[MakeChecks.laidMetH_plain _ _ _ (by kernel_rfl)];exact laidMet_laidAll _ (by kernel_rfl) (by kernel_rfl))) ?_
 intro W base args ds gs before aon hW ao3 ao4 hL hsh _;have hW':=hW;obtain⟨p,q,hA0,hV,rfl,hfz,hnd⟩:=hW;obtain⟨rfl,rfl⟩:=trodVars_none hV;have hval:∀(j:Nat) t v,Tryz.f5.params.toList[j]?=some t->args.toList[j]?=some v->Value.okWide Tryz.prog W .any base t v:=λj t v h1 h2=>aon j t v (by simpa using h1) (by simpa using h2);have h:=M.ak2 tys hval hA0 (ac W (tab hL) (mx hsh) (es hL) (er hL));rw[Array.toArray_toList] at h;refine h.mono λe W' ⟨he,bel⟩=>?_;subst he;have p7:=M.ajS bel tys hA0;obtain⟨v0,vs0,d0,ds0,p0,q0,ao2,rfl,rfl,t0,r0⟩:=trodAll_cons hA0;obtain⟨rfl,rfl,rfl⟩:=trodAll_nil r0;exact⟨_,rfl,_,_,_,[],_,[],hW',trodAll_mk1 (shut_bool Tryz.underlying4 _),p7,rfl,bel.frame _,λh=>by cases h⟩
theorem over:Rows.fnDecidedRow.holds Tryz.pinned (OpenSpec.ofChange Rows.fnDecidedSpec):=
 OpenClaim.holds_of_wide 5 Tryz.f5 rfl rfl rfl rfl rfl rfl rfl ⟨rfl,rfl,rfl,rfl,rfl⟩ rfl rfl rfl rfl rfl (by kernel_rfl) Tryz.func5 jf
  (zh (by kernel_rfl)) (by unfold Func.isWrapper;first|(rw[aA (by decide+kernel)];kernel_rfl)|(rw[aC (by decide+kernel)];exact⟨rfl,rfl⟩))
  (λos started H enc _=>lifted os started H enc)
theorem card:Claim7.holds Tryz.pinned (.plain (OpenSpec.ofChange Rows.fnDecidedSpec)) Rows.fnDecidedCard:=
 Claim7.holds_tied_plain_at .later [] [.data,.data,.data,.data,.sentinel,.sentinel,.pinned] true (true,"db45d5b6050289824d2850edf075e3fd43151ee4e6dd343443b9549b3cb7efca") true over (λ_ h=>by cases h) jcw (λ_ h=>by cases h) fnDecided_row_tie rfl ⟨rfl,rfl⟩ jcm rfl
  (λf fn hf hfn=>by
   obtain rfl:f=5:=iJ (jcf.symm.trans hf) |>.symm;obtain rfl:fn=Tryz.f5:=(iJ (Tryz.func5.symm.trans hfn)).symm
   exact⟨jcl,λj t ht=>by
    rw[Tryz.params5] at ht;have hm:t∈[22]:=by simpa using Array.mem_of_getElem? ht
    exact(show Tryz.prog.wantsStandIn t=false by simpa using pI.1 jcs t hm)⟩)
  jcg
end Go.Proofs.YtaaeoialiegmeaaGreatDoor.aoj
namespace Go.Proofs.YtaaeoialiegmeaaGreatDoor
theorem fnDecided_holds:Rows.FnDecidedCardSaid:=aoj.card
#print axioms fnDecided_holds
end Go.Proofs.YtaaeoialiegmeaaGreatDoor
