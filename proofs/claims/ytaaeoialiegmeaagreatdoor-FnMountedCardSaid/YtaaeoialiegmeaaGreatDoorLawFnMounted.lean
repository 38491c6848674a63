/- The statement FnMounted of this seat's rows is proved; no conditions. -/
import Derived.Test.YtaaeoialiegmeaaGreatDoorTie
import Derived.Test.YtaaeoialiegmeaaGreatDoorCards
import Derived.Test.YtaaeoialiegmeaaGreatDoorFact
import Derived.Test.YtaaeoialiegmeaaGreatDoorTold
import Derived.Test.YtaaeoialiegmeaaGreatDoorConb
import Derived.WalkKit
import Derived.ProofKit
import Derived.OpenShut
import Derived.Handy
import Derived.Lay
import Derived.ChangeOld
import Derived.SizedLaws
import Derived.SevenTiedAt
import Derived.Stop.LaidErr
import Derived.Shelf.Vars
set_option linter.defProp false
set_option linter.unusedSectionVars false
set_option linter.unusedVariables false
set_option linter.unusedSimpArgs false
namespace Go.Proofs.YtaaeoialiegmeaaGreatDoor.anX
open Go.ChangeShapes Go.WideShapes Go.ChangeAt Go.RowKit
theorem own:ownKnob Tryz.prog.godebug=none:=by kernel_rfl
theorem tys:Tryz.f6.params.toList.map (M.tE Tryz.prog)=[M.mE.one (.row [.int .u8])].map some:=by kernel_rfl
theorem ac(W:World)(htab:Lib.TabIs Tryz.prog W "internal/strconv.uint64pow10" .u64 Lib.pow10Tab) (hmax:∃m,W.cell? ⟨3,0,none⟩=some (.int .i64 m)) (Ka:∃te pe,W.var? Tryz.prog "strconv.ErrSyntax" =some #[.iface te pe]) (kq:∃te pe,W.var? Tryz.prog "strconv.ErrRange" =some #[.iface te pe]):∀xs,M.vR [M.mE.one (.row [.int .u8])] xs->@M.AC ⟨W⟩ Tryz.prog 6 xs λr _=>r=.bool true:=by intro xs hx;obtain⟨x0,xs0,rfl,h0,hx0⟩:=M.ali hx;obtain⟨a0,rfl,k0⟩:=M.alk (M.alh h0);obtain rfl:=M.alj hx0;letI:M.Bs:=⟨W⟩;obtain⟨ps,he⟩:=M.amH (a0) (k0);exact(M.alW (L:=M.LI) (T:=M.TT) (M.aki htab hmax Ka kq) M.akk _ _ _ he).mono λr ps h=>h.1
theorem tab{W:World}(h:laidMetH Tryz.prog Rows.fnMountedRow.laid W):Lib.TabIs Tryz.prog W "internal/strconv.uint64pow10" .u64 Lib.pow10Tab:=by rw[MakeChecks.laidMetH_plain _ _ _ (by kernel_rfl)] at h;obtain⟨ps,h,_⟩:=h;exact M.agJ (g:=2) (t:=251) (e:=225) (n:=20) (by kernel_rfl) (by kernel_rfl) Tryz.underlying251 Tryz.underlying225 (by kernel_rfl) (by kernel_rfl) h (by unfold Rows.fnMountedRow;exact bO _ (bO _ (bq ..)))
theorem star: "*" ++ "errors.errorString" = "*errors.errorString" :=by decide
theorem xM(u:TypeId)(h:Tryz.prog.typeName? 3 u=some "*errors.errorString"):u=256:=
 typeName_ptr_named (nm:= "errors.errorString") (by rw[star];kernel_rfl) (by kernel_rfl) (by decide) u (by rw[star];exact h)
theorem es{W:World}(h:laidMetH Tryz.prog Rows.fnMountedRow.laid W):∃te pe,W.var? Tryz.prog "strconv.ErrSyntax" =some #[.iface te pe]:=by rw[MakeChecks.laidMetH_plain _ _ _ (by kernel_rfl)] at h;unfold Rows.fnMountedRow at h;obtain⟨a,s,hv,-,-,-⟩:=laid_sentinel (laidMet.tail (laidMet.tail (laidMet.tail (laidMet.tail (laidMet.tail h))))) (show Tryz.prog.globalNamed "strconv.ErrSyntax" =some 0 by kernel_rfl) (show (Tryz.prog.globals[0]?).map (·.type)=some 112 by kernel_rfl) Tryz.underlying112 xM Tryz.underlying256 Tryz.underlying258 rfl rfl Tryz.underlying9 (by kernel_rfl) (by kernel_rfl);exact⟨_,_,hv⟩
theorem er{W:World}(h:laidMetH Tryz.prog Rows.fnMountedRow.laid W):∃te pe,W.var? Tryz.prog "strconv.ErrRange" =some #[.iface te pe]:=by rw[MakeChecks.laidMetH_plain _ _ _ (by kernel_rfl)] at h;unfold Rows.fnMountedRow at h;obtain⟨a,s,hv,-,-,-⟩:=laid_sentinel (laidMet.tail (laidMet.tail (laidMet.tail (laidMet.tail h)))) (show Tryz.prog.globalNamed "strconv.ErrRange" =some 1 by kernel_rfl) (show (Tryz.prog.globals[1]?).map (·.type)=some 112 by kernel_rfl) Tryz.underlying112 xM Tryz.underlying256 Tryz.underlying258 rfl rfl Tryz.underlying9 (by kernel_rfl) (by kernel_rfl);exact⟨_,_,hv⟩
theorem mx{W:World}(h:W.ShapedOpen Tryz.prog):∃m,W.cell? ⟨3,0,none⟩=some (.int .i64 m):=
 Go.Proofs.cell_of_shapedOpen_int (zero:= #[.int .i64 0]) (t:=3) h (yY (by kernel_rfl)) (by kernel_rfl) rfl (by kernel_rfl) (by kernel_rfl) Tryz.underlying3
set_option maxRecDepth 100000 in
theorem lifted(os:Os)(started:os.Started)(H:Type)(enc:TypeId×Value->H):
  ReturnsInHanded {} Tryz.checked os 6 .any (λw args=>(Rows.fnMountedSpec.pre enc Tryz.prog Tryz.f6 Rows.fnMountedRow.domain false w args/\laidMetH Tryz.prog Rows.fnMountedRow.laid w)/\sizedMet enc Tryz.prog Tryz.f6 (OpenSpec.ofChange Rows.fnMountedSpec) false w args)
   (Rows.fnMountedSpec.post enc Tryz.prog Tryz.f6 false true false false):=by
 refine anp (C:=Tryz.checked) (X:=λw _=>laidMetH Tryz.prog Rows.fnMountedRow.laid w) (λ_ _ _ hh h=>h.of_heap hh) own started (by kernel_rfl) Tryz.func6
  (ChangeSpec.witness_shaped (enc:=enc) (C:=Tryz.checked) (os:=os) (X:=λw _=>laidMetH Tryz.prog Rows.fnMountedRow.laid w) false (World.laidAll Tryz.prog os Rows.fnMountedRow.laid) #[.slice none 0 0] 8 (World.laidAll_os _ _ _)
   (World.shaped_of_ZipB (by kernel_rfl) (by kernel_rfl)) (by kernel_rfl) (by kernel_rfl) (by kernel_rfl)
   (by rw[MakeChecks.laidMetH_plain _ _ _ (by kernel_rfl)];exact laidMet_laidAll _ (by kernel_rfl) (by kernel_rfl))) ?_
 intro W base args ds gs before an1 hW aoH aoI hL hsh _;have hW':=hW;obtain⟨p,q,hA0,hV,rfl,hfz,hnd⟩:=hW;obtain⟨rfl,rfl⟩:=trodVars_none hV;have hval:∀(j:Nat) t v,Tryz.f6.params.toList[j]?=some t->args.toList[j]?=some v->Value.okWide Tryz.prog W .any base t v:=λj t v h1 h2=>an1 j t v (by simpa using h1) (by simpa using h2);have h:=M.akN tys hval hA0 (ac W (tab hL) (mx hsh) (es hL) (er hL));rw[Array.toArray_toList] at h;refine h.mono λe W' ⟨he,bel⟩=>?_;subst he;have pE:=M.ajx bel tys hA0;obtain⟨v0,vs0,d0,ds0,p0,q0,aoG,rfl,rfl,t0,r0⟩:=trodAll_cons hA0;obtain⟨rfl,rfl,rfl⟩:=trodAll_nil r0;exact⟨_,rfl,_,_,_,[],_,[],hW',trodAll_mk1 (shut_bool Tryz.underlying4 _),pE,rfl,bel.frame _,λh=>by cases h⟩
theorem over:Rows.fnMountedRow.holds Tryz.pinned (OpenSpec.ofChange Rows.fnMountedSpec):=
 OpenClaim.holds_of_wide 6 Tryz.f6 rfl rfl rfl rfl rfl rfl rfl ⟨rfl,rfl,rfl,rfl,rfl⟩ rfl rfl rfl rfl rfl (by kernel_rfl) Tryz.func6 jf
  (yY (by kernel_rfl)) (by unfold Func.isWrapper;first|(rw[au (by decide+kernel)];kernel_rfl)|(rw[aC (by decide+kernel)];exact⟨rfl,rfl⟩))
  (λos started H enc _=>lifted os started H enc)
theorem card:Claim7.holds Tryz.pinned (.plain (OpenSpec.ofChange Rows.fnMountedSpec)) Rows.fnMountedCard:=
 Claim7.holds_tied_plain_at .later [] [.data,.data,.data,.data,.sentinel,.sentinel,.pinned] true (true,"db45d5b6050289824d2850edf075e3fd43151ee4e6dd343443b9549b3cb7efca") true over (λ_ h=>by cases h) jcw (λ_ h=>by cases h) fnMounted_row_tie rfl ⟨rfl,rfl⟩ jcm rfl
  (λf fn hf hfn=>by
   obtain rfl:f=6:=iA (jcf.symm.trans hf) |>.symm;obtain rfl:fn=Tryz.f6:=(iA (Tryz.func6.symm.trans hfn)).symm
   exact⟨jcl,λj t ht=>by
    rw[Tryz.params6] at ht;have hm:t∈[22]:=by simpa using Array.mem_of_getElem? ht
    exact(show Tryz.prog.wantsStandIn t=false by simpa using oR.1 jcs t hm)⟩)
  jcg
end Go.Proofs.YtaaeoialiegmeaaGreatDoor.anX
namespace Go.Proofs.YtaaeoialiegmeaaGreatDoor
theorem fnMounted_holds:Rows.FnMountedCardSaid:=anX.card
#print axioms fnMounted_holds
end Go.Proofs.YtaaeoialiegmeaaGreatDoor
