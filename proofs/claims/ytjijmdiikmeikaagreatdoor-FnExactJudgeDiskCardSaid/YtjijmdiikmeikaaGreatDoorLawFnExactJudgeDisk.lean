/- The statement FnExactJudgeDisk of this seat's rows is proved; no conditions. -/
import Derived.Test.YtjijmdiikmeikaaGreatDoorTie
import Derived.Test.YtjijmdiikmeikaaGreatDoorCards
import Derived.Test.YtjijmdiikmeikaaGreatDoorFact
import Derived.Test.YtjijmdiikmeikaaGreatDoorTold
import Derived.Test.YtjijmdiikmeikaaGreatDoorConb
import Derived.WalkKit
import Derived.ProofKit
import Derived.OpenShut
import Derived.Handy
import Derived.Lay
import Derived.ChangeOld
import Derived.SizedLaws
import Derived.SevenTiedAt
import Derived.Stop.LaidErr
import Derived.Shelf.Vars
set_option linter.defProp false
set_option linter.unusedSectionVars false
set_option linter.unusedVariables false
set_option linter.unusedSimpArgs false
namespace Go.Proofs.YtjijmdiikmeikaaGreatDoor.apk
open Go.ChangeShapes Go.WideShapes Go.ChangeAt Go.RowKit
theorem own:ownKnob Tryz.prog.godebug=none:=by kernel_rfl
theorem tys:Tryz.f3.params.toList.map (M.sJ Tryz.prog)=[M.mF.agg M.tCa].map some:=by kernel_rfl
theorem ac(W:World)(htab:Lib.TabIs Tryz.prog W "internal/strconv.uint64pow10" .u64 Lib.pow10Tab) (hmax:∃m,W.cell? ⟨0,0,none⟩=some (.int .i64 m)) (JE:∃te pe,W.var? Tryz.prog "strconv.ErrSyntax" =some #[.iface te pe]) (ko:∃te pe,W.var? Tryz.prog "strconv.ErrRange" =some #[.iface te pe]):∀xs,M.uU [M.mF.agg M.tCa] xs->@M.AC ⟨W⟩ Tryz.prog 3 xs λr _=>r=.bool true:=by intro xs hx;obtain⟨x0,xs0,rfl,h0,hx0⟩:=M.amY hx;obtain⟨a0,rfl,k0⟩:=M.am0 h0;obtain rfl:=M.amZ hx0;letI:M.Bs:=⟨W⟩;obtain⟨ps,he⟩:=M.an6 (a0) (k0);exact(M.anC (L:=M.LI) (T:=M.TT) (M.alY htab hmax JE ko) M.alZ _ _ _ he).mono λr ps h=>h.1
theorem tab{W:World}(h:laidMetH Tryz.prog Rows.fnExactJudgeDiskRow.laid W):Lib.TabIs Tryz.prog W "internal/strconv.uint64pow10" .u64 Lib.pow10Tab:=by rw[MakeChecks.laidMetH_plain _ _ _ (by kernel_rfl)] at h;obtain⟨ps,h,_⟩:=h;exact M.ahN (g:=5) (t:=319) (e:=297) (n:=20) (by kernel_rfl) (by kernel_rfl) Tryz.underlying319 Tryz.underlying297 (by kernel_rfl) (by kernel_rfl) h (by unfold Rows.fnExactJudgeDiskRow;exact b8 _ (b8 _ (bF ..)))
theorem star: "*" ++ "errors.errorString" = "*errors.errorString" :=by decide
theorem xm(u:TypeId)(h:Tryz.prog.typeName? 3 u=some "*errors.errorString"):u=315:=
 typeName_ptr_named (nm:= "errors.errorString") (by rw[star];kernel_rfl) (by kernel_rfl) (by decide) u (by rw[star];exact h)
theorem es{W:World}(h:laidMetH Tryz.prog Rows.fnExactJudgeDiskRow.laid W):∃te pe,W.var? Tryz.prog "strconv.ErrSyntax" =some #[.iface te pe]:=by rw[MakeChecks.laidMetH_plain _ _ _ (by kernel_rfl)] at h;unfold Rows.fnExactJudgeDiskRow at h;obtain⟨a,s,hv,-,-,-⟩:=laid_sentinel (laidMet.tail (laidMet.tail (laidMet.tail (laidMet.tail (laidMet.tail h))))) (show Tryz.prog.globalNamed "strconv.ErrSyntax" =some 1 by kernel_rfl) (show (Tryz.prog.globals[1]?).map (·.type)=some 250 by kernel_rfl) Tryz.underlying250 xm Tryz.underlying315 Tryz.underlying317 rfl rfl Tryz.underlying9 (by kernel_rfl) (by kernel_rfl);exact⟨_,_,hv⟩
theorem er{W:World}(h:laidMetH Tryz.prog Rows.fnExactJudgeDiskRow.laid W):∃te pe,W.var? Tryz.prog "strconv.ErrRange" =some #[.iface te pe]:=by rw[MakeChecks.laidMetH_plain _ _ _ (by kernel_rfl)] at h;unfold Rows.fnExactJudgeDiskRow at h;obtain⟨a,s,hv,-,-,-⟩:=laid_sentinel (laidMet.tail (laidMet.tail (laidMet.tail (laidMet.tail h)))) (show Tryz.prog.globalNamed "strconv.ErrRange" =some 2 by kernel_rfl) (show (Tryz.prog.globals[2]?).map (·.type)=some 250 by kernel_rfl) Tryz.underlying250 xm Tryz.underlying315 Tryz.underlying317 rfl rfl Tryz.underlying9 (by kernel_rfl) (by kernel_rfl);exact⟨_,_,hv⟩
theorem mx{W:World}(h:W.ShapedOpen Tryz.prog):∃m,W.cell? ⟨0,0,none⟩=some (.int .i64 m):=
 Go.Proofs.cell_of_shapedOpen_int (zero:= #[.int .i64 0]) (t:=3) h (ya (by kernel_rfl)) (by kernel_rfl) rfl (by kernel_rfl) (by kernel_rfl) Tryz.underlying3
set_option maxRecDepth 100000 in
theorem lifted(os:Os)(started:os.Started)(H:Type)(enc:TypeId×Value->H):
  ReturnsInHanded {} Tryz.checked os 3 .any (λw args=>(Rows.fnExactJudgeDiskSpec.pre enc Tryz.prog Tryz.f3 Rows.fnExactJudgeDiskRow.domain false w args/\laidMetH Tryz.prog Rows.fnExactJudgeDiskRow.laid w)/\sizedMet enc Tryz.prog Tryz.f3 (OpenSpec.ofChange Rows.fnExactJudgeDiskSpec) false w args)
   (Rows.fnExactJudgeDiskSpec.post enc Tryz.prog Tryz.f3 false true false false):=by
 refine aoN (C:=Tryz.checked) (X:=λw _=>laidMetH Tryz.prog Rows.fnExactJudgeDiskRow.laid w) (λ_ _ _ hh h=>h.of_heap hh) own started (by kernel_rfl) Tryz.func3
  (ChangeSpec.witness_shaped (enc:=enc) (C:=Tryz.checked) (os:=os) (X:=λw _=>laidMetH Tryz.prog Rows.fnExactJudgeDiskRow.laid w) false (World.laidAll Tryz.prog os Rows.fnExactJudgeDiskRow.laid) #[.agg #[.slice none 0 0,.slice none 0 0,.slice none 0 0,.slice none 0 0,.int .i64 0,.int .i64 0,.slice none 0 0,.int .i64 0,.slice none 0 0,.slice none 0 0]] 8 (World.laidAll_os _ _ _)
   (World.shaped_of_ZipB (by kernel_rfl) (by kernel_rfl)) (by kernel_rfl) (by kernel_rfl) (by kernel_rfl)
   (by rw[MakeChecks.laidMetH_plain _ _ _ (by kernel_rfl)];exact laidMet_laidAll _ (by kernel_rfl) (by kernel_rfl))) ?_
 intro W base args ds gs before apo hW ap5 ap6 hL hsh _;have hW':=hW;obtain⟨p,q,hA0,hV,rfl,hfz,hnd⟩:=hW;obtain⟨rfl,rfl⟩:=trodVars_none hV;have hval:∀(j:Nat) t v,Tryz.f3.params.toList[j]?=some t->args.toList[j]?=some v->Value.okWide Tryz.prog W .any base t v:=λj t v h1 h2=>apo j t v (by simpa using h1) (by simpa using h2);have h:=M.ams tys hval hA0 (ac W (tab hL) (mx hsh) (es hL) (er hL));rw[Array.toArray_toList] at h;refine h.mono λe W' ⟨he,bel⟩=>?_;subst he;have oX:=M.alq bel tys hA0;obtain⟨v0,vs0,d0,ds0,p0,q0,ap4,rfl,rfl,t0,r0⟩:=trodAll_cons hA0;obtain⟨rfl,rfl,rfl⟩:=trodAll_nil r0;exact⟨_,rfl,_,_,_,[],_,[],hW',trodAll_mk1 (shut_bool Tryz.underlying4 _),oX,rfl,bel.frame _,λh=>by cases h⟩
theorem over:Rows.fnExactJudgeDiskRow.holds Tryz.pinned (OpenSpec.ofChange Rows.fnExactJudgeDiskSpec):=
 OpenClaim.holds_of_wide 3 Tryz.f3 rfl rfl rfl rfl rfl rfl rfl ⟨rfl,rfl,rfl,rfl,rfl⟩ rfl rfl rfl rfl rfl (by kernel_rfl) Tryz.func3 jf
  (ya (by kernel_rfl)) (by unfold Func.isWrapper;first|(rw[ay (by decide+kernel)];kernel_rfl)|(rw[aD (by decide+kernel)];exact⟨rfl,rfl⟩))
  (λos started H enc _=>lifted os started H enc)
theorem card:Claim7.holds Tryz.pinned (.plain (OpenSpec.ofChange Rows.fnExactJudgeDiskSpec)) Rows.fnExactJudgeDiskCard:=
 Claim7.holds_tied_plain_at .later [] [.data,.data,.data,.data,.sentinel,.sentinel,.pinned] true (true,"22c6a2bd4a81956e7f6fc0694f644b518225f7b90f67fc7cdabb8f0a69d72e04") true over (λ_ h=>by cases h) jcw (λ_ h=>by cases h) fnExactJudgeDisk_row_tie rfl ⟨rfl,rfl⟩ jcm rfl
  (λf fn hf hfn=>by
   obtain rfl:f=3:=gZ (jcf.symm.trans hf) |>.symm;obtain rfl:fn=Tryz.f3:=(gZ (Tryz.func3.symm.trans hfn)).symm
   exact⟨jcl,λj t ht=>by
    rw[Tryz.params3] at ht;have hm:t∈[34]:=by simpa using Array.mem_of_getElem? ht
    exact(show Tryz.prog.wantsStandIn t=false by simpa using oK.1 jcs t hm)⟩)
  jcg
end Go.Proofs.YtjijmdiikmeikaaGreatDoor.apk
namespace Go.Proofs.YtjijmdiikmeikaaGreatDoor
theorem fnExactJudgeDisk_holds:Rows.FnExactJudgeDiskCardSaid:=apk.card
#print axioms fnExactJudgeDisk_holds
end Go.Proofs.YtjijmdiikmeikaaGreatDoor
