/- The statement FnShelf of this seat's rows is proved; no conditions. -/
import Derived.Test.YteibmljflfeljaaGreatDoorTie
import Derived.Test.YteibmljflfeljaaGreatDoorCards
import Derived.Test.YteibmljflfeljaaGreatDoorFact
import Derived.Test.YteibmljflfeljaaGreatDoorTold
import Derived.Test.YteibmljflfeljaaGreatDoorConb
import Derived.WalkKit
import Derived.ProofKit
import Derived.OpenShut
import Derived.Handy
import Derived.Lay
import Derived.ChangeOld
import Derived.SizedLaws
import Derived.SevenTiedAt
import Derived.Stop.LaidErr
import Derived.Shelf.Vars
set_option linter.defProp false
set_option linter.unusedSectionVars false
set_option linter.unusedVariables false
set_option linter.unusedSimpArgs false
namespace Go.Proofs.YteibmljflfeljaaGreatDoor.aqq
open Go.ChangeShapes Go.WideShapes Go.ChangeAt Go.RowKit
theorem own:ownKnob Tryz.prog.godebug=none:=by kernel_rfl
theorem tys:Tryz.f3.params.toList.map (M.ud Tryz.prog)=[M.nu.one (.row [.int .u8])].map some:=by kernel_rfl
theorem ac(W:World)(htab:Lib.TabIs Tryz.prog W "internal/strconv.uint64pow10" .u64 Lib.pow10Tab) (hmax:∃m,W.cell? ⟨0,0,none⟩=some (.int .i64 m)) (Lc:∃te pe,W.var? Tryz.prog "strconv.ErrSyntax" =some #[.iface te pe]) (kT:∃te pe,W.var? Tryz.prog "strconv.ErrRange" =some #[.iface te pe]):∀xs,M.wG [M.nu.one (.row [.int .u8])] xs->@M.AC ⟨W⟩ Tryz.prog 3 xs λr _=>r=.bool true:=by intro xs hx;obtain⟨x0,xs0,rfl,h0,hx0⟩:=M.anR hx;obtain⟨a0,rfl,k0⟩:=M.anT (M.anQ h0);obtain rfl:=M.anS hx0;letI:M.Bs:=⟨W⟩;obtain⟨ps,he⟩:=M.apd (a0) (k0);exact(M.aot (L:=M.LI) (T:=M.TT) (M.amS htab hmax Lc kT) M.amT _ _ _ he).mono λr ps h=>h.1
theorem tab{W:World}(h:laidMetH Tryz.prog Rows.fnShelfRow.laid W):Lib.TabIs Tryz.prog W "internal/strconv.uint64pow10" .u64 Lib.pow10Tab:=by rw[MakeChecks.laidMetH_plain _ _ _ (by kernel_rfl)] at h;obtain⟨ps,h,_⟩:=h;exact M.aiV (g:=1) (t:=205) (e:=181) (n:=20) (by kernel_rfl) (by kernel_rfl) Tryz.underlying205 Tryz.underlying181 (by kernel_rfl) (by kernel_rfl) h (by unfold Rows.fnShelfRow;exact bY _ (bY _ (bD ..)))
theorem star: "*" ++ "errors.errorString" = "*errors.errorString" :=by decide
theorem yq(u:TypeId)(h:Tryz.prog.typeName? 3 u=some "*errors.errorString"):u=244:=
 typeName_ptr_named (nm:= "errors.errorString") (by rw[star];kernel_rfl) (by kernel_rfl) (by decide) u (by rw[star];exact h)
theorem es{W:World}(h:laidMetH Tryz.prog Rows.fnShelfRow.laid W):∃te pe,W.var? Tryz.prog "strconv.ErrSyntax" =some #[.iface te pe]:=by rw[MakeChecks.laidMetH_plain _ _ _ (by kernel_rfl)] at h;unfold Rows.fnShelfRow at h;obtain⟨a,s,hv,-,-,-⟩:=laid_sentinel (laidMet.tail (laidMet.tail (laidMet.tail (laidMet.tail (laidMet.tail h))))) (show Tryz.prog.globalNamed "strconv.ErrSyntax" =some 6 by kernel_rfl) (show (Tryz.prog.globals[6]?).map (·.type)=some 115 by kernel_rfl) Tryz.underlying115 yq Tryz.underlying244 Tryz.underlying246 rfl rfl Tryz.underlying9 (by kernel_rfl) (by kernel_rfl);exact⟨_,_,hv⟩
theorem er{W:World}(h:laidMetH Tryz.prog Rows.fnShelfRow.laid W):∃te pe,W.var? Tryz.prog "strconv.ErrRange" =some #[.iface te pe]:=by rw[MakeChecks.laidMetH_plain _ _ _ (by kernel_rfl)] at h;unfold Rows.fnShelfRow at h;obtain⟨a,s,hv,-,-,-⟩:=laid_sentinel (laidMet.tail (laidMet.tail (laidMet.tail (laidMet.tail h)))) (show Tryz.prog.globalNamed "strconv.ErrRange" =some 7 by kernel_rfl) (show (Tryz.prog.globals[7]?).map (·.type)=some 115 by kernel_rfl) Tryz.underlying115 yq Tryz.underlying244 Tryz.underlying246 rfl rfl Tryz.underlying9 (by kernel_rfl) (by kernel_rfl);exact⟨_,_,hv⟩
theorem mx{W:World}(h:W.ShapedOpen Tryz.prog):∃m,W.cell? ⟨0,0,none⟩=some (.int .i64 m):=
 Go.Proofs.cell_of_shapedOpen_int (zero:= #[.int .i64 0]) (t:=3) h (zM (by kernel_rfl)) (by kernel_rfl) rfl (by kernel_rfl) (by kernel_rfl) Tryz.underlying3
set_option maxRecDepth 100000 in
theorem lifted(os:Os)(started:os.Started)(H:Type)(enc:TypeId×Value->H):
  ReturnsInHanded {} Tryz.checked os 3 .any (λw args=>(Rows.fnShelfSpec.pre enc Tryz.prog Tryz.f3 Rows.fnShelfRow.domain false w args/\laidMetH Tryz.prog Rows.fnShelfRow.laid w)/\sizedMet enc Tryz.prog Tryz.f3 (OpenSpec.ofChange Rows.fnShelfSpec) false w args)
   (Rows.fnShelfSpec.post enc Tryz.prog Tryz.f3 false true false false):=by
 refine apT (C:=Tryz.checked) (X:=λw _=>laidMetH Tryz.prog Rows.fnShelfRow.laid w) (λ_ _ _ hh h=>h.of_heap hh) own started (by kernel_rfl) Tryz.func3
  (ChangeSpec.witness_shaped (enc:=enc) (C:=Tryz.checked) (os:=os) (X:=λw _=>laidMetH Tryz.prog Rows.fnShelfRow.laid w) false (World.laidAll Tryz.prog os Rows.fnShelfRow.laid) #[.slice none 0 0] 8 (World.laidAll_os _ _ _)
   (World.shaped_of_ZipB (by kernel_rfl) (by kernel_rfl)) (by kernel_rfl) (by kernel_rfl) (by kernel_rfl)
   (by rw[MakeChecks.laidMetH_plain _ _ _ (by kernel_rfl)];exact laidMet_laidAll _ (by kernel_rfl) (by kernel_rfl))) ?_
 intro W base args ds gs before aqu hW ara arb hL hsh _;have hW':=hW;obtain⟨p,q,hA0,hV,rfl,hfz,hnd⟩:=hW;obtain⟨rfl,rfl⟩:=trodVars_none hV;have hval:∀(j:Nat) t v,Tryz.f3.params.toList[j]?=some t->args.toList[j]?=some v->Value.okWide Tryz.prog W .any base t v:=λj t v h1 h2=>aqu j t v (by simpa using h1) (by simpa using h2);have h:=M.ann tys hval hA0 (ac W (tab hL) (mx hsh) (es hL) (er hL));rw[Array.toArray_toList] at h;refine h.mono λe W' ⟨he,bel⟩=>?_;subst he;have qg:=M.al5 bel tys hA0;obtain⟨v0,vs0,d0,ds0,p0,q0,aq9,rfl,rfl,t0,r0⟩:=trodAll_cons hA0;obtain⟨rfl,rfl,rfl⟩:=trodAll_nil r0;exact⟨_,rfl,_,_,_,[],_,[],hW',trodAll_mk1 (shut_bool Tryz.underlying4 _),qg,rfl,bel.frame _,λh=>by cases h⟩
theorem over:Rows.fnShelfRow.holds Tryz.pinned (OpenSpec.ofChange Rows.fnShelfSpec):=
 OpenClaim.holds_of_wide 3 Tryz.f3 rfl rfl rfl rfl rfl rfl rfl ⟨rfl,rfl,rfl,rfl,rfl⟩ rfl rfl rfl rfl rfl (by kernel_rfl) Tryz.func3 jf
  (zM (by kernel_rfl)) (by unfold Func.isWrapper;first|(rw[ax (by decide+kernel)];kernel_rfl)|(rw[aF (by decide+kernel)];exact⟨rfl,rfl⟩))
  (λos started H enc _=>lifted os started H enc)
theorem card:Claim7.holds Tryz.pinned (.plain (OpenSpec.ofChange Rows.fnShelfSpec)) Rows.fnShelfCard:=
 Claim7.holds_tied_plain_at .later [] [.data,.data,.data,.data,.sentinel,.sentinel,.pinned] true (true,"9e10eeeb31dfb72e782514ce430d17ee304f87e9dee6554cd3e1389437284526") true over (λ_ h=>by cases h) jcw (λ_ h=>by cases h) fnShelf_row_tie rfl ⟨rfl,rfl⟩ jcm rfl
  (λf fn hf hfn=>by
   obtain rfl:f=3:=iL (jcf.symm.trans hf) |>.symm;obtain rfl:fn=Tryz.f3:=(iL (Tryz.func3.symm.trans hfn)).symm
   exact⟨jcl,λj t ht=>by
    rw[Tryz.params3] at ht;have hm:t∈[22]:=by simpa using Array.mem_of_getElem? ht
    exact(show Tryz.prog.wantsStandIn t=false by simpa using pR.1 jcs t hm)⟩)
  jcg
end Go.Proofs.YteibmljflfeljaaGreatDoor.aqq
namespace Go.Proofs.YteibmljflfeljaaGreatDoor
theorem fnShelf_holds:Rows.FnShelfCardSaid:=aqq.card
#print axioms fnShelf_holds
end Go.Proofs.YteibmljflfeljaaGreatDoor
