/- The statement FnOrigin of this seat's rows is proved; no conditions. -/
import Derived.Test.YtcibpfbfblmedaaGreatDoorTie
import Derived.Test.YtcibpfbfblmedaaGreatDoorCards
import Derived.Test.YtcibpfbfblmedaaGreatDoorFact
import Derived.Test.YtcibpfbfblmedaaGreatDoorFind
import Derived.Test.YtcibpfbfblmedaaGreatDoorTold
import Derived.Test.YtcibpfbfblmedaaGreatDoorConb
import Derived.WalkKit
import Derived.ProofKit
import Derived.OpenShut
import Derived.Handy
import Derived.Lay
import Derived.ChangeOld
import Derived.SizedLaws
import Derived.SevenTiedAt
import Derived.Stop.LaidErr
import Derived.Shelf.Vars
set_option linter.defProp false
set_option linter.unusedSectionVars false
set_option linter.unusedVariables false
set_option linter.unusedSimpArgs false
namespace Go.Proofs.YtcibpfbfblmedaaGreatDoor.aoU
open Go.ChangeShapes Go.WideShapes Go.ChangeAt Go.RowKit
theorem own:ownKnob Tryz.prog.godebug=none:=by kernel_rfl
theorem tys:Tryz.f4.params.toList.map (M.uI Tryz.prog)=[M.nP.one (.row [.int .u8])].map some:=by kernel_rfl
theorem ac(W:World)(htab:Lib.TabIs Tryz.prog W "internal/strconv.uint64pow10" .u64 Lib.pow10Tab) (hmax:∃m,W.cell? ⟨3,0,none⟩=some (.int .i64 m)) (Kk:∃te pe,W.var? Tryz.prog "strconv.ErrSyntax" =some #[.iface te pe]) (kU:∃te pe,W.var? Tryz.prog "strconv.ErrRange" =some #[.iface te pe]):∀xs,M.wX [M.nP.one (.row [.int .u8])] xs->@M.AC ⟨W⟩ Tryz.prog 4 xs λr _=>r=.bool true:=by intro xs hx;obtain⟨x0,xs0,rfl,h0,hx0⟩:=M.alZ hx;obtain⟨a0,rfl,k0⟩:=M.al1 (M.alY h0);obtain rfl:=M.al0 hx0;letI:M.Bs:=⟨W⟩;obtain⟨ps,he⟩:=@M.anD M.fd1 (a0) (k0);exact(M.Zl (L:=M.DZ) (T:=M.TT) (M.ak1 (M.ak0 htab hmax Kk kU) M.ak2) M.ak2 _ _ _ he).mono λr ps h=>h.1
theorem tab{W:World}(h:laidMetH Tryz.prog Rows.fnOriginRow.laid W):Lib.TabIs Tryz.prog W "internal/strconv.uint64pow10" .u64 Lib.pow10Tab:=by rw[MakeChecks.laidMetH_plain _ _ _ (by kernel_rfl)] at h;obtain⟨ps,h,_⟩:=h;exact M.ahH (g:=0) (t:=200) (e:=171) (n:=20) (by kernel_rfl) (by kernel_rfl) Tryz.underlying200 Tryz.underlying171 (by kernel_rfl) (by kernel_rfl) h (by unfold Rows.fnOriginRow;exact cI _ (cI _ (bE ..)))
theorem star: "*" ++ "errors.errorString" = "*errors.errorString" :=by decide
theorem zn(u:TypeId)(h:Tryz.prog.typeName? 3 u=some "*errors.errorString"):u=268:=
 typeName_ptr_named (nm:= "errors.errorString") (by rw[star];kernel_rfl) (by kernel_rfl) (by decide) u (by rw[star];exact h)
theorem es{W:World}(h:laidMetH Tryz.prog Rows.fnOriginRow.laid W):∃te pe,W.var? Tryz.prog "strconv.ErrSyntax" =some #[.iface te pe]:=by rw[MakeChecks.laidMetH_plain _ _ _ (by kernel_rfl)] at h;unfold Rows.fnOriginRow at h;obtain⟨a,s,hv,-,-,-⟩:=laid_sentinel (laidMet.tail (laidMet.tail (laidMet.tail (laidMet.tail (laidMet.tail h))))) (show Tryz.prog.globalNamed "strconv.ErrSyntax" =some 4 by kernel_rfl) (show (Tryz.prog.globals[4]?).map (·.type)=some 214 by kernel_rfl) Tryz.underlying214 zn Tryz.underlying268 Tryz.underlying270 rfl rfl Tryz.underlying9 (by kernel_rfl) (by kernel_rfl);exact⟨_,_,hv⟩
theorem er{W:World}(h:laidMetH Tryz.prog Rows.fnOriginRow.laid W):∃te pe,W.var? Tryz.prog "strconv.ErrRange" =some #[.iface te pe]:=by rw[MakeChecks.laidMetH_plain _ _ _ (by kernel_rfl)] at h;unfold Rows.fnOriginRow at h;obtain⟨a,s,hv,-,-,-⟩:=laid_sentinel (laidMet.tail (laidMet.tail (laidMet.tail (laidMet.tail h)))) (show Tryz.prog.globalNamed "strconv.ErrRange" =some 5 by kernel_rfl) (show (Tryz.prog.globals[5]?).map (·.type)=some 214 by kernel_rfl) Tryz.underlying214 zn Tryz.underlying268 Tryz.underlying270 rfl rfl Tryz.underlying9 (by kernel_rfl) (by kernel_rfl);exact⟨_,_,hv⟩
theorem mx{W:World}(h:W.ShapedOpen Tryz.prog):∃m,W.cell? ⟨3,0,none⟩=some (.int .i64 m):=
 Go.Proofs.cell_of_shapedOpen_int (zero:= #[.int .i64 0]) (t:=3) h (zR (by kernel_rfl)) (by kernel_rfl) rfl (by kernel_rfl) (by kernel_rfl) Tryz.underlying3
set_option maxRecDepth 100000 in
theorem lifted(os:Os)(started:os.Started)(H:Type)(enc:TypeId×Value->H):
  ReturnsInHanded {} Tryz.checked os 4 .any (λw args=>(Rows.fnOriginSpec.pre enc Tryz.prog Tryz.f4 Rows.fnOriginRow.domain false w args/\laidMetH Tryz.prog Rows.fnOriginRow.laid w)/\sizedMet enc Tryz.prog Tryz.f4 (OpenSpec.ofChange Rows.fnOriginSpec) false w args)
   (Rows.fnOriginSpec.post enc Tryz.prog Tryz.f4 false true false false):=by
 refine aon (C:=Tryz.checked) (X:=λw _=>laidMetH Tryz.prog Rows.fnOriginRow.laid w) (λ_ _ _ hh h=>h.of_heap hh) own started (by kernel_rfl) Tryz.func4
  (ChangeSpec.witness_shaped (enc:=enc) (C:=Tryz.checked) (os:=os) (X:=λw _=>laidMetH Tryz.prog Rows.fnOriginRow.laid w) false (World.laidAll Tryz.prog os Rows.fnOriginRow.laid) #[.slice none 0 0] 8 (World.laidAll_os _ _ _)
   (World.shaped_of_ZipB (by kernel_rfl) (by kernel_rfl)) (by kernel_rfl) (by kernel_rfl) (by kernel_rfl)
   (by rw[MakeChecks.laidMetH_plain _ _ _ (by kernel_rfl)];exact laidMet_laidAll _ (by kernel_rfl) (by kernel_rfl))) ?_
 intro W base args ds gs before aoY hW apF apG hL hsh _;have hW':=hW;obtain⟨p,q,hA0,hV,rfl,hfz,hnd⟩:=hW;obtain⟨rfl,rfl⟩:=trodVars_none hV;have hval:∀(j:Nat) t v,Tryz.f4.params.toList[j]?=some t->args.toList[j]?=some v->Value.okWide Tryz.prog W .any base t v:=λj t v h1 h2=>aoY j t v (by simpa using h1) (by simpa using h2);have h:=M.als tys hval hA0 (ac W (tab hL) (mx hsh) (es hL) (er hL));rw[Array.toArray_toList] at h;refine h.mono λe W' ⟨he,bel⟩=>?_;subst he;have ru:=M.ake bel tys hA0;obtain⟨v0,vs0,d0,ds0,p0,q0,apE,rfl,rfl,t0,r0⟩:=trodAll_cons hA0;obtain⟨rfl,rfl,rfl⟩:=trodAll_nil r0;exact⟨_,rfl,_,_,_,[],_,[],hW',trodAll_mk1 (shut_bool Tryz.underlying4 _),ru,rfl,bel.frame _,λh=>by cases h⟩
theorem over:Rows.fnOriginRow.holds Tryz.pinned (OpenSpec.ofChange Rows.fnOriginSpec):=
 OpenClaim.holds_of_wide 4 Tryz.f4 rfl rfl rfl rfl rfl rfl rfl ⟨rfl,rfl,rfl,rfl,rfl⟩ rfl rfl rfl rfl rfl (by kernel_rfl) Tryz.func4 jf
  (zR (by kernel_rfl)) (by unfold Func.isWrapper;first|(rw[aq (by decide+kernel)];kernel_rfl)|(rw[ay (by decide+kernel)];exact⟨rfl,rfl⟩))
  (λos started H enc _=>lifted os started H enc)
theorem card:Claim7.holds Tryz.pinned (.plain (OpenSpec.ofChange Rows.fnOriginSpec)) Rows.fnOriginCard:=
 Claim7.holds_tied_plain_at .later [] [.data,.data,.data,.data,.sentinel,.sentinel,.pinned] true (true,"91d5efd6ecab9faad4cbe8a7aa118a5fbb361c0dd059f4d988fae0d6fe9f0ded") true over (λ_ h=>by cases h) jcw (λ_ h=>by cases h) fnOrigin_row_tie rfl ⟨rfl,rfl⟩ jcm rfl
  (λf fn hf hfn=>by
   obtain rfl:f=4:=iC (jcf.symm.trans hf) |>.symm;obtain rfl:fn=Tryz.f4:=(iC (Tryz.func4.symm.trans hfn)).symm
   exact⟨jcl,λj t ht=>by
    rw[Tryz.params4] at ht;have hm:t∈[22]:=by simpa using Array.mem_of_getElem? ht
    exact(show Tryz.prog.wantsStandIn t=false by simpa using sI.1 jcs t hm)⟩)
  jcg
end Go.Proofs.YtcibpfbfblmedaaGreatDoor.aoU
namespace Go.Proofs.YtcibpfbfblmedaaGreatDoor
theorem fnOrigin_holds:Rows.FnOriginCardSaid:=aoU.card
#print axioms fnOrigin_holds
end Go.Proofs.YtcibpfbfblmedaaGreatDoor
