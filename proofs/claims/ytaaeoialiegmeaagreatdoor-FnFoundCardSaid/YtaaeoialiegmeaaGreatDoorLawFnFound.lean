/- The statement FnFound of this seat's rows is proved; no conditions. -/
import Derived.Test.YtaaeoialiegmeaaGreatDoorTie
import Derived.Test.YtaaeoialiegmeaaGreatDoorCards
import Derived.Test.YtaaeoialiegmeaaGreatDoorFact
import Derived.Test.YtaaeoialiegmeaaGreatDoorFind
import Derived.Test.YtaaeoialiegmeaaGreatDoorTold
import Derived.Test.YtaaeoialiegmeaaGreatDoorConb
import Derived.WalkKit
import Derived.ProofKit
import Derived.OpenShut
import Derived.Handy
import Derived.Lay
import Derived.ChangeOld
import Derived.SizedLaws
import Derived.SevenTiedAt
import Derived.Shelf.Vars
set_option linter.defProp false
set_option linter.unusedSectionVars false
set_option linter.unusedVariables false
set_option linter.unusedSimpArgs false
namespace Go.Proofs.YtaaeoialiegmeaaGreatDoor.aml
open Go.ChangeShapes Go.WideShapes Go.ChangeAt Go.RowKit
theorem own:ownKnob Tryz.prog.godebug=none:=by kernel_rfl
theorem tys:Tryz.f4.params.toList.map (M.tg Tryz.prog)=[M.mM.one (.row [.int .u8])].map some:=by kernel_rfl
theorem ac(W:World)(htab:Lib.TabIs Tryz.prog W "internal/strconv.uint64pow10" .u64 Lib.pow10Tab) (hmax:∃m,W.cell? ⟨3,0,none⟩=some (.int .i64 m)):∀xs,M.vg [M.mM.one (.row [.int .u8])] xs->@M.AC ⟨W⟩ Tryz.prog 4 xs λr _=>r=.bool true:=by intro xs hx;obtain⟨x0,xs0,rfl,h0,hx0⟩:=M.ajv hx;obtain⟨a0,rfl,k0⟩:=M.ajx (M.aju h0);obtain rfl:=M.ajw hx0;letI:M.Bs:=⟨W⟩;obtain⟨ps,he⟩:=@M.ak4 M.fd1 (a0) (k0);exact(M.XA (L:=M.CX) (T:=M.TT) (M.aiy (M.aix htab hmax) M.aiz) M.aiz _ _ _ he).mono λr ps h=>h.1
theorem tab{W:World}(h:laidMetH Tryz.prog Rows.fnFoundRow.laid W):Lib.TabIs Tryz.prog W "internal/strconv.uint64pow10" .u64 Lib.pow10Tab:=by rw[MakeChecks.laidMetH_plain _ _ _ (by kernel_rfl)] at h;obtain⟨ps,h,_⟩:=h;exact M.afm (g:=2) (t:=251) (e:=225) (n:=20) (by kernel_rfl) (by kernel_rfl) Tryz.underlying251 Tryz.underlying225 (by kernel_rfl) (by kernel_rfl) h (by unfold Rows.fnFoundRow;exact cz _ (cz _ (bE ..)))
theorem mx{W:World}(h:W.ShapedOpen Tryz.prog):∃m,W.cell? ⟨3,0,none⟩=some (.int .i64 m):=
 Go.Proofs.cell_of_shapedOpen_int (zero:= #[.int .i64 0]) (t:=3) h (yu (by kernel_rfl)) (by kernel_rfl) rfl (by kernel_rfl) (by kernel_rfl) Tryz.underlying3
set_option maxRecDepth 100000 in
theorem lifted(os:Os)(started:os.Started)(H:Type)(enc:TypeId×Value->H):
  ReturnsInHanded {} Tryz.checked os 4 .any (λw args=>(Rows.fnFoundSpec.pre enc Tryz.prog Tryz.f4 Rows.fnFoundRow.domain false w args/\laidMetH Tryz.prog Rows.fnFoundRow.laid w)/\sizedMet enc Tryz.prog Tryz.f4 (OpenSpec.ofChange Rows.fnFoundSpec) false w args)
   (Rows.fnFoundSpec.post enc Tryz.prog Tryz.f4 false true false false):=by
 refine alN (C:=Tryz.checked) (X:=λw _=>laidMetH Tryz.prog Rows.fnFoundRow.laid w) (λ_ _ _ hh h=>h.of_heap hh) own started (by kernel_rfl) Tryz.func4
  (ChangeSpec.witness_shaped (enc:=enc) (C:=Tryz.checked) (os:=os) (X:=λw _=>laidMetH Tryz.prog Rows.fnFoundRow.laid w) false (World.laidAll Tryz.prog os Rows.fnFoundRow.laid) #[.slice none 0 0] 8 (World.laidAll_os _ _ _)
   (World.shaped_of_ZipB (by kernel_rfl) (by kernel_rfl)) (by kernel_rfl) (by kernel_rfl) (by kernel_rfl)
   (by rw[MakeChecks.laidMetH_plain _ _ _ (by kernel_rfl)];exact laidMet_laidAll _ (by kernel_rfl) (by kernel_rfl))) ?_
 intro W base args ds gs before amq hW am6 am7 hL hsh _;have hW':=hW;obtain⟨p,q,hA0,hV,rfl,hfz,hnd⟩:=hW;obtain⟨rfl,rfl⟩:=trodVars_none hV;have hval:∀(j:Nat) t v,Tryz.f4.params.toList[j]?=some t->args.toList[j]?=some v->Value.okWide Tryz.prog W .any base t v:=λj t v h1 h2=>amq j t v (by simpa using h1) (by simpa using h2);have h:=M.ai2 tys hval hA0 (ac W (tab hL) (mx hsh));rw[Array.toArray_toList] at h;refine h.mono λe W' ⟨he,bel⟩=>?_;subst he;have pL:=M.ahR bel tys hA0;obtain⟨v0,vs0,d0,ds0,p0,q0,am5,rfl,rfl,t0,r0⟩:=trodAll_cons hA0;obtain⟨rfl,rfl,rfl⟩:=trodAll_nil r0;exact⟨_,rfl,_,_,_,[],_,[],hW',trodAll_mk1 (shut_bool Tryz.underlying4 _),pL,rfl,bel.frame _,λh=>by cases h⟩
theorem over:Rows.fnFoundRow.holds Tryz.pinned (OpenSpec.ofChange Rows.fnFoundSpec):=
 OpenClaim.holds_of_wide 4 Tryz.f4 rfl rfl rfl rfl rfl rfl rfl ⟨rfl,rfl,rfl,rfl,rfl⟩ rfl rfl rfl rfl rfl (by kernel_rfl) Tryz.func4 jf
  (yu (by kernel_rfl)) (by unfold Func.isWrapper;first|(rw[az (by decide+kernel)];kernel_rfl)|(rw[aC (by decide+kernel)];exact⟨rfl,rfl⟩))
  (λos started H enc _=>lifted os started H enc)
theorem card:Claim7.holds Tryz.pinned (.plain (OpenSpec.ofChange Rows.fnFoundSpec)) Rows.fnFoundCard:=
 Claim7.holds_tied_plain_at .later [] [.data,.data,.data,.data,.pinned] true (true,"db45d5b6050289824d2850edf075e3fd43151ee4e6dd343443b9549b3cb7efca") true over (λ_ h=>by cases h) jcw (λ_ h=>by cases h) fnFound_row_tie rfl ⟨rfl,rfl⟩ jcm rfl
  (λf fn hf hfn=>by
   obtain rfl:f=4:=iz (jcf.symm.trans hf) |>.symm;obtain rfl:fn=Tryz.f4:=(iz (Tryz.func4.symm.trans hfn)).symm
   exact⟨jcl,λj t ht=>by
    rw[Tryz.params4] at ht;have hm:t∈[22]:=by simpa using Array.mem_of_getElem? ht
    exact(show Tryz.prog.wantsStandIn t=false by simpa using oV.1 jcs t hm)⟩)
  jcg
end Go.Proofs.YtaaeoialiegmeaaGreatDoor.aml
namespace Go.Proofs.YtaaeoialiegmeaaGreatDoor
theorem fnFound_holds:Rows.FnFoundCardSaid:=aml.card
#print axioms fnFound_holds
end Go.Proofs.YtaaeoialiegmeaaGreatDoor
