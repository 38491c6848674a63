/- Contracts of library functions at this dump; no conditions. -/
import Derived.Shelf.Strings.Trim
import Derived.Shelf.LaysM
import Derived.Shelf.LaysC
import Derived.Shelf.Strings.Prefix
import Derived.Shelf.Strings.Split
import Derived.Test.YtkpkgfollnfhcaaGreatDoorChecked
set_option linter.unusedSectionVars false
set_option linter.unusedVariables false
set_option linter.unusedSimpArgs false
namespace Go.Proofs
open Go.Shelf
def Tryz.lays160_ren : Go.Shelf.Ren:=⟨fun | 160=>325 | 232=>339 | 231=>338 | 227=>340 | 234=>342 | 233=>341 | 236=>344 | 235=>343 | 228=>360 | 271=>363 | 151=>362 | 197=>361 | 120=>381 | 152=>380 | 260=>379 | 137=>388 | 119=>389 | 224=>371 | 225=>370 | 217=>369 | 266=>384 | n=>n,fun | 9=>9 | 4=>4 | 3=>3 | 5=>5 | 117=>335 | 116=>334 | 0=>0 | 124=>338 | 21=>21 | 105=>353 | 46=>242 | 119=>374 | 139=>377 | 138=>376 | n=>n,fun | 3=>4 | 4=>5 | n=>n⟩
theorem Tryz.lays160 : Go.Proofs.Lays.n160 Tryz.prog Tryz.lays160_ren:={
 mixed:=by kernel_rfl
 f119:=Tryz.func389.trans (congrArg some (by kernel_rfl))
 f120:=Tryz.func381.trans (congrArg some (by kernel_rfl))
 f137:=Tryz.func388.trans (congrArg some (by kernel_rfl))
 f151:=Tryz.func362.trans (congrArg some (by kernel_rfl))
 f152:=Tryz.func380.trans (congrArg some (by kernel_rfl))
 f160:=Tryz.func325.trans (congrArg some (by kernel_rfl))
 f197:=Tryz.func361.trans (congrArg some (by kernel_rfl))
 f217:=Tryz.func369.trans (congrArg some (by kernel_rfl))
 f224:=Tryz.func371.trans (congrArg some (by kernel_rfl))
 f225:=Tryz.func370.trans (congrArg some (by kernel_rfl))
 f227:=Tryz.func340.trans (congrArg some (by kernel_rfl))
 f228:=Tryz.func360.trans (congrArg some (by kernel_rfl))
 f231:=Tryz.func338.trans (congrArg some (by kernel_rfl))
 f232:=Tryz.func339.trans (congrArg some (by kernel_rfl))
 f233:=Tryz.func341.trans (congrArg some (by kernel_rfl))
 f234:=Tryz.func342.trans (congrArg some (by kernel_rfl))
 f235:=Tryz.func343.trans (congrArg some (by kernel_rfl))
 f236:=Tryz.func344.trans (congrArg some (by kernel_rfl))
 f260:=Tryz.func379.trans (congrArg some (by kernel_rfl))
 f266:=Tryz.func384.trans (congrArg some (by kernel_rfl))
 f271:=Tryz.func363.trans (congrArg some (by kernel_rfl))
 t0:=Tryz.underlying0
 a0:=Tryz.isAgg0
 z0:=Tryz.sizeOf0
 v0:=Tryz.zeroValue0
 t3:=Tryz.underlying3
 a3:=Tryz.isAgg3
 z3:=Tryz.sizeOf3
 v3:=Tryz.zeroValue3
 t4:=Tryz.underlying4
 a4:=Tryz.isAgg4
 z4:=Tryz.sizeOf4
 v4:=Tryz.zeroValue4
 t5:=Tryz.underlying5
 a5:=Tryz.isAgg5
 z5:=Tryz.sizeOf5
 v5:=Tryz.zeroValue5
 t9:=Tryz.underlying9
 a9:=Tryz.isAgg9
 z9:=Tryz.sizeOf9
 v9:=Tryz.zeroValue9
 t21:=Tryz.underlying21
 a21:=Tryz.isAgg21
 z21:=Tryz.sizeOf21
 v21:=Tryz.zeroValue21
 t46:=Tryz.underlying242
 a46:=Tryz.isAgg242
 z46:=Tryz.sizeOf242
 v46:=Tryz.zeroValue242
 t105:=Tryz.underlying353
 a105:=Tryz.isAgg353
 z105:=Tryz.sizeOf353
 v105:=Tryz.zeroValue353
 t116:=Tryz.underlying334
 a116:=Tryz.isAgg334
 z116:=Tryz.sizeOf334
 t117:=Tryz.underlying335
 a117:=Tryz.isAgg335
 z117:=Tryz.sizeOf335
 v117:=Tryz.zeroValue335
 t119:=Tryz.underlying374
 a119:=Tryz.isAgg374
 z119:=Tryz.sizeOf374
 t124:=Tryz.underlying338
 a124:=Tryz.isAgg338
 z124:=Tryz.sizeOf338
 v124:=Tryz.zeroValue338
 t138:=Tryz.underlying376
 a138:=Tryz.isAgg376
 z138:=Tryz.sizeOf376
 v138:=Tryz.zeroValue376
 t139:=Tryz.underlying377
 a139:=Tryz.isAgg377
 z139:=Tryz.sizeOf377
 v139:=Tryz.zeroValue377
 g3:=by kernel_rfl
 g4:=by kernel_rfl }
open Go.RowKit in
theorem Tryz.strings_Trim_one (s : ByteArray) (c : UInt8) (hc : c.toNat < 128) (w : World) (hs : s.size≤9223372036854775807) :
  Calls Tryz.prog 325 #[.string s,.string ⟨#[c]⟩] w fun e w'=>e = .returned (.string ⟨(Lib.trimB s.data.toList c).toArray⟩)∧(w' = w∨w' = w.drew):=Any.strings_Trim_one Tryz.lays160 s c hc w hs
def Tryz.lays99_ren : Go.Shelf.Ren:=⟨fun | 99=>233 | 206=>295 | n=>n,fun | 9=>9 | 4=>4 | 3=>3 | n=>n,fun | n=>n⟩
theorem Tryz.lays99 : Go.Proofs.Lays.n99 Tryz.prog Tryz.lays99_ren:={
 mixed:=by kernel_rfl
 f99:=Tryz.func233.trans (congrArg some (by kernel_rfl))
 f206:=Tryz.func295.trans (congrArg some (by kernel_rfl))
 t3:=Tryz.underlying3
 a3:=Tryz.isAgg3
 z3:=Tryz.sizeOf3
 v3:=Tryz.zeroValue3
 t4:=Tryz.underlying4
 a4:=Tryz.isAgg4
 z4:=Tryz.sizeOf4
 v4:=Tryz.zeroValue4
 t9:=Tryz.underlying9
 a9:=Tryz.isAgg9
 z9:=Tryz.sizeOf9
 v9:=Tryz.zeroValue9 }
open Go.RowKit Go.Lib in
theorem Tryz.strings_HasPrefix (s p : ByteArray) (w : World) :
  Calls Tryz.prog 233 #[.string s,.string p] w fun e w'=>e = .returned (.bool (Lib.hasPrefix s.data.toList p.data.toList))∧w' = w:=Any.strings_HasPrefix Tryz.lays99 s p w
def Tryz.lays146_ren : Go.Shelf.Ren:=⟨fun | 146=>317 | 221=>331 | 268=>351 | 138=>352 | 143=>353 | 195=>373 | 197=>361 | 218=>374 | 219=>350 | 260=>379 | 217=>369 | 225=>370 | 224=>371 | 267=>372 | 266=>384 | 314=>385 | n=>n,fun | 9=>9 | 31=>22 | 3=>3 | 4=>4 | 0=>0 | 105=>353 | 21=>21 | 5=>5 | 46=>242 | 119=>374 | 139=>377 | 138=>376 | 146=>368 | 51=>286 | n=>n,fun | 1=>1 | 3=>4 | 4=>5 | n=>n⟩
theorem Tryz.lays146 : Go.Proofs.Lays.n146 Tryz.prog Tryz.lays146_ren:={
 mixed:=by kernel_rfl
 f138:=Tryz.func352.trans (congrArg some (by kernel_rfl))
 f143:=Tryz.func353.trans (congrArg some (by kernel_rfl))
 f146:=Tryz.func317.trans (congrArg some (by kernel_rfl))
 f195:=Tryz.func373.trans (congrArg some (by kernel_rfl))
 f197:=Tryz.func361.trans (congrArg some (by kernel_rfl))
 f217:=Tryz.func369.trans (congrArg some (by kernel_rfl))
 f218:=Tryz.func374.trans (congrArg some (by kernel_rfl))
 f219:=Tryz.func350.trans (congrArg some (by kernel_rfl))
 f221:=Tryz.func331.trans (congrArg some (by kernel_rfl))
 f224:=Tryz.func371.trans (congrArg some (by kernel_rfl))
 f225:=Tryz.func370.trans (congrArg some (by kernel_rfl))
 f260:=Tryz.func379.trans (congrArg some (by kernel_rfl))
 f266:=Tryz.func384.trans (congrArg some (by kernel_rfl))
 f267:=Tryz.func372.trans (congrArg some (by kernel_rfl))
 f268:=Tryz.func351.trans (congrArg some (by kernel_rfl))
 f314:=Tryz.func385.trans (congrArg some (by kernel_rfl))
 t0:=Tryz.underlying0
 a0:=Tryz.isAgg0
 z0:=Tryz.sizeOf0
 v0:=Tryz.zeroValue0
 t3:=Tryz.underlying3
 a3:=Tryz.isAgg3
 z3:=Tryz.sizeOf3
 v3:=Tryz.zeroValue3
 t4:=Tryz.underlying4
 a4:=Tryz.isAgg4
 z4:=Tryz.sizeOf4
 v4:=Tryz.zeroValue4
 t5:=Tryz.underlying5
 a5:=Tryz.isAgg5
 z5:=Tryz.sizeOf5
 v5:=Tryz.zeroValue5
 t9:=Tryz.underlying9
 a9:=Tryz.isAgg9
 z9:=Tryz.sizeOf9
 v9:=Tryz.zeroValue9
 t21:=Tryz.underlying21
 a21:=Tryz.isAgg21
 z21:=Tryz.sizeOf21
 v21:=Tryz.zeroValue21
 t31:=Tryz.underlying22
 a31:=Tryz.isAgg22
 z31:=Tryz.sizeOf22
 v31:=Tryz.zeroValue22
 t46:=Tryz.underlying242
 a46:=Tryz.isAgg242
 z46:=Tryz.sizeOf242
 v46:=Tryz.zeroValue242
 t51:=Tryz.underlying286
 a51:=Tryz.isAgg286
 z51:=Tryz.sizeOf286
 v51:=Tryz.zeroValue286
 t105:=Tryz.underlying353
 a105:=Tryz.isAgg353
 z105:=Tryz.sizeOf353
 v105:=Tryz.zeroValue353
 t119:=Tryz.underlying374
 a119:=Tryz.isAgg374
 z119:=Tryz.sizeOf374
 t138:=Tryz.underlying376
 a138:=Tryz.isAgg376
 z138:=Tryz.sizeOf376
 v138:=Tryz.zeroValue376
 t139:=Tryz.underlying377
 a139:=Tryz.isAgg377
 z139:=Tryz.sizeOf377
 v139:=Tryz.zeroValue377
 t146:=Tryz.underlying368
 a146:=Tryz.isAgg368
 z146:=Tryz.sizeOf368
 v146:=Tryz.zeroValue368
 g1:=by kernel_rfl
 g3:=by kernel_rfl
 g4:=by kernel_rfl }
open Go.RowKit Go.Lib in
theorem Tryz.strings_Split (s sep : ByteArray) (m : Int) (w : World) (hs : s.size < 4294967281) (hm : w.cell? ⟨1,0,none⟩ = some (.int .i64 m)) (h1 : 1≤sep.size) :
  Calls Tryz.prog 317 #[.string s,.string sep] w fun e w' =>
   e = .returned (.slice (some ⟨w.heap.size,0,none⟩) (Lib.countB s sep + 1) (Lib.countB s sep + 1))∧w' = w.alloc (.cells ((Lib.splitB sep 0 (Lib.countB s sep) s).map Value.string).toArray 9):=Any.strings_Split Tryz.lays146 (by kernel_rfl) s sep m w hs hm h1
end Go.Proofs
