/-
  No cell of these rows narrows 'for every input' (looked for: loops, veiled, ifaces, maps, wideKeys, modest, calm, conditions, laid).
  DERIVED. THE GIVEN ROWS OF THIS SEAT. 11 by the template 'for every input the law returns true; each argument reads behind the call as it read before'; 0 by the template 'total and deterministic' (their statements: YtanjldhhcnfibaaTotals.lean).
  GIVEN WITH THE SEED: the statements are not yours to turn. If you find one false, say at which input.
  Laid BY PROGRAM, IN A SANDBOX (cutbox-rows.mjs): the forced cells as the released guide's own fill.sh prints them over the translation 29909312fcacc953… (all of the seat's roots in one cut). By AI agents, Wed Nov 11 2026. No macro, syntax, notation, axiom, sorry.
-/
import Derived.Test.YtanjldhhcnfibaaChecked
import GoSem.Claim
import GoSem.ClaimJoined
import GoSem.ClaimMapViews
import Derived.JoinedTies
import Derived.KernelRfl
namespace Go.Proofs.Ytanjldhhcnfibaa
/- THE CELL 'sum', in the pinned program and in every row, IS THE sha256 OF THE DUMP (.gsa) THAT YtanjldhhcnfibaaProg.lean LOADS. Nothing in Lean hashes anything: it is a label: what it is worth is what the hold of that sum in a sandbox is worth. -/
noncomputable def Try.pinned : Pinned := { name := "ytanjldhhcnfibaa", sum := "29909312fcacc953f23d22630a181d2f1a9868dd3a1b4a4549dc512433be37e8", checked := Try.checked }
namespace Rows
def none {H : Type} : Left H := { results := [], args := [] }

/-- 'laws.FnExactSum': WHATEVER THE INPUT: true; the input reads as it did. -/
def fnExactSumSpec : ChangeSpec := { name := "fnExactSum", fn := fun _ => fun
  | [d] => { results := [.lit (.bool true)], args := [d] }
  | _ => none }
def fnExactSumRow : OpenClaim := { program := "ytanjldhhcnfibaa", sum := "29909312fcacc953f23d22630a181d2f1a9868dd3a1b4a4549dc512433be37e8", func := "loop.example/g00239/laws.FnExactSum", spec := "fnExactSum", apart := false }
def FnExactSumSaid : Prop := fnExactSumRow.holds Try.pinned (OpenSpec.ofChange fnExactSumSpec)

/-- ITS FALSE NEIGHBOUR: 'it returns false'. Refute it at one input. -/
def fnExactSumWrong : ChangeSpec := { name := "fnExactSum", fn := fun _ => fun
  | [d] => { results := [.lit (.bool false)], args := [d] }
  | _ => none }
def FnExactSumWrongFalsely : Prop := fnExactSumRow.holds Try.pinned (OpenSpec.ofChange fnExactSumWrong)

/-- 'laws.FnExactKindText': WHATEVER THE INPUT: true; the input reads as it did. -/
def fnExactKindTextSpec : ChangeSpec := { name := "fnExactKindText", fn := fun _ => fun
  | [d] => { results := [.lit (.bool true)], args := [d] }
  | _ => none }
def fnExactKindTextRow : OpenClaim := { program := "ytanjldhhcnfibaa", sum := "29909312fcacc953f23d22630a181d2f1a9868dd3a1b4a4549dc512433be37e8", func := "loop.example/g00239/laws.FnExactKindText", spec := "fnExactKindText", apart := false }
def FnExactKindTextSaid : Prop := fnExactKindTextRow.holds Try.pinned (OpenSpec.ofChange fnExactKindTextSpec)

/-- ITS FALSE NEIGHBOUR: 'it returns false'. Refute it at one input. -/
def fnExactKindTextWrong : ChangeSpec := { name := "fnExactKindText", fn := fun _ => fun
  | [d] => { results := [.lit (.bool false)], args := [d] }
  | _ => none }
def FnExactKindTextWrongFalsely : Prop := fnExactKindTextRow.holds Try.pinned (OpenSpec.ofChange fnExactKindTextWrong)

/-- 'laws.FnExactDiskNew': WHATEVER THE INPUT: true; the input reads as it did. -/
def fnExactDiskNewSpec : ChangeSpec := { name := "fnExactDiskNew", fn := fun _ => fun
  | [] => { results := [.lit (.bool true)], args := [] }
  | _ => none }
def fnExactDiskNewRow : OpenClaim := { program := "ytanjldhhcnfibaa", sum := "29909312fcacc953f23d22630a181d2f1a9868dd3a1b4a4549dc512433be37e8", func := "loop.example/g00239/laws.FnExactDiskNew", spec := "fnExactDiskNew", apart := false }
def FnExactDiskNewSaid : Prop := fnExactDiskNewRow.holds Try.pinned (OpenSpec.ofChange fnExactDiskNewSpec)

/-- ITS FALSE NEIGHBOUR: 'it returns false'. Refute it at one input. -/
def fnExactDiskNewWrong : ChangeSpec := { name := "fnExactDiskNew", fn := fun _ => fun
  | [] => { results := [.lit (.bool false)], args := [] }
  | _ => none }
def FnExactDiskNewWrongFalsely : Prop := fnExactDiskNewRow.holds Try.pinned (OpenSpec.ofChange fnExactDiskNewWrong)

/-- 'laws.FnExactChunkRead': WHATEVER THE INPUT: true; the input reads as it did. -/
def fnExactChunkReadSpec : ChangeSpec := { name := "fnExactChunkRead", fn := fun _ => fun
  | [d] => { results := [.lit (.bool true)], args := [d] }
  | _ => none }
def fnExactChunkReadRow : OpenClaim := { program := "ytanjldhhcnfibaa", sum := "29909312fcacc953f23d22630a181d2f1a9868dd3a1b4a4549dc512433be37e8", func := "loop.example/g00239/laws.FnExactChunkRead", spec := "fnExactChunkRead", inPlace := ["internal/bytealg.IndexByteString"], apart := false }
def FnExactChunkReadSaid : Prop := fnExactChunkReadRow.holds Try.pinned (OpenSpec.ofChange fnExactChunkReadSpec)

/-- ITS FALSE NEIGHBOUR: 'it returns false'. Refute it at one input. -/
def fnExactChunkReadWrong : ChangeSpec := { name := "fnExactChunkRead", fn := fun _ => fun
  | [d] => { results := [.lit (.bool false)], args := [d] }
  | _ => none }
def FnExactChunkReadWrongFalsely : Prop := fnExactChunkReadRow.holds Try.pinned (OpenSpec.ofChange fnExactChunkReadWrong)

/-- 'laws.FnExactDiskOk': WHATEVER THE INPUT: true; the input reads as it did. -/
def fnExactDiskOkSpec : ChangeSpec := { name := "fnExactDiskOk", fn := fun _ => fun
  | [d] => { results := [.lit (.bool true)], args := [d] }
  | _ => none }
def fnExactDiskOkRow : OpenClaim := { program := "ytanjldhhcnfibaa", sum := "29909312fcacc953f23d22630a181d2f1a9868dd3a1b4a4549dc512433be37e8", func := "loop.example/g00239/laws.FnExactDiskOk", spec := "fnExactDiskOk", apart := false }
def FnExactDiskOkSaid : Prop := fnExactDiskOkRow.holds Try.pinned (OpenSpec.ofChange fnExactDiskOkSpec)

/-- ITS FALSE NEIGHBOUR: 'it returns false'. Refute it at one input. -/
def fnExactDiskOkWrong : ChangeSpec := { name := "fnExactDiskOk", fn := fun _ => fun
  | [d] => { results := [.lit (.bool false)], args := [d] }
  | _ => none }
def FnExactDiskOkWrongFalsely : Prop := fnExactDiskOkRow.holds Try.pinned (OpenSpec.ofChange fnExactDiskOkWrong)

/-- 'laws.FnExactDiskGet': WHATEVER THE INPUT: true; the input reads as it did. -/
def fnExactDiskGetSpec : ChangeSpec := { name := "fnExactDiskGet", fn := fun _ => fun
  | [d1, d2] => { results := [.lit (.bool true)], args := [d1, d2] }
  | _ => none }
def fnExactDiskGetRow : OpenClaim := { program := "ytanjldhhcnfibaa", sum := "29909312fcacc953f23d22630a181d2f1a9868dd3a1b4a4549dc512433be37e8", func := "loop.example/g00239/laws.FnExactDiskGet", spec := "fnExactDiskGet", apart := false }
def FnExactDiskGetSaid : Prop := fnExactDiskGetRow.holds Try.pinned (OpenSpec.ofChange fnExactDiskGetSpec)

/-- ITS FALSE NEIGHBOUR: 'it returns false'. Refute it at one input. -/
def fnExactDiskGetWrong : ChangeSpec := { name := "fnExactDiskGet", fn := fun _ => fun
  | [d1, d2] => { results := [.lit (.bool false)], args := [d1, d2] }
  | _ => none }
def FnExactDiskGetWrongFalsely : Prop := fnExactDiskGetRow.holds Try.pinned (OpenSpec.ofChange fnExactDiskGetWrong)

/-- 'laws.FnDisk': WHATEVER THE INPUT: true; the input reads as it did. -/
def fnDiskSpec : ChangeSpec := { name := "fnDisk", fn := fun _ => fun
  | [d] => { results := [.lit (.bool true)], args := [d] }
  | _ => none }
def fnDiskRow : OpenClaim := { program := "ytanjldhhcnfibaa", sum := "29909312fcacc953f23d22630a181d2f1a9868dd3a1b4a4549dc512433be37e8", func := "loop.example/g00239/laws.FnDisk", spec := "fnDisk", apart := false }
def FnDiskSaid : Prop := fnDiskRow.holds Try.pinned (OpenSpec.ofChange fnDiskSpec)

/-- ITS FALSE NEIGHBOUR: 'it returns false'. Refute it at one input. -/
def fnDiskWrong : ChangeSpec := { name := "fnDisk", fn := fun _ => fun
  | [d] => { results := [.lit (.bool false)], args := [d] }
  | _ => none }
def FnDiskWrongFalsely : Prop := fnDiskRow.holds Try.pinned (OpenSpec.ofChange fnDiskWrong)

/-- 'laws.FnDiskPut': WHATEVER THE INPUT: true; the input reads as it did. -/
def fnDiskPutSpec : ChangeSpec := { name := "fnDiskPut", fn := fun _ => fun
  | [d] => { results := [.lit (.bool true)], args := [d] }
  | _ => none }
def fnDiskPutRow : OpenClaim := { program := "ytanjldhhcnfibaa", sum := "29909312fcacc953f23d22630a181d2f1a9868dd3a1b4a4549dc512433be37e8", func := "loop.example/g00239/laws.FnDiskPut", spec := "fnDiskPut", apart := false }
def FnDiskPutSaid : Prop := fnDiskPutRow.holds Try.pinned (OpenSpec.ofChange fnDiskPutSpec)

/-- ITS FALSE NEIGHBOUR: 'it returns false'. Refute it at one input. -/
def fnDiskPutWrong : ChangeSpec := { name := "fnDiskPut", fn := fun _ => fun
  | [d] => { results := [.lit (.bool false)], args := [d] }
  | _ => none }
def FnDiskPutWrongFalsely : Prop := fnDiskPutRow.holds Try.pinned (OpenSpec.ofChange fnDiskPutWrong)

/-- 'laws.FnExactDiskPut': WHATEVER THE INPUT: true; the input reads as it did. -/
def fnExactDiskPutSpec : ChangeSpec := { name := "fnExactDiskPut", fn := fun _ => fun
  | [d1, d2, d3] => { results := [.lit (.bool true)], args := [d1, d2, d3] }
  | _ => none }
def fnExactDiskPutRow : OpenClaim := { program := "ytanjldhhcnfibaa", sum := "29909312fcacc953f23d22630a181d2f1a9868dd3a1b4a4549dc512433be37e8", func := "loop.example/g00239/laws.FnExactDiskPut", spec := "fnExactDiskPut", apart := false }
def FnExactDiskPutSaid : Prop := fnExactDiskPutRow.holds Try.pinned (OpenSpec.ofChange fnExactDiskPutSpec)

/-- ITS FALSE NEIGHBOUR: 'it returns false'. Refute it at one input. -/
def fnExactDiskPutWrong : ChangeSpec := { name := "fnExactDiskPut", fn := fun _ => fun
  | [d1, d2, d3] => { results := [.lit (.bool false)], args := [d1, d2, d3] }
  | _ => none }
def FnExactDiskPutWrongFalsely : Prop := fnExactDiskPutRow.holds Try.pinned (OpenSpec.ofChange fnExactDiskPutWrong)

/-- 'laws.FnExactFlush': WHATEVER THE INPUT: true; the input reads as it did. -/
def fnExactFlushSpec : ChangeSpec := { name := "fnExactFlush", fn := fun _ => fun
  | [d] => { results := [.lit (.bool true)], args := [d] }
  | _ => none }
def fnExactFlushRow : OpenClaim := { program := "ytanjldhhcnfibaa", sum := "29909312fcacc953f23d22630a181d2f1a9868dd3a1b4a4549dc512433be37e8", func := "loop.example/g00239/laws.FnExactFlush", spec := "fnExactFlush", apart := false }
def FnExactFlushSaid : Prop := fnExactFlushRow.holds Try.pinned (OpenSpec.ofChange fnExactFlushSpec)

/-- ITS FALSE NEIGHBOUR: 'it returns false'. Refute it at one input. -/
def fnExactFlushWrong : ChangeSpec := { name := "fnExactFlush", fn := fun _ => fun
  | [d] => { results := [.lit (.bool false)], args := [d] }
  | _ => none }
def FnExactFlushWrongFalsely : Prop := fnExactFlushRow.holds Try.pinned (OpenSpec.ofChange fnExactFlushWrong)

/-- 'laws.FnExactCrash': WHATEVER THE INPUT: true; the input reads as it did. -/
def fnExactCrashSpec : ChangeSpec := { name := "fnExactCrash", fn := fun _ => fun
  | [d1, d2] => { results := [.lit (.bool true)], args := [d1, d2] }
  | _ => none }
def fnExactCrashRow : OpenClaim := { program := "ytanjldhhcnfibaa", sum := "29909312fcacc953f23d22630a181d2f1a9868dd3a1b4a4549dc512433be37e8", func := "loop.example/g00239/laws.FnExactCrash", spec := "fnExactCrash", apart := false }
def FnExactCrashSaid : Prop := fnExactCrashRow.holds Try.pinned (OpenSpec.ofChange fnExactCrashSpec)

/-- ITS FALSE NEIGHBOUR: 'it returns false'. Refute it at one input. -/
def fnExactCrashWrong : ChangeSpec := { name := "fnExactCrash", fn := fun _ => fun
  | [d1, d2] => { results := [.lit (.bool false)], args := [d1, d2] }
  | _ => none }
def FnExactCrashWrongFalsely : Prop := fnExactCrashRow.holds Try.pinned (OpenSpec.ofChange fnExactCrashWrong)

/- THE SECOND FORM. 'bulk': how many values and letters a reading holds, each counted each time it is reached (what is shared counts as often as it is met; a slice's spare places count too). A statement '..UptoSaid' is the law's where the arguments, and the package variables that the reading takes, are together of bulk at most 1048576: NARROWER than '..Said'. Prove '..Said' where nothing that the law and all that it calls make is longer than what came in: it says more and counts as full. Else prove '..UptoSaid'. A law counts once. -/
mutual
def uptoBulk {H : Type} : DataW H → Nat
  | .lit (.string bytes) => bytes.length + 1
  | .lit _ => 1
  | .nil => 1
  | .ptr d => uptoBulk d + 1
  | .slice elems spare => uptoBulkAll elems + uptoBulkAll spare + 1
  | .agg parts => uptoBulkAll parts + 1
  | .iface _ d => uptoBulk d + 1
  | .map entries => uptoBulkEntries entries + 1
  | .held _ => 1
def uptoBulkAll {H : Type} : List (DataW H) → Nat
  | [] => 0
  | d :: r => uptoBulk d + uptoBulkAll r
def uptoBulkEntries {H : Type} : List (Lit × DataW H) → Nat
  | [] => 0
  | x :: r => uptoBulkEntry x + uptoBulkEntries r
def uptoBulkEntry {H : Type} : Lit × DataW H → Nat
  | (.string bytes, d) => bytes.length + uptoBulk d + 1
  | (_, d) => uptoBulk d + 1
 end
def uptoSmall : (H : Type) → List (DataW H) → Bool := fun _ ds => decide (uptoBulkAll ds ≤ 1048576)
def OpenSpec.upto (s : _root_.Go.ChangeSpec) : _root_.Go.OpenSpec := { _root_.Go.OpenSpec.ofChange s with cond := some uptoSmall }

/-- 'laws.FnExactSum', WHERE WHAT IT READS IS OF BULK AT MOST 1048576: true; the input reads as it did. -/
def fnExactSumUptoRow : OpenClaim := { program := "ytanjldhhcnfibaa", sum := "29909312fcacc953f23d22630a181d2f1a9868dd3a1b4a4549dc512433be37e8", func := "loop.example/g00239/laws.FnExactSum", spec := "fnExactSum", apart := false, narrowed := true }
def FnExactSumUptoSaid : Prop := fnExactSumUptoRow.holds Try.pinned (OpenSpec.upto fnExactSumSpec)

/-- 'laws.FnExactKindText', WHERE WHAT IT READS IS OF BULK AT MOST 1048576: true; the input reads as it did. -/
def fnExactKindTextUptoRow : OpenClaim := { program := "ytanjldhhcnfibaa", sum := "29909312fcacc953f23d22630a181d2f1a9868dd3a1b4a4549dc512433be37e8", func := "loop.example/g00239/laws.FnExactKindText", spec := "fnExactKindText", apart := false, narrowed := true }
def FnExactKindTextUptoSaid : Prop := fnExactKindTextUptoRow.holds Try.pinned (OpenSpec.upto fnExactKindTextSpec)

/-- 'laws.FnExactDiskNew', WHERE WHAT IT READS IS OF BULK AT MOST 1048576: true; the input reads as it did. -/
def fnExactDiskNewUptoRow : OpenClaim := { program := "ytanjldhhcnfibaa", sum := "29909312fcacc953f23d22630a181d2f1a9868dd3a1b4a4549dc512433be37e8", func := "loop.example/g00239/laws.FnExactDiskNew", spec := "fnExactDiskNew", apart := false, narrowed := true }
def FnExactDiskNewUptoSaid : Prop := fnExactDiskNewUptoRow.holds Try.pinned (OpenSpec.upto fnExactDiskNewSpec)

/-- 'laws.FnExactChunkRead', WHERE WHAT IT READS IS OF BULK AT MOST 1048576: true; the input reads as it did. -/
def fnExactChunkReadUptoRow : OpenClaim := { program := "ytanjldhhcnfibaa", sum := "29909312fcacc953f23d22630a181d2f1a9868dd3a1b4a4549dc512433be37e8", func := "loop.example/g00239/laws.FnExactChunkRead", spec := "fnExactChunkRead", inPlace := ["internal/bytealg.IndexByteString"], apart := false, narrowed := true }
def FnExactChunkReadUptoSaid : Prop := fnExactChunkReadUptoRow.holds Try.pinned (OpenSpec.upto fnExactChunkReadSpec)

/-- 'laws.FnExactDiskOk', WHERE WHAT IT READS IS OF BULK AT MOST 1048576: true; the input reads as it did. -/
def fnExactDiskOkUptoRow : OpenClaim := { program := "ytanjldhhcnfibaa", sum := "29909312fcacc953f23d22630a181d2f1a9868dd3a1b4a4549dc512433be37e8", func := "loop.example/g00239/laws.FnExactDiskOk", spec := "fnExactDiskOk", apart := false, narrowed := true }
def FnExactDiskOkUptoSaid : Prop := fnExactDiskOkUptoRow.holds Try.pinned (OpenSpec.upto fnExactDiskOkSpec)

/-- 'laws.FnExactDiskGet', WHERE WHAT IT READS IS OF BULK AT MOST 1048576: true; the input reads as it did. -/
def fnExactDiskGetUptoRow : OpenClaim := { program := "ytanjldhhcnfibaa", sum := "29909312fcacc953f23d22630a181d2f1a9868dd3a1b4a4549dc512433be37e8", func := "loop.example/g00239/laws.FnExactDiskGet", spec := "fnExactDiskGet", apart := false, narrowed := true }
def FnExactDiskGetUptoSaid : Prop := fnExactDiskGetUptoRow.holds Try.pinned (OpenSpec.upto fnExactDiskGetSpec)

/-- 'laws.FnDisk', WHERE WHAT IT READS IS OF BULK AT MOST 1048576: true; the input reads as it did. -/
def fnDiskUptoRow : OpenClaim := { program := "ytanjldhhcnfibaa", sum := "29909312fcacc953f23d22630a181d2f1a9868dd3a1b4a4549dc512433be37e8", func := "loop.example/g00239/laws.FnDisk", spec := "fnDisk", apart := false, narrowed := true }
def FnDiskUptoSaid : Prop := fnDiskUptoRow.holds Try.pinned (OpenSpec.upto fnDiskSpec)

/-- 'laws.FnDiskPut', WHERE WHAT IT READS IS OF BULK AT MOST 1048576: true; the input reads as it did. -/
def fnDiskPutUptoRow : OpenClaim := { program := "ytanjldhhcnfibaa", sum := "29909312fcacc953f23d22630a181d2f1a9868dd3a1b4a4549dc512433be37e8", func := "loop.example/g00239/laws.FnDiskPut", spec := "fnDiskPut", apart := false, narrowed := true }
def FnDiskPutUptoSaid : Prop := fnDiskPutUptoRow.holds Try.pinned (OpenSpec.upto fnDiskPutSpec)

/-- 'laws.FnExactDiskPut', WHERE WHAT IT READS IS OF BULK AT MOST 1048576: true; the input reads as it did. -/
def fnExactDiskPutUptoRow : OpenClaim := { program := "ytanjldhhcnfibaa", sum := "29909312fcacc953f23d22630a181d2f1a9868dd3a1b4a4549dc512433be37e8", func := "loop.example/g00239/laws.FnExactDiskPut", spec := "fnExactDiskPut", apart := false, narrowed := true }
def FnExactDiskPutUptoSaid : Prop := fnExactDiskPutUptoRow.holds Try.pinned (OpenSpec.upto fnExactDiskPutSpec)

/-- 'laws.FnExactFlush', WHERE WHAT IT READS IS OF BULK AT MOST 1048576: true; the input reads as it did. -/
def fnExactFlushUptoRow : OpenClaim := { program := "ytanjldhhcnfibaa", sum := "29909312fcacc953f23d22630a181d2f1a9868dd3a1b4a4549dc512433be37e8", func := "loop.example/g00239/laws.FnExactFlush", spec := "fnExactFlush", apart := false, narrowed := true }
def FnExactFlushUptoSaid : Prop := fnExactFlushUptoRow.holds Try.pinned (OpenSpec.upto fnExactFlushSpec)

/-- 'laws.FnExactCrash', WHERE WHAT IT READS IS OF BULK AT MOST 1048576: true; the input reads as it did. -/
def fnExactCrashUptoRow : OpenClaim := { program := "ytanjldhhcnfibaa", sum := "29909312fcacc953f23d22630a181d2f1a9868dd3a1b4a4549dc512433be37e8", func := "loop.example/g00239/laws.FnExactCrash", spec := "fnExactCrash", apart := false, narrowed := true }
def FnExactCrashUptoSaid : Prop := fnExactCrashUptoRow.holds Try.pinned (OpenSpec.upto fnExactCrashSpec)

end Rows
end Go.Proofs.Ytanjldhhcnfibaa
