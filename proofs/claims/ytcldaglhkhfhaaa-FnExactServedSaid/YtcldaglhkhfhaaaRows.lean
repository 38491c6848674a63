/-
  No cell of these rows narrows 'for every input' (looked for: loops, veiled, ifaces, maps, wideKeys, modest, calm, conditions, laid).
  DERIVED. THE GIVEN ROWS OF THIS SEAT. 3 by the template 'for every input the law returns true; each argument reads behind the call as it read before'; 0 by the template 'total and deterministic' (their statements: YtcldaglhkhfhaaaTotals.lean).
  GIVEN WITH THE SEED: the statements are not yours to turn. If you find one false, say at which input.
  Laid BY PROGRAM, IN A SANDBOX (cutbox-rows.mjs): the forced cells as the released guide's own fill.sh prints them over the translation 6a92b776cf35656e… (all of the seat's roots in one cut). By AI agents, Wed Nov 11 2026. No macro, syntax, notation, axiom, sorry.
-/
import Derived.Test.YtcldaglhkhfhaaaChecked
import GoSem.Claim
import GoSem.ClaimJoined
import GoSem.ClaimMapViews
import Derived.JoinedTies
import Derived.KernelRfl
namespace Go.Proofs.Ytcldaglhkhfhaaa
/- THE CELL 'sum', in the pinned program and in every row, IS THE sha256 OF THE DUMP (.gsa) THAT YtcldaglhkhfhaaaProg.lean LOADS. Nothing in Lean hashes anything: it is a label: what it is worth is what the hold of that sum in a sandbox is worth. -/
noncomputable def Try.pinned : Pinned := { name := "ytcldaglhkhfhaaa", sum := "6a92b776cf35656e784e4d5269ea7d805245bd0fbb0c3ca0262e9fe8db1170b4", checked := Try.checked }
namespace Rows
def none {H : Type} : Left H := { results := [], args := [] }

/-- 'laws.FnExactComes': WHATEVER THE INPUT: true; the input reads as it did. -/
def fnExactComesSpec : ChangeSpec := { name := "fnExactComes", fn := fun _ => fun
  | [d1, d2] => { results := [.lit (.bool true)], args := [d1, d2] }
  | _ => none }
def fnExactComesRow : OpenClaim := { program := "ytcldaglhkhfhaaa", sum := "6a92b776cf35656e784e4d5269ea7d805245bd0fbb0c3ca0262e9fe8db1170b4", func := "loop.example/g00239/laws.FnExactComes", spec := "fnExactComes", unfollowed := true, recurses := true, apart := false }
def FnExactComesSaid : Prop := fnExactComesRow.holds Try.pinned (OpenSpec.ofChange fnExactComesSpec)

/-- ITS FALSE NEIGHBOUR: 'it returns false'. Refute it at one input. -/
def fnExactComesWrong : ChangeSpec := { name := "fnExactComes", fn := fun _ => fun
  | [d1, d2] => { results := [.lit (.bool false)], args := [d1, d2] }
  | _ => none }
def FnExactComesWrongFalsely : Prop := fnExactComesRow.holds Try.pinned (OpenSpec.ofChange fnExactComesWrong)

/-- 'laws.FnExactWaiting': WHATEVER THE INPUT: true; the input reads as it did. -/
def fnExactWaitingSpec : ChangeSpec := { name := "fnExactWaiting", fn := fun _ => fun
  | [d] => { results := [.lit (.bool true)], args := [d] }
  | _ => none }
def fnExactWaitingRow : OpenClaim := { program := "ytcldaglhkhfhaaa", sum := "6a92b776cf35656e784e4d5269ea7d805245bd0fbb0c3ca0262e9fe8db1170b4", func := "loop.example/g00239/laws.FnExactWaiting", spec := "fnExactWaiting", apart := false }
def FnExactWaitingSaid : Prop := fnExactWaitingRow.holds Try.pinned (OpenSpec.ofChange fnExactWaitingSpec)

/-- ITS FALSE NEIGHBOUR: 'it returns false'. Refute it at one input. -/
def fnExactWaitingWrong : ChangeSpec := { name := "fnExactWaiting", fn := fun _ => fun
  | [d] => { results := [.lit (.bool false)], args := [d] }
  | _ => none }
def FnExactWaitingWrongFalsely : Prop := fnExactWaitingRow.holds Try.pinned (OpenSpec.ofChange fnExactWaitingWrong)

/-- 'laws.FnExactServed': WHATEVER THE INPUT: true; the input reads as it did. -/
def fnExactServedSpec : ChangeSpec := { name := "fnExactServed", fn := fun _ => fun
  | [d1, d2] => { results := [.lit (.bool true)], args := [d1, d2] }
  | _ => none }
def fnExactServedRow : OpenClaim := { program := "ytcldaglhkhfhaaa", sum := "6a92b776cf35656e784e4d5269ea7d805245bd0fbb0c3ca0262e9fe8db1170b4", func := "loop.example/g00239/laws.FnExactServed", spec := "fnExactServed", apart := false }
def FnExactServedSaid : Prop := fnExactServedRow.holds Try.pinned (OpenSpec.ofChange fnExactServedSpec)

/-- ITS FALSE NEIGHBOUR: 'it returns false'. Refute it at one input. -/
def fnExactServedWrong : ChangeSpec := { name := "fnExactServed", fn := fun _ => fun
  | [d1, d2] => { results := [.lit (.bool false)], args := [d1, d2] }
  | _ => none }
def FnExactServedWrongFalsely : Prop := fnExactServedRow.holds Try.pinned (OpenSpec.ofChange fnExactServedWrong)

/- THE SECOND FORM. 'bulk': how many values and letters a reading holds, each counted each time it is reached (what is shared counts as often as it is met; a slice's spare places count too). A statement '..UptoSaid' is the law's where the arguments, and the package variables that the reading takes, are together of bulk at most 1048576: NARROWER than '..Said'. Prove '..Said' where nothing that the law and all that it calls make is longer than what came in: it says more and counts as full. Else prove '..UptoSaid'. A law counts once. -/
mutual
def uptoBulk {H : Type} : DataW H → Nat
  | .lit (.string bytes) => bytes.length + 1
  | .lit _ => 1
  | .nil => 1
  | .ptr d => uptoBulk d + 1
  | .slice elems spare => uptoBulkAll elems + uptoBulkAll spare + 1
  | .agg parts => uptoBulkAll parts + 1
  | .iface _ d => uptoBulk d + 1
  | .map entries => uptoBulkEntries entries + 1
  | .held _ => 1
def uptoBulkAll {H : Type} : List (DataW H) → Nat
  | [] => 0
  | d :: r => uptoBulk d + uptoBulkAll r
def uptoBulkEntries {H : Type} : List (Lit × DataW H) → Nat
  | [] => 0
  | x :: r => uptoBulkEntry x + uptoBulkEntries r
def uptoBulkEntry {H : Type} : Lit × DataW H → Nat
  | (.string bytes, d) => bytes.length + uptoBulk d + 1
  | (_, d) => uptoBulk d + 1
 end
def uptoSmall : (H : Type) → List (DataW H) → Bool := fun _ ds => decide (uptoBulkAll ds ≤ 1048576)
def OpenSpec.upto (s : _root_.Go.ChangeSpec) : _root_.Go.OpenSpec := { _root_.Go.OpenSpec.ofChange s with cond := some uptoSmall }

/-- 'laws.FnExactComes', WHERE WHAT IT READS IS OF BULK AT MOST 1048576: true; the input reads as it did. -/
def fnExactComesUptoRow : OpenClaim := { program := "ytcldaglhkhfhaaa", sum := "6a92b776cf35656e784e4d5269ea7d805245bd0fbb0c3ca0262e9fe8db1170b4", func := "loop.example/g00239/laws.FnExactComes", spec := "fnExactComes", unfollowed := true, recurses := true, apart := false, narrowed := true }
def FnExactComesUptoSaid : Prop := fnExactComesUptoRow.holds Try.pinned (OpenSpec.upto fnExactComesSpec)

/-- 'laws.FnExactWaiting', WHERE WHAT IT READS IS OF BULK AT MOST 1048576: true; the input reads as it did. -/
def fnExactWaitingUptoRow : OpenClaim := { program := "ytcldaglhkhfhaaa", sum := "6a92b776cf35656e784e4d5269ea7d805245bd0fbb0c3ca0262e9fe8db1170b4", func := "loop.example/g00239/laws.FnExactWaiting", spec := "fnExactWaiting", apart := false, narrowed := true }
def FnExactWaitingUptoSaid : Prop := fnExactWaitingUptoRow.holds Try.pinned (OpenSpec.upto fnExactWaitingSpec)

/-- 'laws.FnExactServed', WHERE WHAT IT READS IS OF BULK AT MOST 1048576: true; the input reads as it did. -/
def fnExactServedUptoRow : OpenClaim := { program := "ytcldaglhkhfhaaa", sum := "6a92b776cf35656e784e4d5269ea7d805245bd0fbb0c3ca0262e9fe8db1170b4", func := "loop.example/g00239/laws.FnExactServed", spec := "fnExactServed", apart := false, narrowed := true }
def FnExactServedUptoSaid : Prop := fnExactServedUptoRow.holds Try.pinned (OpenSpec.upto fnExactServedSpec)

end Rows
end Go.Proofs.Ytcldaglhkhfhaaa
