/-
  No cell of these rows narrows 'for every input' (looked for: loops, veiled, ifaces, maps, wideKeys, modest, calm, conditions, laid).
  DERIVED. THE GIVEN ROWS OF THIS SEAT. 6 by the template 'for every input the law returns true; each argument reads behind the call as it read before'; 0 by the template 'total and deterministic' (their statements: YtiekpkkmiciakaaTotals.lean).
  GIVEN WITH THE SEED: the statements are not yours to turn. If you find one false, say at which input.
  Laid BY PROGRAM, IN A SANDBOX (cutbox-rows.mjs): the forced cells as the released guide's own fill.sh prints them over the translation 0c239b77d8082fce… (all of the seat's roots in one cut). By AI agents, Wed Nov 11 2026. No macro, syntax, notation, axiom, sorry.
-/
import Derived.Test.YtiekpkkmiciakaaChecked
import GoSem.Claim
import GoSem.ClaimJoined
import GoSem.ClaimMapViews
import Derived.JoinedTies
import Derived.KernelRfl
namespace Go.Proofs.Ytiekpkkmiciakaa
/- THE CELL 'sum', in the pinned program and in every row, IS THE sha256 OF THE DUMP (.gsa) THAT YtiekpkkmiciakaaProg.lean LOADS. Nothing in Lean hashes anything: it is a label: what it is worth is what the hold of that sum in a sandbox is worth. -/
noncomputable def Try.pinned : Pinned := { name := "ytiekpkkmiciakaa", sum := "0c239b77d8082fce299099e58be59434026c2be93c4ca0b6c0f6fa0b90ce21b9", checked := Try.checked }
namespace Rows
def none {H : Type} : Left H := { results := [], args := [] }

/-- 'seneschallaw08.RightsTexts': WHATEVER THE INPUT: true; the input reads as it did. -/
def rightsTextsSpec : ChangeSpec := { name := "rightsTexts", fn := fun _ => fun
  | [d1, d2] => { results := [.lit (.bool true)], args := [d1, d2] }
  | _ => none }
def rightsTextsRow : OpenClaim := { program := "ytiekpkkmiciakaa", sum := "0c239b77d8082fce299099e58be59434026c2be93c4ca0b6c0f6fa0b90ce21b9", func := "seneschal/seneschallaw08.RightsTexts", spec := "rightsTexts", apart := false }
def RightsTextsSaid : Prop := rightsTextsRow.holds Try.pinned (OpenSpec.ofChange rightsTextsSpec)

/-- ITS FALSE NEIGHBOUR: 'it returns false'. Refute it at one input. -/
def rightsTextsWrong : ChangeSpec := { name := "rightsTexts", fn := fun _ => fun
  | [d1, d2] => { results := [.lit (.bool false)], args := [d1, d2] }
  | _ => none }
def RightsTextsWrongFalsely : Prop := rightsTextsRow.holds Try.pinned (OpenSpec.ofChange rightsTextsWrong)

/-- 'seneschallaw08.RightsBack': WHATEVER THE INPUT: true; the input reads as it did. -/
def rightsBackSpec : ChangeSpec := { name := "rightsBack", fn := fun _ => fun
  | [d1, d2] => { results := [.lit (.bool true)], args := [d1, d2] }
  | _ => none }
def rightsBackRow : OpenClaim := { program := "ytiekpkkmiciakaa", sum := "0c239b77d8082fce299099e58be59434026c2be93c4ca0b6c0f6fa0b90ce21b9", func := "seneschal/seneschallaw08.RightsBack", spec := "rightsBack", apart := false }
def RightsBackSaid : Prop := rightsBackRow.holds Try.pinned (OpenSpec.ofChange rightsBackSpec)

/-- ITS FALSE NEIGHBOUR: 'it returns false'. Refute it at one input. -/
def rightsBackWrong : ChangeSpec := { name := "rightsBack", fn := fun _ => fun
  | [d1, d2] => { results := [.lit (.bool false)], args := [d1, d2] }
  | _ => none }
def RightsBackWrongFalsely : Prop := rightsBackRow.holds Try.pinned (OpenSpec.ofChange rightsBackWrong)

/-- 'seneschallaw08.RightsWithin': WHATEVER THE INPUT: true; the input reads as it did. -/
def rightsWithinSpec : ChangeSpec := { name := "rightsWithin", fn := fun _ => fun
  | [d1, d2, d3, d4] => { results := [.lit (.bool true)], args := [d1, d2, d3, d4] }
  | _ => none }
def rightsWithinRow : OpenClaim := { program := "ytiekpkkmiciakaa", sum := "0c239b77d8082fce299099e58be59434026c2be93c4ca0b6c0f6fa0b90ce21b9", func := "seneschal/seneschallaw08.RightsWithin", spec := "rightsWithin", apart := false }
def RightsWithinSaid : Prop := rightsWithinRow.holds Try.pinned (OpenSpec.ofChange rightsWithinSpec)

/-- ITS FALSE NEIGHBOUR: 'it returns false'. Refute it at one input. -/
def rightsWithinWrong : ChangeSpec := { name := "rightsWithin", fn := fun _ => fun
  | [d1, d2, d3, d4] => { results := [.lit (.bool false)], args := [d1, d2, d3, d4] }
  | _ => none }
def RightsWithinWrongFalsely : Prop := rightsWithinRow.holds Try.pinned (OpenSpec.ofChange rightsWithinWrong)

/-- 'seneschallaw08.RightsNever': WHATEVER THE INPUT: true; the input reads as it did. -/
def rightsNeverSpec : ChangeSpec := { name := "rightsNever", fn := fun _ => fun
  | [d1, d2] => { results := [.lit (.bool true)], args := [d1, d2] }
  | _ => none }
def rightsNeverRow : OpenClaim := { program := "ytiekpkkmiciakaa", sum := "0c239b77d8082fce299099e58be59434026c2be93c4ca0b6c0f6fa0b90ce21b9", func := "seneschal/seneschallaw08.RightsNever", spec := "rightsNever", apart := false }
def RightsNeverSaid : Prop := rightsNeverRow.holds Try.pinned (OpenSpec.ofChange rightsNeverSpec)

/-- ITS FALSE NEIGHBOUR: 'it returns false'. Refute it at one input. -/
def rightsNeverWrong : ChangeSpec := { name := "rightsNever", fn := fun _ => fun
  | [d1, d2] => { results := [.lit (.bool false)], args := [d1, d2] }
  | _ => none }
def RightsNeverWrongFalsely : Prop := rightsNeverRow.holds Try.pinned (OpenSpec.ofChange rightsNeverWrong)

/-- 'seneschallaw08.RightsLines': WHATEVER THE INPUT: true; the input reads as it did. -/
def rightsLinesSpec : ChangeSpec := { name := "rightsLines", fn := fun _ => fun
  | [d] => { results := [.lit (.bool true)], args := [d] }
  | _ => none }
def rightsLinesRow : OpenClaim := { program := "ytiekpkkmiciakaa", sum := "0c239b77d8082fce299099e58be59434026c2be93c4ca0b6c0f6fa0b90ce21b9", func := "seneschal/seneschallaw08.RightsLines", spec := "rightsLines", apart := false }
def RightsLinesSaid : Prop := rightsLinesRow.holds Try.pinned (OpenSpec.ofChange rightsLinesSpec)

/-- ITS FALSE NEIGHBOUR: 'it returns false'. Refute it at one input. -/
def rightsLinesWrong : ChangeSpec := { name := "rightsLines", fn := fun _ => fun
  | [d] => { results := [.lit (.bool false)], args := [d] }
  | _ => none }
def RightsLinesWrongFalsely : Prop := rightsLinesRow.holds Try.pinned (OpenSpec.ofChange rightsLinesWrong)

/-- 'seneschallaw08.RightsOrder': WHATEVER THE INPUT: true; the input reads as it did. -/
def rightsOrderSpec : ChangeSpec := { name := "rightsOrder", fn := fun _ => fun
  | [d1, d2, d3] => { results := [.lit (.bool true)], args := [d1, d2, d3] }
  | _ => none }
def rightsOrderRow : OpenClaim := { program := "ytiekpkkmiciakaa", sum := "0c239b77d8082fce299099e58be59434026c2be93c4ca0b6c0f6fa0b90ce21b9", func := "seneschal/seneschallaw08.RightsOrder", spec := "rightsOrder", apart := false }
def RightsOrderSaid : Prop := rightsOrderRow.holds Try.pinned (OpenSpec.ofChange rightsOrderSpec)

/-- ITS FALSE NEIGHBOUR: 'it returns false'. Refute it at one input. -/
def rightsOrderWrong : ChangeSpec := { name := "rightsOrder", fn := fun _ => fun
  | [d1, d2, d3] => { results := [.lit (.bool false)], args := [d1, d2, d3] }
  | _ => none }
def RightsOrderWrongFalsely : Prop := rightsOrderRow.holds Try.pinned (OpenSpec.ofChange rightsOrderWrong)

/- THE SECOND FORM. 'bulk': how many values and letters a reading holds, each counted each time it is reached (what is shared counts as often as it is met; a slice's spare places count too). A statement '..UptoSaid' is the law's where the arguments, and the package variables that the reading takes, are together of bulk at most 1048576: NARROWER than '..Said'. Prove '..Said' where nothing that the law and all that it calls make is longer than what came in: it says more and counts as full. Else prove '..UptoSaid'. A law counts once. -/
mutual
def uptoBulk {H : Type} : DataW H → Nat
  | .lit (.string bytes) => bytes.length + 1
  | .lit _ => 1
  | .nil => 1
  | .ptr d => uptoBulk d + 1
  | .slice elems spare => uptoBulkAll elems + uptoBulkAll spare + 1
  | .agg parts => uptoBulkAll parts + 1
  | .iface _ d => uptoBulk d + 1
  | .map entries => uptoBulkEntries entries + 1
  | .held _ => 1
def uptoBulkAll {H : Type} : List (DataW H) → Nat
  | [] => 0
  | d :: r => uptoBulk d + uptoBulkAll r
def uptoBulkEntries {H : Type} : List (Lit × DataW H) → Nat
  | [] => 0
  | x :: r => uptoBulkEntry x + uptoBulkEntries r
def uptoBulkEntry {H : Type} : Lit × DataW H → Nat
  | (.string bytes, d) => bytes.length + uptoBulk d + 1
  | (_, d) => uptoBulk d + 1
 end
def uptoSmall : (H : Type) → List (DataW H) → Bool := fun _ ds => decide (uptoBulkAll ds ≤ 1048576)
def OpenSpec.upto (s : _root_.Go.ChangeSpec) : _root_.Go.OpenSpec := { _root_.Go.OpenSpec.ofChange s with cond := some uptoSmall }

/-- 'seneschallaw08.RightsTexts', WHERE WHAT IT READS IS OF BULK AT MOST 1048576: true; the input reads as it did. -/
def rightsTextsUptoRow : OpenClaim := { program := "ytiekpkkmiciakaa", sum := "0c239b77d8082fce299099e58be59434026c2be93c4ca0b6c0f6fa0b90ce21b9", func := "seneschal/seneschallaw08.RightsTexts", spec := "rightsTexts", apart := false, narrowed := true }
def RightsTextsUptoSaid : Prop := rightsTextsUptoRow.holds Try.pinned (OpenSpec.upto rightsTextsSpec)

/-- 'seneschallaw08.RightsBack', WHERE WHAT IT READS IS OF BULK AT MOST 1048576: true; the input reads as it did. -/
def rightsBackUptoRow : OpenClaim := { program := "ytiekpkkmiciakaa", sum := "0c239b77d8082fce299099e58be59434026c2be93c4ca0b6c0f6fa0b90ce21b9", func := "seneschal/seneschallaw08.RightsBack", spec := "rightsBack", apart := false, narrowed := true }
def RightsBackUptoSaid : Prop := rightsBackUptoRow.holds Try.pinned (OpenSpec.upto rightsBackSpec)

/-- 'seneschallaw08.RightsWithin', WHERE WHAT IT READS IS OF BULK AT MOST 1048576: true; the input reads as it did. -/
def rightsWithinUptoRow : OpenClaim := { program := "ytiekpkkmiciakaa", sum := "0c239b77d8082fce299099e58be59434026c2be93c4ca0b6c0f6fa0b90ce21b9", func := "seneschal/seneschallaw08.RightsWithin", spec := "rightsWithin", apart := false, narrowed := true }
def RightsWithinUptoSaid : Prop := rightsWithinUptoRow.holds Try.pinned (OpenSpec.upto rightsWithinSpec)

/-- 'seneschallaw08.RightsNever', WHERE WHAT IT READS IS OF BULK AT MOST 1048576: true; the input reads as it did. -/
def rightsNeverUptoRow : OpenClaim := { program := "ytiekpkkmiciakaa", sum := "0c239b77d8082fce299099e58be59434026c2be93c4ca0b6c0f6fa0b90ce21b9", func := "seneschal/seneschallaw08.RightsNever", spec := "rightsNever", apart := false, narrowed := true }
def RightsNeverUptoSaid : Prop := rightsNeverUptoRow.holds Try.pinned (OpenSpec.upto rightsNeverSpec)

/-- 'seneschallaw08.RightsLines', WHERE WHAT IT READS IS OF BULK AT MOST 1048576: true; the input reads as it did. -/
def rightsLinesUptoRow : OpenClaim := { program := "ytiekpkkmiciakaa", sum := "0c239b77d8082fce299099e58be59434026c2be93c4ca0b6c0f6fa0b90ce21b9", func := "seneschal/seneschallaw08.RightsLines", spec := "rightsLines", apart := false, narrowed := true }
def RightsLinesUptoSaid : Prop := rightsLinesUptoRow.holds Try.pinned (OpenSpec.upto rightsLinesSpec)

/-- 'seneschallaw08.RightsOrder', WHERE WHAT IT READS IS OF BULK AT MOST 1048576: true; the input reads as it did. -/
def rightsOrderUptoRow : OpenClaim := { program := "ytiekpkkmiciakaa", sum := "0c239b77d8082fce299099e58be59434026c2be93c4ca0b6c0f6fa0b90ce21b9", func := "seneschal/seneschallaw08.RightsOrder", spec := "rightsOrder", apart := false, narrowed := true }
def RightsOrderUptoSaid : Prop := rightsOrderUptoRow.holds Try.pinned (OpenSpec.upto rightsOrderSpec)

end Rows
end Go.Proofs.Ytiekpkkmiciakaa
