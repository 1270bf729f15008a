/-
  No cell of these rows narrows 'for every input' (looked for: loops, veiled, ifaces, maps, wideKeys, modest, calm, conditions, laid).
  DERIVED. THE GIVEN ROWS OF THIS SEAT. 5 by the template 'for every input the law returns true; each argument reads behind the call as it read before'; 0 by the template 'total and deterministic' (their statements: YthiacfpfgdoliaaTotals.lean).
  GIVEN WITH THE SEED: the statements are not yours to turn. If you find one false, say at which input.
  Laid BY PROGRAM, IN A SANDBOX (cutbox-rows.mjs): the forced cells as the released guide's own fill.sh prints them over the translation 60feaea8e7bb3d45… (all of the seat's roots in one cut). By AI agents, Wed Nov 11 2026. No macro, syntax, notation, axiom, sorry.
-/
import Derived.Test.YthiacfpfgdoliaaChecked
import GoSem.Claim
import GoSem.ClaimJoined
import GoSem.ClaimMapViews
import Derived.JoinedTies
import Derived.KernelRfl
namespace Go.Proofs.Ythiacfpfgdoliaa
/- THE CELL 'sum', in the pinned program and in every row, IS THE sha256 OF THE DUMP (.gsa) THAT YthiacfpfgdoliaaProg.lean LOADS. Nothing in Lean hashes anything: it is a label: what it is worth is what the hold of that sum in a sandbox is worth. -/
noncomputable def Try.pinned : Pinned := { name := "ythiacfpfgdoliaa", sum := "60feaea8e7bb3d4530c5243e404493c1d4646de17a56dbbde3d9d4a4b36477ba", checked := Try.checked }
namespace Rows
def none {H : Type} : Left H := { results := [], args := [] }

/-- 'seneschallaw14.RepliesSame': WHATEVER THE INPUT: true; the input reads as it did. -/
def repliesSameSpec : ChangeSpec := { name := "repliesSame", fn := fun _ => fun
  | [d1, d2, d3, d4] => { results := [.lit (.bool true)], args := [d1, d2, d3, d4] }
  | _ => none }
def repliesSameRow : OpenClaim := { program := "ythiacfpfgdoliaa", sum := "60feaea8e7bb3d4530c5243e404493c1d4646de17a56dbbde3d9d4a4b36477ba", func := "seneschal/seneschallaw14.RepliesSame", spec := "repliesSame", inPlace := ["slices.overlaps[seneschal/replies.Last]"], unfollowed := true, recurses := true, apart := false }
def RepliesSameSaid : Prop := repliesSameRow.holds Try.pinned (OpenSpec.ofChange repliesSameSpec)

/-- ITS FALSE NEIGHBOUR: 'it returns false'. Refute it at one input. -/
def repliesSameWrong : ChangeSpec := { name := "repliesSame", fn := fun _ => fun
  | [d1, d2, d3, d4] => { results := [.lit (.bool false)], args := [d1, d2, d3, d4] }
  | _ => none }
def RepliesSameWrongFalsely : Prop := repliesSameRow.holds Try.pinned (OpenSpec.ofChange repliesSameWrong)

/-- 'seneschallaw14.RepliesAsk': WHATEVER THE INPUT: true; the input reads as it did. -/
def repliesAskSpec : ChangeSpec := { name := "repliesAsk", fn := fun _ => fun
  | [d1, d2, d3] => { results := [.lit (.bool true)], args := [d1, d2, d3] }
  | _ => none }
def repliesAskRow : OpenClaim := { program := "ythiacfpfgdoliaa", sum := "60feaea8e7bb3d4530c5243e404493c1d4646de17a56dbbde3d9d4a4b36477ba", func := "seneschal/seneschallaw14.RepliesAsk", spec := "repliesAsk", inPlace := ["slices.overlaps[seneschal/replies.Last]"], unfollowed := true, recurses := true, apart := false }
def RepliesAskSaid : Prop := repliesAskRow.holds Try.pinned (OpenSpec.ofChange repliesAskSpec)

/-- ITS FALSE NEIGHBOUR: 'it returns false'. Refute it at one input. -/
def repliesAskWrong : ChangeSpec := { name := "repliesAsk", fn := fun _ => fun
  | [d1, d2, d3] => { results := [.lit (.bool false)], args := [d1, d2, d3] }
  | _ => none }
def RepliesAskWrongFalsely : Prop := repliesAskRow.holds Try.pinned (OpenSpec.ofChange repliesAskWrong)

/-- 'seneschallaw14.RepliesNote': WHATEVER THE INPUT: true; the input reads as it did. -/
def repliesNoteSpec : ChangeSpec := { name := "repliesNote", fn := fun _ => fun
  | [d1, d2, d3, d4] => { results := [.lit (.bool true)], args := [d1, d2, d3, d4] }
  | _ => none }
def repliesNoteRow : OpenClaim := { program := "ythiacfpfgdoliaa", sum := "60feaea8e7bb3d4530c5243e404493c1d4646de17a56dbbde3d9d4a4b36477ba", func := "seneschal/seneschallaw14.RepliesNote", spec := "repliesNote", inPlace := ["slices.overlaps[seneschal/replies.Last]"], unfollowed := true, recurses := true, apart := false }
def RepliesNoteSaid : Prop := repliesNoteRow.holds Try.pinned (OpenSpec.ofChange repliesNoteSpec)

/-- ITS FALSE NEIGHBOUR: 'it returns false'. Refute it at one input. -/
def repliesNoteWrong : ChangeSpec := { name := "repliesNote", fn := fun _ => fun
  | [d1, d2, d3, d4] => { results := [.lit (.bool false)], args := [d1, d2, d3, d4] }
  | _ => none }
def RepliesNoteWrongFalsely : Prop := repliesNoteRow.holds Try.pinned (OpenSpec.ofChange repliesNoteWrong)

/-- 'seneschallaw14.RepliesNext': WHATEVER THE INPUT: true; the input reads as it did. -/
def repliesNextSpec : ChangeSpec := { name := "repliesNext", fn := fun _ => fun
  | [d1, d2, d3] => { results := [.lit (.bool true)], args := [d1, d2, d3] }
  | _ => none }
def repliesNextRow : OpenClaim := { program := "ythiacfpfgdoliaa", sum := "60feaea8e7bb3d4530c5243e404493c1d4646de17a56dbbde3d9d4a4b36477ba", func := "seneschal/seneschallaw14.RepliesNext", spec := "repliesNext", inPlace := ["slices.overlaps[seneschal/replies.Last]"], unfollowed := true, recurses := true, apart := false }
def RepliesNextSaid : Prop := repliesNextRow.holds Try.pinned (OpenSpec.ofChange repliesNextSpec)

/-- ITS FALSE NEIGHBOUR: 'it returns false'. Refute it at one input. -/
def repliesNextWrong : ChangeSpec := { name := "repliesNext", fn := fun _ => fun
  | [d1, d2, d3] => { results := [.lit (.bool false)], args := [d1, d2, d3] }
  | _ => none }
def RepliesNextWrongFalsely : Prop := repliesNextRow.holds Try.pinned (OpenSpec.ofChange repliesNextWrong)

/-- 'seneschallaw14.RepliesAgain': WHATEVER THE INPUT: true; the input reads as it did. -/
def repliesAgainSpec : ChangeSpec := { name := "repliesAgain", fn := fun _ => fun
  | [d] => { results := [.lit (.bool true)], args := [d] }
  | _ => none }
def repliesAgainRow : OpenClaim := { program := "ythiacfpfgdoliaa", sum := "60feaea8e7bb3d4530c5243e404493c1d4646de17a56dbbde3d9d4a4b36477ba", func := "seneschal/seneschallaw14.RepliesAgain", spec := "repliesAgain", inPlace := ["slices.overlaps[seneschal/replies.Last]"], unfollowed := true, recurses := true, apart := false }
def RepliesAgainSaid : Prop := repliesAgainRow.holds Try.pinned (OpenSpec.ofChange repliesAgainSpec)

/-- ITS FALSE NEIGHBOUR: 'it returns false'. Refute it at one input. -/
def repliesAgainWrong : ChangeSpec := { name := "repliesAgain", fn := fun _ => fun
  | [d] => { results := [.lit (.bool false)], args := [d] }
  | _ => none }
def RepliesAgainWrongFalsely : Prop := repliesAgainRow.holds Try.pinned (OpenSpec.ofChange repliesAgainWrong)

/- THE SECOND FORM. 'bulk': how many values and letters a reading holds, each counted each time it is reached (what is shared counts as often as it is met; a slice's spare places count too). A statement '..UptoSaid' is the law's where the arguments, and the package variables that the reading takes, are together of bulk at most 1048576: NARROWER than '..Said'. Prove '..Said' where nothing that the law and all that it calls make is longer than what came in: it says more and counts as full. Else prove '..UptoSaid'. A law counts once. -/
mutual
def uptoBulk {H : Type} : DataW H → Nat
  | .lit (.string bytes) => bytes.length + 1
  | .lit _ => 1
  | .nil => 1
  | .ptr d => uptoBulk d + 1
  | .slice elems spare => uptoBulkAll elems + uptoBulkAll spare + 1
  | .agg parts => uptoBulkAll parts + 1
  | .iface _ d => uptoBulk d + 1
  | .map entries => uptoBulkEntries entries + 1
  | .held _ => 1
def uptoBulkAll {H : Type} : List (DataW H) → Nat
  | [] => 0
  | d :: r => uptoBulk d + uptoBulkAll r
def uptoBulkEntries {H : Type} : List (Lit × DataW H) → Nat
  | [] => 0
  | x :: r => uptoBulkEntry x + uptoBulkEntries r
def uptoBulkEntry {H : Type} : Lit × DataW H → Nat
  | (.string bytes, d) => bytes.length + uptoBulk d + 1
  | (_, d) => uptoBulk d + 1
 end
def uptoSmall : (H : Type) → List (DataW H) → Bool := fun _ ds => decide (uptoBulkAll ds ≤ 1048576)
def OpenSpec.upto (s : _root_.Go.ChangeSpec) : _root_.Go.OpenSpec := { _root_.Go.OpenSpec.ofChange s with cond := some uptoSmall }

/-- 'seneschallaw14.RepliesSame', WHERE WHAT IT READS IS OF BULK AT MOST 1048576: true; the input reads as it did. -/
def repliesSameUptoRow : OpenClaim := { program := "ythiacfpfgdoliaa", sum := "60feaea8e7bb3d4530c5243e404493c1d4646de17a56dbbde3d9d4a4b36477ba", func := "seneschal/seneschallaw14.RepliesSame", spec := "repliesSame", inPlace := ["slices.overlaps[seneschal/replies.Last]"], unfollowed := true, recurses := true, apart := false, narrowed := true }
def RepliesSameUptoSaid : Prop := repliesSameUptoRow.holds Try.pinned (OpenSpec.upto repliesSameSpec)

/-- 'seneschallaw14.RepliesAsk', WHERE WHAT IT READS IS OF BULK AT MOST 1048576: true; the input reads as it did. -/
def repliesAskUptoRow : OpenClaim := { program := "ythiacfpfgdoliaa", sum := "60feaea8e7bb3d4530c5243e404493c1d4646de17a56dbbde3d9d4a4b36477ba", func := "seneschal/seneschallaw14.RepliesAsk", spec := "repliesAsk", inPlace := ["slices.overlaps[seneschal/replies.Last]"], unfollowed := true, recurses := true, apart := false, narrowed := true }
def RepliesAskUptoSaid : Prop := repliesAskUptoRow.holds Try.pinned (OpenSpec.upto repliesAskSpec)

/-- 'seneschallaw14.RepliesNote', WHERE WHAT IT READS IS OF BULK AT MOST 1048576: true; the input reads as it did. -/
def repliesNoteUptoRow : OpenClaim := { program := "ythiacfpfgdoliaa", sum := "60feaea8e7bb3d4530c5243e404493c1d4646de17a56dbbde3d9d4a4b36477ba", func := "seneschal/seneschallaw14.RepliesNote", spec := "repliesNote", inPlace := ["slices.overlaps[seneschal/replies.Last]"], unfollowed := true, recurses := true, apart := false, narrowed := true }
def RepliesNoteUptoSaid : Prop := repliesNoteUptoRow.holds Try.pinned (OpenSpec.upto repliesNoteSpec)

/-- 'seneschallaw14.RepliesNext', WHERE WHAT IT READS IS OF BULK AT MOST 1048576: true; the input reads as it did. -/
def repliesNextUptoRow : OpenClaim := { program := "ythiacfpfgdoliaa", sum := "60feaea8e7bb3d4530c5243e404493c1d4646de17a56dbbde3d9d4a4b36477ba", func := "seneschal/seneschallaw14.RepliesNext", spec := "repliesNext", inPlace := ["slices.overlaps[seneschal/replies.Last]"], unfollowed := true, recurses := true, apart := false, narrowed := true }
def RepliesNextUptoSaid : Prop := repliesNextUptoRow.holds Try.pinned (OpenSpec.upto repliesNextSpec)

/-- 'seneschallaw14.RepliesAgain', WHERE WHAT IT READS IS OF BULK AT MOST 1048576: true; the input reads as it did. -/
def repliesAgainUptoRow : OpenClaim := { program := "ythiacfpfgdoliaa", sum := "60feaea8e7bb3d4530c5243e404493c1d4646de17a56dbbde3d9d4a4b36477ba", func := "seneschal/seneschallaw14.RepliesAgain", spec := "repliesAgain", inPlace := ["slices.overlaps[seneschal/replies.Last]"], unfollowed := true, recurses := true, apart := false, narrowed := true }
def RepliesAgainUptoSaid : Prop := repliesAgainUptoRow.holds Try.pinned (OpenSpec.upto repliesAgainSpec)

end Rows
end Go.Proofs.Ythiacfpfgdoliaa
