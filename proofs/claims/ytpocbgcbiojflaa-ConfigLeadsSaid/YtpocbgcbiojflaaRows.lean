/-
  No cell of these rows narrows 'for every input' (looked for: loops, veiled, ifaces, maps, wideKeys, modest, calm, conditions, laid).
  DERIVED. THE GIVEN ROWS OF THIS SEAT. 3 by the template 'for every input the law returns true; each argument reads behind the call as it read before'; 0 by the template 'total and deterministic' (their statements: YtpocbgcbiojflaaTotals.lean).
  GIVEN WITH THE SEED: the statements are not yours to turn. If you find one false, say at which input.
  Laid BY PROGRAM, IN A SANDBOX (cutbox-rows.mjs): the forced cells as the released guide's own fill.sh prints them over the translation 835bafd7cd4eda3d… (all of the seat's roots in one cut). By AI agents, Wed Nov 11 2026. No macro, syntax, notation, axiom, sorry.
-/
import Derived.Test.YtpocbgcbiojflaaChecked
import GoSem.Claim
import GoSem.ClaimJoined
import GoSem.ClaimMapViews
import Derived.JoinedTies
import Derived.KernelRfl
namespace Go.Proofs.Ytpocbgcbiojflaa
/- THE CELL 'sum', in the pinned program and in every row, IS THE sha256 OF THE DUMP (.gsa) THAT YtpocbgcbiojflaaProg.lean LOADS. Nothing in Lean hashes anything: it is a label: what it is worth is what the hold of that sum in a sandbox is worth. -/
noncomputable def Try.pinned : Pinned := { name := "ytpocbgcbiojflaa", sum := "835bafd7cd4eda3d5c047b8c0404d0c4e766139966313225ea9a4b9d4034ab8c", checked := Try.checked }
namespace Rows
def none {H : Type} : Left H := { results := [], args := [] }

/-- 'seneschallaw22.ConfigLeads': WHATEVER THE INPUT: true; the input reads as it did. -/
def configLeadsSpec : ChangeSpec := { name := "configLeads", fn := fun _ => fun
  | [d1, d2] => { results := [.lit (.bool true)], args := [d1, d2] }
  | _ => none }
def configLeadsRow : OpenClaim := { program := "ytpocbgcbiojflaa", sum := "835bafd7cd4eda3d5c047b8c0404d0c4e766139966313225ea9a4b9d4034ab8c", func := "seneschal/seneschallaw22.ConfigLeads", spec := "configLeads", unfollowed := true, recurses := true, apart := false }
def ConfigLeadsSaid : Prop := configLeadsRow.holds Try.pinned (OpenSpec.ofChange configLeadsSpec)

/-- ITS FALSE NEIGHBOUR: 'it returns false'. Refute it at one input. -/
def configLeadsWrong : ChangeSpec := { name := "configLeads", fn := fun _ => fun
  | [d1, d2] => { results := [.lit (.bool false)], args := [d1, d2] }
  | _ => none }
def ConfigLeadsWrongFalsely : Prop := configLeadsRow.holds Try.pinned (OpenSpec.ofChange configLeadsWrong)

/-- 'seneschallaw22.ConfigChain': WHATEVER THE INPUT: true; the input reads as it did. -/
def configChainSpec : ChangeSpec := { name := "configChain", fn := fun _ => fun
  | [d1, d2] => { results := [.lit (.bool true)], args := [d1, d2] }
  | _ => none }
def configChainRow : OpenClaim := { program := "ytpocbgcbiojflaa", sum := "835bafd7cd4eda3d5c047b8c0404d0c4e766139966313225ea9a4b9d4034ab8c", func := "seneschal/seneschallaw22.ConfigChain", spec := "configChain", unfollowed := true, recurses := true, apart := false }
def ConfigChainSaid : Prop := configChainRow.holds Try.pinned (OpenSpec.ofChange configChainSpec)

/-- ITS FALSE NEIGHBOUR: 'it returns false'. Refute it at one input. -/
def configChainWrong : ChangeSpec := { name := "configChain", fn := fun _ => fun
  | [d1, d2] => { results := [.lit (.bool false)], args := [d1, d2] }
  | _ => none }
def ConfigChainWrongFalsely : Prop := configChainRow.holds Try.pinned (OpenSpec.ofChange configChainWrong)

/-- 'seneschallaw22.ConfigBack': WHATEVER THE INPUT: true; the input reads as it did. -/
def configBackSpec : ChangeSpec := { name := "configBack", fn := fun _ => fun
  | [d1, d2, d3] => { results := [.lit (.bool true)], args := [d1, d2, d3] }
  | _ => none }
def configBackRow : OpenClaim := { program := "ytpocbgcbiojflaa", sum := "835bafd7cd4eda3d5c047b8c0404d0c4e766139966313225ea9a4b9d4034ab8c", func := "seneschal/seneschallaw22.ConfigBack", spec := "configBack", unfollowed := true, recurses := true, apart := false }
def ConfigBackSaid : Prop := configBackRow.holds Try.pinned (OpenSpec.ofChange configBackSpec)

/-- ITS FALSE NEIGHBOUR: 'it returns false'. Refute it at one input. -/
def configBackWrong : ChangeSpec := { name := "configBack", fn := fun _ => fun
  | [d1, d2, d3] => { results := [.lit (.bool false)], args := [d1, d2, d3] }
  | _ => none }
def ConfigBackWrongFalsely : Prop := configBackRow.holds Try.pinned (OpenSpec.ofChange configBackWrong)

/- THE SECOND FORM. 'bulk': how many values and letters a reading holds, each counted each time it is reached (what is shared counts as often as it is met; a slice's spare places count too). A statement '..UptoSaid' is the law's where the arguments, and the package variables that the reading takes, are together of bulk at most 1048576: NARROWER than '..Said'. Prove '..Said' where nothing that the law and all that it calls make is longer than what came in: it says more and counts as full. Else prove '..UptoSaid'. A law counts once. -/
mutual
def uptoBulk {H : Type} : DataW H → Nat
  | .lit (.string bytes) => bytes.length + 1
  | .lit _ => 1
  | .nil => 1
  | .ptr d => uptoBulk d + 1
  | .slice elems spare => uptoBulkAll elems + uptoBulkAll spare + 1
  | .agg parts => uptoBulkAll parts + 1
  | .iface _ d => uptoBulk d + 1
  | .map entries => uptoBulkEntries entries + 1
  | .held _ => 1
def uptoBulkAll {H : Type} : List (DataW H) → Nat
  | [] => 0
  | d :: r => uptoBulk d + uptoBulkAll r
def uptoBulkEntries {H : Type} : List (Lit × DataW H) → Nat
  | [] => 0
  | x :: r => uptoBulkEntry x + uptoBulkEntries r
def uptoBulkEntry {H : Type} : Lit × DataW H → Nat
  | (.string bytes, d) => bytes.length + uptoBulk d + 1
  | (_, d) => uptoBulk d + 1
 end
def uptoSmall : (H : Type) → List (DataW H) → Bool := fun _ ds => decide (uptoBulkAll ds ≤ 1048576)
def OpenSpec.upto (s : _root_.Go.ChangeSpec) : _root_.Go.OpenSpec := { _root_.Go.OpenSpec.ofChange s with cond := some uptoSmall }

/-- 'seneschallaw22.ConfigLeads', WHERE WHAT IT READS IS OF BULK AT MOST 1048576: true; the input reads as it did. -/
def configLeadsUptoRow : OpenClaim := { program := "ytpocbgcbiojflaa", sum := "835bafd7cd4eda3d5c047b8c0404d0c4e766139966313225ea9a4b9d4034ab8c", func := "seneschal/seneschallaw22.ConfigLeads", spec := "configLeads", unfollowed := true, recurses := true, apart := false, narrowed := true }
def ConfigLeadsUptoSaid : Prop := configLeadsUptoRow.holds Try.pinned (OpenSpec.upto configLeadsSpec)

/-- 'seneschallaw22.ConfigChain', WHERE WHAT IT READS IS OF BULK AT MOST 1048576: true; the input reads as it did. -/
def configChainUptoRow : OpenClaim := { program := "ytpocbgcbiojflaa", sum := "835bafd7cd4eda3d5c047b8c0404d0c4e766139966313225ea9a4b9d4034ab8c", func := "seneschal/seneschallaw22.ConfigChain", spec := "configChain", unfollowed := true, recurses := true, apart := false, narrowed := true }
def ConfigChainUptoSaid : Prop := configChainUptoRow.holds Try.pinned (OpenSpec.upto configChainSpec)

/-- 'seneschallaw22.ConfigBack', WHERE WHAT IT READS IS OF BULK AT MOST 1048576: true; the input reads as it did. -/
def configBackUptoRow : OpenClaim := { program := "ytpocbgcbiojflaa", sum := "835bafd7cd4eda3d5c047b8c0404d0c4e766139966313225ea9a4b9d4034ab8c", func := "seneschal/seneschallaw22.ConfigBack", spec := "configBack", unfollowed := true, recurses := true, apart := false, narrowed := true }
def ConfigBackUptoSaid : Prop := configBackUptoRow.holds Try.pinned (OpenSpec.upto configBackSpec)

end Rows
end Go.Proofs.Ytpocbgcbiojflaa
