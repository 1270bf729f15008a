/-
  No cell of these rows narrows 'for every input' (looked for: loops, veiled, ifaces, maps, wideKeys, modest, calm, conditions, laid).
  DERIVED. THE GIVEN ROWS OF THIS SEAT. 6 by the template 'for every input the law returns true; each argument reads behind the call as it read before'; 0 by the template 'total and deterministic' (their statements: YtggbiklkigjegaaTotals.lean).
  GIVEN WITH THE SEED: the statements are not yours to turn. If you find one false, say at which input.
  Laid BY PROGRAM, IN A SANDBOX (cutbox-rows.mjs): the forced cells as the released guide's own fill.sh prints them over the translation bee9b5e0df893796… (all of the seat's roots in one cut). By AI agents, Wed Nov 11 2026. No macro, syntax, notation, axiom, sorry.
-/
import Derived.Test.YtggbiklkigjegaaChecked
import GoSem.Claim
import GoSem.ClaimJoined
import GoSem.ClaimMapViews
import Derived.JoinedTies
import Derived.KernelRfl
namespace Go.Proofs.Ytggbiklkigjegaa
/- THE CELL 'sum', in the pinned program and in every row, IS THE sha256 OF THE DUMP (.gsa) THAT YtggbiklkigjegaaProg.lean LOADS. Nothing in Lean hashes anything: it is a label: what it is worth is what the hold of that sum in a sandbox is worth. -/
noncomputable def Try.pinned : Pinned := { name := "ytggbiklkigjegaa", sum := "bee9b5e0df893796aaf34b152c1889aa1f9682685104137598ae10dd6c5a6436", checked := Try.checked }
namespace Rows
def none {H : Type} : Left H := { results := [], args := [] }

/-- 'seneschallaw21.PendingNil': WHATEVER THE INPUT: true; the input reads as it did. -/
def pendingNilSpec : ChangeSpec := { name := "pendingNil", fn := fun _ => fun
  | [d] => { results := [.lit (.bool true)], args := [d] }
  | _ => none }
def pendingNilRow : OpenClaim := { program := "ytggbiklkigjegaa", sum := "bee9b5e0df893796aaf34b152c1889aa1f9682685104137598ae10dd6c5a6436", func := "seneschal/seneschallaw21.PendingNil", spec := "pendingNil", unfollowed := true, recurses := true, apart := false }
def PendingNilSaid : Prop := pendingNilRow.holds Try.pinned (OpenSpec.ofChange pendingNilSpec)

/-- ITS FALSE NEIGHBOUR: 'it returns false'. Refute it at one input. -/
def pendingNilWrong : ChangeSpec := { name := "pendingNil", fn := fun _ => fun
  | [d] => { results := [.lit (.bool false)], args := [d] }
  | _ => none }
def PendingNilWrongFalsely : Prop := pendingNilRow.holds Try.pinned (OpenSpec.ofChange pendingNilWrong)

/-- 'seneschallaw21.PendingPlays': WHATEVER THE INPUT: true; the input reads as it did. -/
def pendingPlaysSpec : ChangeSpec := { name := "pendingPlays", fn := fun _ => fun
  | [d1, d2] => { results := [.lit (.bool true)], args := [d1, d2] }
  | _ => none }
def pendingPlaysRow : OpenClaim := { program := "ytggbiklkigjegaa", sum := "bee9b5e0df893796aaf34b152c1889aa1f9682685104137598ae10dd6c5a6436", func := "seneschal/seneschallaw21.PendingPlays", spec := "pendingPlays", unfollowed := true, recurses := true, apart := false }
def PendingPlaysSaid : Prop := pendingPlaysRow.holds Try.pinned (OpenSpec.ofChange pendingPlaysSpec)

/-- ITS FALSE NEIGHBOUR: 'it returns false'. Refute it at one input. -/
def pendingPlaysWrong : ChangeSpec := { name := "pendingPlays", fn := fun _ => fun
  | [d1, d2] => { results := [.lit (.bool false)], args := [d1, d2] }
  | _ => none }
def PendingPlaysWrongFalsely : Prop := pendingPlaysRow.holds Try.pinned (OpenSpec.ofChange pendingPlaysWrong)

/-- 'seneschallaw21.PendingOrder': WHATEVER THE INPUT: true; the input reads as it did. -/
def pendingOrderSpec : ChangeSpec := { name := "pendingOrder", fn := fun _ => fun
  | [d1, d2] => { results := [.lit (.bool true)], args := [d1, d2] }
  | _ => none }
def pendingOrderRow : OpenClaim := { program := "ytggbiklkigjegaa", sum := "bee9b5e0df893796aaf34b152c1889aa1f9682685104137598ae10dd6c5a6436", func := "seneschal/seneschallaw21.PendingOrder", spec := "pendingOrder", unfollowed := true, recurses := true, apart := false }
def PendingOrderSaid : Prop := pendingOrderRow.holds Try.pinned (OpenSpec.ofChange pendingOrderSpec)

/-- ITS FALSE NEIGHBOUR: 'it returns false'. Refute it at one input. -/
def pendingOrderWrong : ChangeSpec := { name := "pendingOrder", fn := fun _ => fun
  | [d1, d2] => { results := [.lit (.bool false)], args := [d1, d2] }
  | _ => none }
def PendingOrderWrongFalsely : Prop := pendingOrderRow.holds Try.pinned (OpenSpec.ofChange pendingOrderWrong)

/-- 'seneschallaw21.PendingApart': WHATEVER THE INPUT: true; the input reads as it did. -/
def pendingApartSpec : ChangeSpec := { name := "pendingApart", fn := fun _ => fun
  | [d1, d2, d3, d4] => { results := [.lit (.bool true)], args := [d1, d2, d3, d4] }
  | _ => none }
def pendingApartRow : OpenClaim := { program := "ytggbiklkigjegaa", sum := "bee9b5e0df893796aaf34b152c1889aa1f9682685104137598ae10dd6c5a6436", func := "seneschal/seneschallaw21.PendingApart", spec := "pendingApart", unfollowed := true, recurses := true, apart := false }
def PendingApartSaid : Prop := pendingApartRow.holds Try.pinned (OpenSpec.ofChange pendingApartSpec)

/-- ITS FALSE NEIGHBOUR: 'it returns false'. Refute it at one input. -/
def pendingApartWrong : ChangeSpec := { name := "pendingApart", fn := fun _ => fun
  | [d1, d2, d3, d4] => { results := [.lit (.bool false)], args := [d1, d2, d3, d4] }
  | _ => none }
def PendingApartWrongFalsely : Prop := pendingApartRow.holds Try.pinned (OpenSpec.ofChange pendingApartWrong)

/-- 'seneschallaw21.PendingLast': WHATEVER THE INPUT: true; the input reads as it did. -/
def pendingLastSpec : ChangeSpec := { name := "pendingLast", fn := fun _ => fun
  | [d1, d2, d3] => { results := [.lit (.bool true)], args := [d1, d2, d3] }
  | _ => none }
def pendingLastRow : OpenClaim := { program := "ytggbiklkigjegaa", sum := "bee9b5e0df893796aaf34b152c1889aa1f9682685104137598ae10dd6c5a6436", func := "seneschal/seneschallaw21.PendingLast", spec := "pendingLast", unfollowed := true, recurses := true, apart := false }
def PendingLastSaid : Prop := pendingLastRow.holds Try.pinned (OpenSpec.ofChange pendingLastSpec)

/-- ITS FALSE NEIGHBOUR: 'it returns false'. Refute it at one input. -/
def pendingLastWrong : ChangeSpec := { name := "pendingLast", fn := fun _ => fun
  | [d1, d2, d3] => { results := [.lit (.bool false)], args := [d1, d2, d3] }
  | _ => none }
def PendingLastWrongFalsely : Prop := pendingLastRow.holds Try.pinned (OpenSpec.ofChange pendingLastWrong)

/-- 'seneschallaw21.PendingFirst': WHATEVER THE INPUT: true; the input reads as it did. -/
def pendingFirstSpec : ChangeSpec := { name := "pendingFirst", fn := fun _ => fun
  | [d1, d2, d3] => { results := [.lit (.bool true)], args := [d1, d2, d3] }
  | _ => none }
def pendingFirstRow : OpenClaim := { program := "ytggbiklkigjegaa", sum := "bee9b5e0df893796aaf34b152c1889aa1f9682685104137598ae10dd6c5a6436", func := "seneschal/seneschallaw21.PendingFirst", spec := "pendingFirst", unfollowed := true, recurses := true, apart := false }
def PendingFirstSaid : Prop := pendingFirstRow.holds Try.pinned (OpenSpec.ofChange pendingFirstSpec)

/-- ITS FALSE NEIGHBOUR: 'it returns false'. Refute it at one input. -/
def pendingFirstWrong : ChangeSpec := { name := "pendingFirst", fn := fun _ => fun
  | [d1, d2, d3] => { results := [.lit (.bool false)], args := [d1, d2, d3] }
  | _ => none }
def PendingFirstWrongFalsely : Prop := pendingFirstRow.holds Try.pinned (OpenSpec.ofChange pendingFirstWrong)

/- THE SECOND FORM. 'bulk': how many values and letters a reading holds, each counted each time it is reached (what is shared counts as often as it is met; a slice's spare places count too). A statement '..UptoSaid' is the law's where the arguments, and the package variables that the reading takes, are together of bulk at most 1048576: NARROWER than '..Said'. Prove '..Said' where nothing that the law and all that it calls make is longer than what came in: it says more and counts as full. Else prove '..UptoSaid'. A law counts once. -/
mutual
def uptoBulk {H : Type} : DataW H → Nat
  | .lit (.string bytes) => bytes.length + 1
  | .lit _ => 1
  | .nil => 1
  | .ptr d => uptoBulk d + 1
  | .slice elems spare => uptoBulkAll elems + uptoBulkAll spare + 1
  | .agg parts => uptoBulkAll parts + 1
  | .iface _ d => uptoBulk d + 1
  | .map entries => uptoBulkEntries entries + 1
  | .held _ => 1
def uptoBulkAll {H : Type} : List (DataW H) → Nat
  | [] => 0
  | d :: r => uptoBulk d + uptoBulkAll r
def uptoBulkEntries {H : Type} : List (Lit × DataW H) → Nat
  | [] => 0
  | x :: r => uptoBulkEntry x + uptoBulkEntries r
def uptoBulkEntry {H : Type} : Lit × DataW H → Nat
  | (.string bytes, d) => bytes.length + uptoBulk d + 1
  | (_, d) => uptoBulk d + 1
 end
def uptoSmall : (H : Type) → List (DataW H) → Bool := fun _ ds => decide (uptoBulkAll ds ≤ 1048576)
def OpenSpec.upto (s : _root_.Go.ChangeSpec) : _root_.Go.OpenSpec := { _root_.Go.OpenSpec.ofChange s with cond := some uptoSmall }

/-- 'seneschallaw21.PendingNil', WHERE WHAT IT READS IS OF BULK AT MOST 1048576: true; the input reads as it did. -/
def pendingNilUptoRow : OpenClaim := { program := "ytggbiklkigjegaa", sum := "bee9b5e0df893796aaf34b152c1889aa1f9682685104137598ae10dd6c5a6436", func := "seneschal/seneschallaw21.PendingNil", spec := "pendingNil", unfollowed := true, recurses := true, apart := false, narrowed := true }
def PendingNilUptoSaid : Prop := pendingNilUptoRow.holds Try.pinned (OpenSpec.upto pendingNilSpec)

/-- 'seneschallaw21.PendingPlays', WHERE WHAT IT READS IS OF BULK AT MOST 1048576: true; the input reads as it did. -/
def pendingPlaysUptoRow : OpenClaim := { program := "ytggbiklkigjegaa", sum := "bee9b5e0df893796aaf34b152c1889aa1f9682685104137598ae10dd6c5a6436", func := "seneschal/seneschallaw21.PendingPlays", spec := "pendingPlays", unfollowed := true, recurses := true, apart := false, narrowed := true }
def PendingPlaysUptoSaid : Prop := pendingPlaysUptoRow.holds Try.pinned (OpenSpec.upto pendingPlaysSpec)

/-- 'seneschallaw21.PendingOrder', WHERE WHAT IT READS IS OF BULK AT MOST 1048576: true; the input reads as it did. -/
def pendingOrderUptoRow : OpenClaim := { program := "ytggbiklkigjegaa", sum := "bee9b5e0df893796aaf34b152c1889aa1f9682685104137598ae10dd6c5a6436", func := "seneschal/seneschallaw21.PendingOrder", spec := "pendingOrder", unfollowed := true, recurses := true, apart := false, narrowed := true }
def PendingOrderUptoSaid : Prop := pendingOrderUptoRow.holds Try.pinned (OpenSpec.upto pendingOrderSpec)

/-- 'seneschallaw21.PendingApart', WHERE WHAT IT READS IS OF BULK AT MOST 1048576: true; the input reads as it did. -/
def pendingApartUptoRow : OpenClaim := { program := "ytggbiklkigjegaa", sum := "bee9b5e0df893796aaf34b152c1889aa1f9682685104137598ae10dd6c5a6436", func := "seneschal/seneschallaw21.PendingApart", spec := "pendingApart", unfollowed := true, recurses := true, apart := false, narrowed := true }
def PendingApartUptoSaid : Prop := pendingApartUptoRow.holds Try.pinned (OpenSpec.upto pendingApartSpec)

/-- 'seneschallaw21.PendingLast', WHERE WHAT IT READS IS OF BULK AT MOST 1048576: true; the input reads as it did. -/
def pendingLastUptoRow : OpenClaim := { program := "ytggbiklkigjegaa", sum := "bee9b5e0df893796aaf34b152c1889aa1f9682685104137598ae10dd6c5a6436", func := "seneschal/seneschallaw21.PendingLast", spec := "pendingLast", unfollowed := true, recurses := true, apart := false, narrowed := true }
def PendingLastUptoSaid : Prop := pendingLastUptoRow.holds Try.pinned (OpenSpec.upto pendingLastSpec)

/-- 'seneschallaw21.PendingFirst', WHERE WHAT IT READS IS OF BULK AT MOST 1048576: true; the input reads as it did. -/
def pendingFirstUptoRow : OpenClaim := { program := "ytggbiklkigjegaa", sum := "bee9b5e0df893796aaf34b152c1889aa1f9682685104137598ae10dd6c5a6436", func := "seneschal/seneschallaw21.PendingFirst", spec := "pendingFirst", unfollowed := true, recurses := true, apart := false, narrowed := true }
def PendingFirstUptoSaid : Prop := pendingFirstUptoRow.holds Try.pinned (OpenSpec.upto pendingFirstSpec)

end Rows
end Go.Proofs.Ytggbiklkigjegaa
