/-
  No cell of these rows narrows 'for every input' (looked for: loops, veiled, ifaces, maps, wideKeys, modest, calm, conditions, laid).
  DERIVED. THE GIVEN ROWS OF THIS SEAT. 7 by the template 'for every input the law returns true; each argument reads behind the call as it read before'; 0 by the template 'total and deterministic' (their statements: YtegaejbfhpigjaaTotals.lean).
  GIVEN WITH THE SEED: the statements are not yours to turn. If you find one false, say at which input.
  Laid BY PROGRAM, IN A SANDBOX (cutbox-rows.mjs): the forced cells as the released guide's own fill.sh prints them over the translation c413072d510c7772… (all of the seat's roots in one cut). By AI agents, Wed Nov 11 2026. No macro, syntax, notation, axiom, sorry.
-/
import Derived.Test.YtegaejbfhpigjaaChecked
import GoSem.Claim
import GoSem.ClaimJoined
import GoSem.ClaimMapViews
import Derived.JoinedTies
import Derived.KernelRfl
namespace Go.Proofs.Ytegaejbfhpigjaa
/- THE CELL 'sum', in the pinned program and in every row, IS THE sha256 OF THE DUMP (.gsa) THAT YtegaejbfhpigjaaProg.lean LOADS. Nothing in Lean hashes anything: it is a label: what it is worth is what the hold of that sum in a sandbox is worth. -/
noncomputable def Try.pinned : Pinned := { name := "ytegaejbfhpigjaa", sum := "c413072d510c7772d8878b77aafee8a81297265bc1b0117b54b333d5824b9476", checked := Try.checked }
namespace Rows
def none {H : Type} : Left H := { results := [], args := [] }

/-- 'seneschallaw23.LogBegins': WHATEVER THE INPUT: true; the input reads as it did. -/
def logBeginsSpec : ChangeSpec := { name := "logBegins", fn := fun _ => fun
  | [d1, d2] => { results := [.lit (.bool true)], args := [d1, d2] }
  | _ => none }
def logBeginsRow : OpenClaim := { program := "ytegaejbfhpigjaa", sum := "c413072d510c7772d8878b77aafee8a81297265bc1b0117b54b333d5824b9476", func := "seneschal/seneschallaw23.LogBegins", spec := "logBegins", unfollowed := true, recurses := true, apart := false }
def LogBeginsSaid : Prop := logBeginsRow.holds Try.pinned (OpenSpec.ofChange logBeginsSpec)

/-- ITS FALSE NEIGHBOUR: 'it returns false'. Refute it at one input. -/
def logBeginsWrong : ChangeSpec := { name := "logBegins", fn := fun _ => fun
  | [d1, d2] => { results := [.lit (.bool false)], args := [d1, d2] }
  | _ => none }
def LogBeginsWrongFalsely : Prop := logBeginsRow.holds Try.pinned (OpenSpec.ofChange logBeginsWrong)

/-- 'seneschallaw23.LogPlays': WHATEVER THE INPUT: true; the input reads as it did. -/
def logPlaysSpec : ChangeSpec := { name := "logPlays", fn := fun _ => fun
  | [d] => { results := [.lit (.bool true)], args := [d] }
  | _ => none }
def logPlaysRow : OpenClaim := { program := "ytegaejbfhpigjaa", sum := "c413072d510c7772d8878b77aafee8a81297265bc1b0117b54b333d5824b9476", func := "seneschal/seneschallaw23.LogPlays", spec := "logPlays", unfollowed := true, recurses := true, apart := false }
def LogPlaysSaid : Prop := logPlaysRow.holds Try.pinned (OpenSpec.ofChange logPlaysSpec)

/-- ITS FALSE NEIGHBOUR: 'it returns false'. Refute it at one input. -/
def logPlaysWrong : ChangeSpec := { name := "logPlays", fn := fun _ => fun
  | [d] => { results := [.lit (.bool false)], args := [d] }
  | _ => none }
def LogPlaysWrongFalsely : Prop := logPlaysRow.holds Try.pinned (OpenSpec.ofChange logPlaysWrong)

/-- 'seneschallaw23.LogAsks': WHATEVER THE INPUT: true; the input reads as it did. -/
def logAsksSpec : ChangeSpec := { name := "logAsks", fn := fun _ => fun
  | [d1, d2, d3, d4, d5] => { results := [.lit (.bool true)], args := [d1, d2, d3, d4, d5] }
  | _ => none }
def logAsksRow : OpenClaim := { program := "ytegaejbfhpigjaa", sum := "c413072d510c7772d8878b77aafee8a81297265bc1b0117b54b333d5824b9476", func := "seneschal/seneschallaw23.LogAsks", spec := "logAsks", unfollowed := true, recurses := true, apart := false }
def LogAsksSaid : Prop := logAsksRow.holds Try.pinned (OpenSpec.ofChange logAsksSpec)

/-- ITS FALSE NEIGHBOUR: 'it returns false'. Refute it at one input. -/
def logAsksWrong : ChangeSpec := { name := "logAsks", fn := fun _ => fun
  | [d1, d2, d3, d4, d5] => { results := [.lit (.bool false)], args := [d1, d2, d3, d4, d5] }
  | _ => none }
def LogAsksWrongFalsely : Prop := logAsksRow.holds Try.pinned (OpenSpec.ofChange logAsksWrong)

/-- 'seneschallaw23.LogPieces': WHATEVER THE INPUT: true; the input reads as it did. -/
def logPiecesSpec : ChangeSpec := { name := "logPieces", fn := fun _ => fun
  | [d1, d2] => { results := [.lit (.bool true)], args := [d1, d2] }
  | _ => none }
def logPiecesRow : OpenClaim := { program := "ytegaejbfhpigjaa", sum := "c413072d510c7772d8878b77aafee8a81297265bc1b0117b54b333d5824b9476", func := "seneschal/seneschallaw23.LogPieces", spec := "logPieces", unfollowed := true, recurses := true, apart := false }
def LogPiecesSaid : Prop := logPiecesRow.holds Try.pinned (OpenSpec.ofChange logPiecesSpec)

/-- ITS FALSE NEIGHBOUR: 'it returns false'. Refute it at one input. -/
def logPiecesWrong : ChangeSpec := { name := "logPieces", fn := fun _ => fun
  | [d1, d2] => { results := [.lit (.bool false)], args := [d1, d2] }
  | _ => none }
def LogPiecesWrongFalsely : Prop := logPiecesRow.holds Try.pinned (OpenSpec.ofChange logPiecesWrong)

/-- 'seneschallaw23.LogNil': WHATEVER THE INPUT: true; the input reads as it did. -/
def logNilSpec : ChangeSpec := { name := "logNil", fn := fun _ => fun
  | [d] => { results := [.lit (.bool true)], args := [d] }
  | _ => none }
def logNilRow : OpenClaim := { program := "ytegaejbfhpigjaa", sum := "c413072d510c7772d8878b77aafee8a81297265bc1b0117b54b333d5824b9476", func := "seneschal/seneschallaw23.LogNil", spec := "logNil", unfollowed := true, recurses := true, apart := false }
def LogNilSaid : Prop := logNilRow.holds Try.pinned (OpenSpec.ofChange logNilSpec)

/-- ITS FALSE NEIGHBOUR: 'it returns false'. Refute it at one input. -/
def logNilWrong : ChangeSpec := { name := "logNil", fn := fun _ => fun
  | [d] => { results := [.lit (.bool false)], args := [d] }
  | _ => none }
def LogNilWrongFalsely : Prop := logNilRow.holds Try.pinned (OpenSpec.ofChange logNilWrong)

/-- 'seneschallaw23.LogHas': WHATEVER THE INPUT: true; the input reads as it did. -/
def logHasSpec : ChangeSpec := { name := "logHas", fn := fun _ => fun
  | [d1, d2, d3, d4] => { results := [.lit (.bool true)], args := [d1, d2, d3, d4] }
  | _ => none }
def logHasRow : OpenClaim := { program := "ytegaejbfhpigjaa", sum := "c413072d510c7772d8878b77aafee8a81297265bc1b0117b54b333d5824b9476", func := "seneschal/seneschallaw23.LogHas", spec := "logHas", unfollowed := true, recurses := true, apart := false }
def LogHasSaid : Prop := logHasRow.holds Try.pinned (OpenSpec.ofChange logHasSpec)

/-- ITS FALSE NEIGHBOUR: 'it returns false'. Refute it at one input. -/
def logHasWrong : ChangeSpec := { name := "logHas", fn := fun _ => fun
  | [d1, d2, d3, d4] => { results := [.lit (.bool false)], args := [d1, d2, d3, d4] }
  | _ => none }
def LogHasWrongFalsely : Prop := logHasRow.holds Try.pinned (OpenSpec.ofChange logHasWrong)

/-- 'seneschallaw23.LogPlaces': WHATEVER THE INPUT: true; the input reads as it did. -/
def logPlacesSpec : ChangeSpec := { name := "logPlaces", fn := fun _ => fun
  | [d] => { results := [.lit (.bool true)], args := [d] }
  | _ => none }
def logPlacesRow : OpenClaim := { program := "ytegaejbfhpigjaa", sum := "c413072d510c7772d8878b77aafee8a81297265bc1b0117b54b333d5824b9476", func := "seneschal/seneschallaw23.LogPlaces", spec := "logPlaces", unfollowed := true, recurses := true, apart := false }
def LogPlacesSaid : Prop := logPlacesRow.holds Try.pinned (OpenSpec.ofChange logPlacesSpec)

/-- ITS FALSE NEIGHBOUR: 'it returns false'. Refute it at one input. -/
def logPlacesWrong : ChangeSpec := { name := "logPlaces", fn := fun _ => fun
  | [d] => { results := [.lit (.bool false)], args := [d] }
  | _ => none }
def LogPlacesWrongFalsely : Prop := logPlacesRow.holds Try.pinned (OpenSpec.ofChange logPlacesWrong)

/- THE SECOND FORM. 'bulk': how many values and letters a reading holds, each counted each time it is reached (what is shared counts as often as it is met; a slice's spare places count too). A statement '..UptoSaid' is the law's where the arguments, and the package variables that the reading takes, are together of bulk at most 1048576: NARROWER than '..Said'. Prove '..Said' where nothing that the law and all that it calls make is longer than what came in: it says more and counts as full. Else prove '..UptoSaid'. A law counts once. -/
mutual
def uptoBulk {H : Type} : DataW H → Nat
  | .lit (.string bytes) => bytes.length + 1
  | .lit _ => 1
  | .nil => 1
  | .ptr d => uptoBulk d + 1
  | .slice elems spare => uptoBulkAll elems + uptoBulkAll spare + 1
  | .agg parts => uptoBulkAll parts + 1
  | .iface _ d => uptoBulk d + 1
  | .map entries => uptoBulkEntries entries + 1
  | .held _ => 1
def uptoBulkAll {H : Type} : List (DataW H) → Nat
  | [] => 0
  | d :: r => uptoBulk d + uptoBulkAll r
def uptoBulkEntries {H : Type} : List (Lit × DataW H) → Nat
  | [] => 0
  | x :: r => uptoBulkEntry x + uptoBulkEntries r
def uptoBulkEntry {H : Type} : Lit × DataW H → Nat
  | (.string bytes, d) => bytes.length + uptoBulk d + 1
  | (_, d) => uptoBulk d + 1
 end
def uptoSmall : (H : Type) → List (DataW H) → Bool := fun _ ds => decide (uptoBulkAll ds ≤ 1048576)
def OpenSpec.upto (s : _root_.Go.ChangeSpec) : _root_.Go.OpenSpec := { _root_.Go.OpenSpec.ofChange s with cond := some uptoSmall }

/-- 'seneschallaw23.LogBegins', WHERE WHAT IT READS IS OF BULK AT MOST 1048576: true; the input reads as it did. -/
def logBeginsUptoRow : OpenClaim := { program := "ytegaejbfhpigjaa", sum := "c413072d510c7772d8878b77aafee8a81297265bc1b0117b54b333d5824b9476", func := "seneschal/seneschallaw23.LogBegins", spec := "logBegins", unfollowed := true, recurses := true, apart := false, narrowed := true }
def LogBeginsUptoSaid : Prop := logBeginsUptoRow.holds Try.pinned (OpenSpec.upto logBeginsSpec)

/-- 'seneschallaw23.LogPlays', WHERE WHAT IT READS IS OF BULK AT MOST 1048576: true; the input reads as it did. -/
def logPlaysUptoRow : OpenClaim := { program := "ytegaejbfhpigjaa", sum := "c413072d510c7772d8878b77aafee8a81297265bc1b0117b54b333d5824b9476", func := "seneschal/seneschallaw23.LogPlays", spec := "logPlays", unfollowed := true, recurses := true, apart := false, narrowed := true }
def LogPlaysUptoSaid : Prop := logPlaysUptoRow.holds Try.pinned (OpenSpec.upto logPlaysSpec)

/-- 'seneschallaw23.LogAsks', WHERE WHAT IT READS IS OF BULK AT MOST 1048576: true; the input reads as it did. -/
def logAsksUptoRow : OpenClaim := { program := "ytegaejbfhpigjaa", sum := "c413072d510c7772d8878b77aafee8a81297265bc1b0117b54b333d5824b9476", func := "seneschal/seneschallaw23.LogAsks", spec := "logAsks", unfollowed := true, recurses := true, apart := false, narrowed := true }
def LogAsksUptoSaid : Prop := logAsksUptoRow.holds Try.pinned (OpenSpec.upto logAsksSpec)

/-- 'seneschallaw23.LogPieces', WHERE WHAT IT READS IS OF BULK AT MOST 1048576: true; the input reads as it did. -/
def logPiecesUptoRow : OpenClaim := { program := "ytegaejbfhpigjaa", sum := "c413072d510c7772d8878b77aafee8a81297265bc1b0117b54b333d5824b9476", func := "seneschal/seneschallaw23.LogPieces", spec := "logPieces", unfollowed := true, recurses := true, apart := false, narrowed := true }
def LogPiecesUptoSaid : Prop := logPiecesUptoRow.holds Try.pinned (OpenSpec.upto logPiecesSpec)

/-- 'seneschallaw23.LogNil', WHERE WHAT IT READS IS OF BULK AT MOST 1048576: true; the input reads as it did. -/
def logNilUptoRow : OpenClaim := { program := "ytegaejbfhpigjaa", sum := "c413072d510c7772d8878b77aafee8a81297265bc1b0117b54b333d5824b9476", func := "seneschal/seneschallaw23.LogNil", spec := "logNil", unfollowed := true, recurses := true, apart := false, narrowed := true }
def LogNilUptoSaid : Prop := logNilUptoRow.holds Try.pinned (OpenSpec.upto logNilSpec)

/-- 'seneschallaw23.LogHas', WHERE WHAT IT READS IS OF BULK AT MOST 1048576: true; the input reads as it did. -/
def logHasUptoRow : OpenClaim := { program := "ytegaejbfhpigjaa", sum := "c413072d510c7772d8878b77aafee8a81297265bc1b0117b54b333d5824b9476", func := "seneschal/seneschallaw23.LogHas", spec := "logHas", unfollowed := true, recurses := true, apart := false, narrowed := true }
def LogHasUptoSaid : Prop := logHasUptoRow.holds Try.pinned (OpenSpec.upto logHasSpec)

/-- 'seneschallaw23.LogPlaces', WHERE WHAT IT READS IS OF BULK AT MOST 1048576: true; the input reads as it did. -/
def logPlacesUptoRow : OpenClaim := { program := "ytegaejbfhpigjaa", sum := "c413072d510c7772d8878b77aafee8a81297265bc1b0117b54b333d5824b9476", func := "seneschal/seneschallaw23.LogPlaces", spec := "logPlaces", unfollowed := true, recurses := true, apart := false, narrowed := true }
def LogPlacesUptoSaid : Prop := logPlacesUptoRow.holds Try.pinned (OpenSpec.upto logPlacesSpec)

end Rows
end Go.Proofs.Ytegaejbfhpigjaa
