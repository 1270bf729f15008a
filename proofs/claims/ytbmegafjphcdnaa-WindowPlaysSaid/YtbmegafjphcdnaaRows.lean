/-
  No cell of these rows narrows 'for every input' (looked for: loops, veiled, ifaces, maps, wideKeys, modest, calm, conditions, laid).
  DERIVED. THE GIVEN ROWS OF THIS SEAT. 6 by the template 'for every input the law returns true; each argument reads behind the call as it read before'; 0 by the template 'total and deterministic' (their statements: YtbmegafjphcdnaaTotals.lean).
  GIVEN WITH THE SEED: the statements are not yours to turn. If you find one false, say at which input.
  Laid BY PROGRAM, IN A SANDBOX (cutbox-rows.mjs): the forced cells as the released guide's own fill.sh prints them over the translation ed47320cfde2c3d1… (all of the seat's roots in one cut). By AI agents, Wed Nov 11 2026. No macro, syntax, notation, axiom, sorry.
-/
import Derived.Test.YtbmegafjphcdnaaChecked
import GoSem.Claim
import GoSem.ClaimJoined
import GoSem.ClaimMapViews
import Derived.JoinedTies
import Derived.KernelRfl
namespace Go.Proofs.Ytbmegafjphcdnaa
/- THE CELL 'sum', in the pinned program and in every row, IS THE sha256 OF THE DUMP (.gsa) THAT YtbmegafjphcdnaaProg.lean LOADS. Nothing in Lean hashes anything: it is a label: what it is worth is what the hold of that sum in a sandbox is worth. -/
noncomputable def Try.pinned : Pinned := { name := "ytbmegafjphcdnaa", sum := "ed47320cfde2c3d18df488fc9046355a2919cbe49d0ed4293d203d84d4a83a01", checked := Try.checked }
namespace Rows
def none {H : Type} : Left H := { results := [], args := [] }

/-- 'seneschallaw18.WindowOnce': WHATEVER THE INPUT: true; the input reads as it did. -/
def windowOnceSpec : ChangeSpec := { name := "windowOnce", fn := fun _ => fun
  | [d] => { results := [.lit (.bool true)], args := [d] }
  | _ => none }
def windowOnceRow : OpenClaim := { program := "ytbmegafjphcdnaa", sum := "ed47320cfde2c3d18df488fc9046355a2919cbe49d0ed4293d203d84d4a83a01", func := "seneschal/seneschallaw18.WindowOnce", spec := "windowOnce", apart := false }
def WindowOnceSaid : Prop := windowOnceRow.holds Try.pinned (OpenSpec.ofChange windowOnceSpec)

/-- ITS FALSE NEIGHBOUR: 'it returns false'. Refute it at one input. -/
def windowOnceWrong : ChangeSpec := { name := "windowOnce", fn := fun _ => fun
  | [d] => { results := [.lit (.bool false)], args := [d] }
  | _ => none }
def WindowOnceWrongFalsely : Prop := windowOnceRow.holds Try.pinned (OpenSpec.ofChange windowOnceWrong)

/-- 'seneschallaw18.WindowRises': WHATEVER THE INPUT: true; the input reads as it did. -/
def windowRisesSpec : ChangeSpec := { name := "windowRises", fn := fun _ => fun
  | [d1, d2] => { results := [.lit (.bool true)], args := [d1, d2] }
  | _ => none }
def windowRisesRow : OpenClaim := { program := "ytbmegafjphcdnaa", sum := "ed47320cfde2c3d18df488fc9046355a2919cbe49d0ed4293d203d84d4a83a01", func := "seneschal/seneschallaw18.WindowRises", spec := "windowRises", apart := false }
def WindowRisesSaid : Prop := windowRisesRow.holds Try.pinned (OpenSpec.ofChange windowRisesSpec)

/-- ITS FALSE NEIGHBOUR: 'it returns false'. Refute it at one input. -/
def windowRisesWrong : ChangeSpec := { name := "windowRises", fn := fun _ => fun
  | [d1, d2] => { results := [.lit (.bool false)], args := [d1, d2] }
  | _ => none }
def WindowRisesWrongFalsely : Prop := windowRisesRow.holds Try.pinned (OpenSpec.ofChange windowRisesWrong)

/-- 'seneschallaw18.WindowAny': WHATEVER THE INPUT: true; the input reads as it did. -/
def windowAnySpec : ChangeSpec := { name := "windowAny", fn := fun _ => fun
  | [d1, d2, d3] => { results := [.lit (.bool true)], args := [d1, d2, d3] }
  | _ => none }
def windowAnyRow : OpenClaim := { program := "ytbmegafjphcdnaa", sum := "ed47320cfde2c3d18df488fc9046355a2919cbe49d0ed4293d203d84d4a83a01", func := "seneschal/seneschallaw18.WindowAny", spec := "windowAny", apart := false }
def WindowAnySaid : Prop := windowAnyRow.holds Try.pinned (OpenSpec.ofChange windowAnySpec)

/-- ITS FALSE NEIGHBOUR: 'it returns false'. Refute it at one input. -/
def windowAnyWrong : ChangeSpec := { name := "windowAny", fn := fun _ => fun
  | [d1, d2, d3] => { results := [.lit (.bool false)], args := [d1, d2, d3] }
  | _ => none }
def WindowAnyWrongFalsely : Prop := windowAnyRow.holds Try.pinned (OpenSpec.ofChange windowAnyWrong)

/-- 'seneschallaw18.WindowBoots': WHATEVER THE INPUT: true; the input reads as it did. -/
def windowBootsSpec : ChangeSpec := { name := "windowBoots", fn := fun _ => fun
  | [d1, d2, d3, d4] => { results := [.lit (.bool true)], args := [d1, d2, d3, d4] }
  | _ => none }
def windowBootsRow : OpenClaim := { program := "ytbmegafjphcdnaa", sum := "ed47320cfde2c3d18df488fc9046355a2919cbe49d0ed4293d203d84d4a83a01", func := "seneschal/seneschallaw18.WindowBoots", spec := "windowBoots", apart := false }
def WindowBootsSaid : Prop := windowBootsRow.holds Try.pinned (OpenSpec.ofChange windowBootsSpec)

/-- ITS FALSE NEIGHBOUR: 'it returns false'. Refute it at one input. -/
def windowBootsWrong : ChangeSpec := { name := "windowBoots", fn := fun _ => fun
  | [d1, d2, d3, d4] => { results := [.lit (.bool false)], args := [d1, d2, d3, d4] }
  | _ => none }
def WindowBootsWrongFalsely : Prop := windowBootsRow.holds Try.pinned (OpenSpec.ofChange windowBootsWrong)

/-- 'seneschallaw18.WindowNil': WHATEVER THE INPUT: true; the input reads as it did. -/
def windowNilSpec : ChangeSpec := { name := "windowNil", fn := fun _ => fun
  | [d] => { results := [.lit (.bool true)], args := [d] }
  | _ => none }
def windowNilRow : OpenClaim := { program := "ytbmegafjphcdnaa", sum := "ed47320cfde2c3d18df488fc9046355a2919cbe49d0ed4293d203d84d4a83a01", func := "seneschal/seneschallaw18.WindowNil", spec := "windowNil", apart := false }
def WindowNilSaid : Prop := windowNilRow.holds Try.pinned (OpenSpec.ofChange windowNilSpec)

/-- ITS FALSE NEIGHBOUR: 'it returns false'. Refute it at one input. -/
def windowNilWrong : ChangeSpec := { name := "windowNil", fn := fun _ => fun
  | [d] => { results := [.lit (.bool false)], args := [d] }
  | _ => none }
def WindowNilWrongFalsely : Prop := windowNilRow.holds Try.pinned (OpenSpec.ofChange windowNilWrong)

/-- 'seneschallaw18.WindowPlays': WHATEVER THE INPUT: true; the input reads as it did. -/
def windowPlaysSpec : ChangeSpec := { name := "windowPlays", fn := fun _ => fun
  | [d] => { results := [.lit (.bool true)], args := [d] }
  | _ => none }
def windowPlaysRow : OpenClaim := { program := "ytbmegafjphcdnaa", sum := "ed47320cfde2c3d18df488fc9046355a2919cbe49d0ed4293d203d84d4a83a01", func := "seneschal/seneschallaw18.WindowPlays", spec := "windowPlays", apart := false }
def WindowPlaysSaid : Prop := windowPlaysRow.holds Try.pinned (OpenSpec.ofChange windowPlaysSpec)

/-- ITS FALSE NEIGHBOUR: 'it returns false'. Refute it at one input. -/
def windowPlaysWrong : ChangeSpec := { name := "windowPlays", fn := fun _ => fun
  | [d] => { results := [.lit (.bool false)], args := [d] }
  | _ => none }
def WindowPlaysWrongFalsely : Prop := windowPlaysRow.holds Try.pinned (OpenSpec.ofChange windowPlaysWrong)

/- THE SECOND FORM. 'bulk': how many values and letters a reading holds, each counted each time it is reached (what is shared counts as often as it is met; a slice's spare places count too). A statement '..UptoSaid' is the law's where the arguments, and the package variables that the reading takes, are together of bulk at most 1048576: NARROWER than '..Said'. Prove '..Said' where nothing that the law and all that it calls make is longer than what came in: it says more and counts as full. Else prove '..UptoSaid'. A law counts once. -/
mutual
def uptoBulk {H : Type} : DataW H → Nat
  | .lit (.string bytes) => bytes.length + 1
  | .lit _ => 1
  | .nil => 1
  | .ptr d => uptoBulk d + 1
  | .slice elems spare => uptoBulkAll elems + uptoBulkAll spare + 1
  | .agg parts => uptoBulkAll parts + 1
  | .iface _ d => uptoBulk d + 1
  | .map entries => uptoBulkEntries entries + 1
  | .held _ => 1
def uptoBulkAll {H : Type} : List (DataW H) → Nat
  | [] => 0
  | d :: r => uptoBulk d + uptoBulkAll r
def uptoBulkEntries {H : Type} : List (Lit × DataW H) → Nat
  | [] => 0
  | x :: r => uptoBulkEntry x + uptoBulkEntries r
def uptoBulkEntry {H : Type} : Lit × DataW H → Nat
  | (.string bytes, d) => bytes.length + uptoBulk d + 1
  | (_, d) => uptoBulk d + 1
 end
def uptoSmall : (H : Type) → List (DataW H) → Bool := fun _ ds => decide (uptoBulkAll ds ≤ 1048576)
def OpenSpec.upto (s : _root_.Go.ChangeSpec) : _root_.Go.OpenSpec := { _root_.Go.OpenSpec.ofChange s with cond := some uptoSmall }

/-- 'seneschallaw18.WindowOnce', WHERE WHAT IT READS IS OF BULK AT MOST 1048576: true; the input reads as it did. -/
def windowOnceUptoRow : OpenClaim := { program := "ytbmegafjphcdnaa", sum := "ed47320cfde2c3d18df488fc9046355a2919cbe49d0ed4293d203d84d4a83a01", func := "seneschal/seneschallaw18.WindowOnce", spec := "windowOnce", apart := false, narrowed := true }
def WindowOnceUptoSaid : Prop := windowOnceUptoRow.holds Try.pinned (OpenSpec.upto windowOnceSpec)

/-- 'seneschallaw18.WindowRises', WHERE WHAT IT READS IS OF BULK AT MOST 1048576: true; the input reads as it did. -/
def windowRisesUptoRow : OpenClaim := { program := "ytbmegafjphcdnaa", sum := "ed47320cfde2c3d18df488fc9046355a2919cbe49d0ed4293d203d84d4a83a01", func := "seneschal/seneschallaw18.WindowRises", spec := "windowRises", apart := false, narrowed := true }
def WindowRisesUptoSaid : Prop := windowRisesUptoRow.holds Try.pinned (OpenSpec.upto windowRisesSpec)

/-- 'seneschallaw18.WindowAny', WHERE WHAT IT READS IS OF BULK AT MOST 1048576: true; the input reads as it did. -/
def windowAnyUptoRow : OpenClaim := { program := "ytbmegafjphcdnaa", sum := "ed47320cfde2c3d18df488fc9046355a2919cbe49d0ed4293d203d84d4a83a01", func := "seneschal/seneschallaw18.WindowAny", spec := "windowAny", apart := false, narrowed := true }
def WindowAnyUptoSaid : Prop := windowAnyUptoRow.holds Try.pinned (OpenSpec.upto windowAnySpec)

/-- 'seneschallaw18.WindowBoots', WHERE WHAT IT READS IS OF BULK AT MOST 1048576: true; the input reads as it did. -/
def windowBootsUptoRow : OpenClaim := { program := "ytbmegafjphcdnaa", sum := "ed47320cfde2c3d18df488fc9046355a2919cbe49d0ed4293d203d84d4a83a01", func := "seneschal/seneschallaw18.WindowBoots", spec := "windowBoots", apart := false, narrowed := true }
def WindowBootsUptoSaid : Prop := windowBootsUptoRow.holds Try.pinned (OpenSpec.upto windowBootsSpec)

/-- 'seneschallaw18.WindowNil', WHERE WHAT IT READS IS OF BULK AT MOST 1048576: true; the input reads as it did. -/
def windowNilUptoRow : OpenClaim := { program := "ytbmegafjphcdnaa", sum := "ed47320cfde2c3d18df488fc9046355a2919cbe49d0ed4293d203d84d4a83a01", func := "seneschal/seneschallaw18.WindowNil", spec := "windowNil", apart := false, narrowed := true }
def WindowNilUptoSaid : Prop := windowNilUptoRow.holds Try.pinned (OpenSpec.upto windowNilSpec)

/-- 'seneschallaw18.WindowPlays', WHERE WHAT IT READS IS OF BULK AT MOST 1048576: true; the input reads as it did. -/
def windowPlaysUptoRow : OpenClaim := { program := "ytbmegafjphcdnaa", sum := "ed47320cfde2c3d18df488fc9046355a2919cbe49d0ed4293d203d84d4a83a01", func := "seneschal/seneschallaw18.WindowPlays", spec := "windowPlays", apart := false, narrowed := true }
def WindowPlaysUptoSaid : Prop := windowPlaysUptoRow.holds Try.pinned (OpenSpec.upto windowPlaysSpec)

end Rows
end Go.Proofs.Ytbmegafjphcdnaa
