/-
  No cell of these rows narrows 'for every input' (looked for: loops, veiled, ifaces, maps, wideKeys, modest, calm, conditions, laid).
  DERIVED. THE GIVEN ROWS OF THIS SEAT. 6 by the template 'for every input the law returns true; each argument reads behind the call as it read before'; 0 by the template 'total and deterministic' (their statements: YtimmabejfigleaaTotals.lean).
  GIVEN WITH THE SEED: the statements are not yours to turn. If you find one false, say at which input.
  Laid BY PROGRAM, IN A SANDBOX (cutbox-rows.mjs): the forced cells as the released guide's own fill.sh prints them over the translation c28662b372bdb4e6… (all of the seat's roots in one cut). By AI agents, Wed Nov 11 2026. No macro, syntax, notation, axiom, sorry.
-/
import Derived.Test.YtimmabejfigleaaChecked
import GoSem.Claim
import GoSem.ClaimJoined
import GoSem.ClaimMapViews
import Derived.JoinedTies
import Derived.KernelRfl
namespace Go.Proofs.Ytimmabejfigleaa
/- THE CELL 'sum', in the pinned program and in every row, IS THE sha256 OF THE DUMP (.gsa) THAT YtimmabejfigleaaProg.lean LOADS. Nothing in Lean hashes anything: it is a label: what it is worth is what the hold of that sum in a sandbox is worth. -/
noncomputable def Try.pinned : Pinned := { name := "ytimmabejfigleaa", sum := "c28662b372bdb4e6e3051893c7947781bb13ce241df6c7e461f0f666aceacb7e", checked := Try.checked }
namespace Rows
def none {H : Type} : Left H := { results := [], args := [] }

/-- 'seneschallaw11.SpaceTells': WHATEVER THE INPUT: true; the input reads as it did. -/
def spaceTellsSpec : ChangeSpec := { name := "spaceTells", fn := fun _ => fun
  | [d1, d2] => { results := [.lit (.bool true)], args := [d1, d2] }
  | _ => none }
def spaceTellsRow : OpenClaim := { program := "ytimmabejfigleaa", sum := "c28662b372bdb4e6e3051893c7947781bb13ce241df6c7e461f0f666aceacb7e", func := "seneschal/seneschallaw11.SpaceTells", spec := "spaceTells", unfollowed := true, recurses := true, apart := false }
def SpaceTellsSaid : Prop := spaceTellsRow.holds Try.pinned (OpenSpec.ofChange spaceTellsSpec)

/-- ITS FALSE NEIGHBOUR: 'it returns false'. Refute it at one input. -/
def spaceTellsWrong : ChangeSpec := { name := "spaceTells", fn := fun _ => fun
  | [d1, d2] => { results := [.lit (.bool false)], args := [d1, d2] }
  | _ => none }
def SpaceTellsWrongFalsely : Prop := spaceTellsRow.holds Try.pinned (OpenSpec.ofChange spaceTellsWrong)

/-- 'seneschallaw11.SpaceLimits': WHATEVER THE INPUT: true; the input reads as it did. -/
def spaceLimitsSpec : ChangeSpec := { name := "spaceLimits", fn := fun _ => fun
  | [d1, d2, d3] => { results := [.lit (.bool true)], args := [d1, d2, d3] }
  | _ => none }
def spaceLimitsRow : OpenClaim := { program := "ytimmabejfigleaa", sum := "c28662b372bdb4e6e3051893c7947781bb13ce241df6c7e461f0f666aceacb7e", func := "seneschal/seneschallaw11.SpaceLimits", spec := "spaceLimits", unfollowed := true, recurses := true, apart := false }
def SpaceLimitsSaid : Prop := spaceLimitsRow.holds Try.pinned (OpenSpec.ofChange spaceLimitsSpec)

/-- ITS FALSE NEIGHBOUR: 'it returns false'. Refute it at one input. -/
def spaceLimitsWrong : ChangeSpec := { name := "spaceLimits", fn := fun _ => fun
  | [d1, d2, d3] => { results := [.lit (.bool false)], args := [d1, d2, d3] }
  | _ => none }
def SpaceLimitsWrongFalsely : Prop := spaceLimitsRow.holds Try.pinned (OpenSpec.ofChange spaceLimitsWrong)

/-- 'seneschallaw11.SpaceDoes': WHATEVER THE INPUT: true; the input reads as it did. -/
def spaceDoesSpec : ChangeSpec := { name := "spaceDoes", fn := fun _ => fun
  | [d1, d2, d3, d4, d5] => { results := [.lit (.bool true)], args := [d1, d2, d3, d4, d5] }
  | _ => none }
def spaceDoesRow : OpenClaim := { program := "ytimmabejfigleaa", sum := "c28662b372bdb4e6e3051893c7947781bb13ce241df6c7e461f0f666aceacb7e", func := "seneschal/seneschallaw11.SpaceDoes", spec := "spaceDoes", unfollowed := true, recurses := true, apart := false }
def SpaceDoesSaid : Prop := spaceDoesRow.holds Try.pinned (OpenSpec.ofChange spaceDoesSpec)

/-- ITS FALSE NEIGHBOUR: 'it returns false'. Refute it at one input. -/
def spaceDoesWrong : ChangeSpec := { name := "spaceDoes", fn := fun _ => fun
  | [d1, d2, d3, d4, d5] => { results := [.lit (.bool false)], args := [d1, d2, d3, d4, d5] }
  | _ => none }
def SpaceDoesWrongFalsely : Prop := spaceDoesRow.holds Try.pinned (OpenSpec.ofChange spaceDoesWrong)

/-- 'seneschallaw11.SpaceOne': WHATEVER THE INPUT: true; the input reads as it did. -/
def spaceOneSpec : ChangeSpec := { name := "spaceOne", fn := fun _ => fun
  | [d1, d2, d3, d4, d5] => { results := [.lit (.bool true)], args := [d1, d2, d3, d4, d5] }
  | _ => none }
def spaceOneRow : OpenClaim := { program := "ytimmabejfigleaa", sum := "c28662b372bdb4e6e3051893c7947781bb13ce241df6c7e461f0f666aceacb7e", func := "seneschal/seneschallaw11.SpaceOne", spec := "spaceOne", unfollowed := true, recurses := true, apart := false }
def SpaceOneSaid : Prop := spaceOneRow.holds Try.pinned (OpenSpec.ofChange spaceOneSpec)

/-- ITS FALSE NEIGHBOUR: 'it returns false'. Refute it at one input. -/
def spaceOneWrong : ChangeSpec := { name := "spaceOne", fn := fun _ => fun
  | [d1, d2, d3, d4, d5] => { results := [.lit (.bool false)], args := [d1, d2, d3, d4, d5] }
  | _ => none }
def SpaceOneWrongFalsely : Prop := spaceOneRow.holds Try.pinned (OpenSpec.ofChange spaceOneWrong)

/-- 'seneschallaw11.SpaceLooks': WHATEVER THE INPUT: true; the input reads as it did. -/
def spaceLooksSpec : ChangeSpec := { name := "spaceLooks", fn := fun _ => fun
  | [d1, d2, d3, d4] => { results := [.lit (.bool true)], args := [d1, d2, d3, d4] }
  | _ => none }
def spaceLooksRow : OpenClaim := { program := "ytimmabejfigleaa", sum := "c28662b372bdb4e6e3051893c7947781bb13ce241df6c7e461f0f666aceacb7e", func := "seneschal/seneschallaw11.SpaceLooks", spec := "spaceLooks", unfollowed := true, recurses := true, apart := false }
def SpaceLooksSaid : Prop := spaceLooksRow.holds Try.pinned (OpenSpec.ofChange spaceLooksSpec)

/-- ITS FALSE NEIGHBOUR: 'it returns false'. Refute it at one input. -/
def spaceLooksWrong : ChangeSpec := { name := "spaceLooks", fn := fun _ => fun
  | [d1, d2, d3, d4] => { results := [.lit (.bool false)], args := [d1, d2, d3, d4] }
  | _ => none }
def SpaceLooksWrongFalsely : Prop := spaceLooksRow.holds Try.pinned (OpenSpec.ofChange spaceLooksWrong)

/-- 'seneschallaw11.SpaceOrder': WHATEVER THE INPUT: true; the input reads as it did. -/
def spaceOrderSpec : ChangeSpec := { name := "spaceOrder", fn := fun _ => fun
  | [d1, d2, d3, d4, d5] => { results := [.lit (.bool true)], args := [d1, d2, d3, d4, d5] }
  | _ => none }
def spaceOrderRow : OpenClaim := { program := "ytimmabejfigleaa", sum := "c28662b372bdb4e6e3051893c7947781bb13ce241df6c7e461f0f666aceacb7e", func := "seneschal/seneschallaw11.SpaceOrder", spec := "spaceOrder", unfollowed := true, recurses := true, apart := false }
def SpaceOrderSaid : Prop := spaceOrderRow.holds Try.pinned (OpenSpec.ofChange spaceOrderSpec)

/-- ITS FALSE NEIGHBOUR: 'it returns false'. Refute it at one input. -/
def spaceOrderWrong : ChangeSpec := { name := "spaceOrder", fn := fun _ => fun
  | [d1, d2, d3, d4, d5] => { results := [.lit (.bool false)], args := [d1, d2, d3, d4, d5] }
  | _ => none }
def SpaceOrderWrongFalsely : Prop := spaceOrderRow.holds Try.pinned (OpenSpec.ofChange spaceOrderWrong)

/- THE SECOND FORM. 'bulk': how many values and letters a reading holds, each counted each time it is reached (what is shared counts as often as it is met; a slice's spare places count too). A statement '..UptoSaid' is the law's where the arguments, and the package variables that the reading takes, are together of bulk at most 1048576: NARROWER than '..Said'. Prove '..Said' where nothing that the law and all that it calls make is longer than what came in: it says more and counts as full. Else prove '..UptoSaid'. A law counts once. -/
mutual
def uptoBulk {H : Type} : DataW H → Nat
  | .lit (.string bytes) => bytes.length + 1
  | .lit _ => 1
  | .nil => 1
  | .ptr d => uptoBulk d + 1
  | .slice elems spare => uptoBulkAll elems + uptoBulkAll spare + 1
  | .agg parts => uptoBulkAll parts + 1
  | .iface _ d => uptoBulk d + 1
  | .map entries => uptoBulkEntries entries + 1
  | .held _ => 1
def uptoBulkAll {H : Type} : List (DataW H) → Nat
  | [] => 0
  | d :: r => uptoBulk d + uptoBulkAll r
def uptoBulkEntries {H : Type} : List (Lit × DataW H) → Nat
  | [] => 0
  | x :: r => uptoBulkEntry x + uptoBulkEntries r
def uptoBulkEntry {H : Type} : Lit × DataW H → Nat
  | (.string bytes, d) => bytes.length + uptoBulk d + 1
  | (_, d) => uptoBulk d + 1
 end
def uptoSmall : (H : Type) → List (DataW H) → Bool := fun _ ds => decide (uptoBulkAll ds ≤ 1048576)
def OpenSpec.upto (s : _root_.Go.ChangeSpec) : _root_.Go.OpenSpec := { _root_.Go.OpenSpec.ofChange s with cond := some uptoSmall }

/-- 'seneschallaw11.SpaceTells', WHERE WHAT IT READS IS OF BULK AT MOST 1048576: true; the input reads as it did. -/
def spaceTellsUptoRow : OpenClaim := { program := "ytimmabejfigleaa", sum := "c28662b372bdb4e6e3051893c7947781bb13ce241df6c7e461f0f666aceacb7e", func := "seneschal/seneschallaw11.SpaceTells", spec := "spaceTells", unfollowed := true, recurses := true, apart := false, narrowed := true }
def SpaceTellsUptoSaid : Prop := spaceTellsUptoRow.holds Try.pinned (OpenSpec.upto spaceTellsSpec)

/-- 'seneschallaw11.SpaceLimits', WHERE WHAT IT READS IS OF BULK AT MOST 1048576: true; the input reads as it did. -/
def spaceLimitsUptoRow : OpenClaim := { program := "ytimmabejfigleaa", sum := "c28662b372bdb4e6e3051893c7947781bb13ce241df6c7e461f0f666aceacb7e", func := "seneschal/seneschallaw11.SpaceLimits", spec := "spaceLimits", unfollowed := true, recurses := true, apart := false, narrowed := true }
def SpaceLimitsUptoSaid : Prop := spaceLimitsUptoRow.holds Try.pinned (OpenSpec.upto spaceLimitsSpec)

/-- 'seneschallaw11.SpaceDoes', WHERE WHAT IT READS IS OF BULK AT MOST 1048576: true; the input reads as it did. -/
def spaceDoesUptoRow : OpenClaim := { program := "ytimmabejfigleaa", sum := "c28662b372bdb4e6e3051893c7947781bb13ce241df6c7e461f0f666aceacb7e", func := "seneschal/seneschallaw11.SpaceDoes", spec := "spaceDoes", unfollowed := true, recurses := true, apart := false, narrowed := true }
def SpaceDoesUptoSaid : Prop := spaceDoesUptoRow.holds Try.pinned (OpenSpec.upto spaceDoesSpec)

/-- 'seneschallaw11.SpaceOne', WHERE WHAT IT READS IS OF BULK AT MOST 1048576: true; the input reads as it did. -/
def spaceOneUptoRow : OpenClaim := { program := "ytimmabejfigleaa", sum := "c28662b372bdb4e6e3051893c7947781bb13ce241df6c7e461f0f666aceacb7e", func := "seneschal/seneschallaw11.SpaceOne", spec := "spaceOne", unfollowed := true, recurses := true, apart := false, narrowed := true }
def SpaceOneUptoSaid : Prop := spaceOneUptoRow.holds Try.pinned (OpenSpec.upto spaceOneSpec)

/-- 'seneschallaw11.SpaceLooks', WHERE WHAT IT READS IS OF BULK AT MOST 1048576: true; the input reads as it did. -/
def spaceLooksUptoRow : OpenClaim := { program := "ytimmabejfigleaa", sum := "c28662b372bdb4e6e3051893c7947781bb13ce241df6c7e461f0f666aceacb7e", func := "seneschal/seneschallaw11.SpaceLooks", spec := "spaceLooks", unfollowed := true, recurses := true, apart := false, narrowed := true }
def SpaceLooksUptoSaid : Prop := spaceLooksUptoRow.holds Try.pinned (OpenSpec.upto spaceLooksSpec)

/-- 'seneschallaw11.SpaceOrder', WHERE WHAT IT READS IS OF BULK AT MOST 1048576: true; the input reads as it did. -/
def spaceOrderUptoRow : OpenClaim := { program := "ytimmabejfigleaa", sum := "c28662b372bdb4e6e3051893c7947781bb13ce241df6c7e461f0f666aceacb7e", func := "seneschal/seneschallaw11.SpaceOrder", spec := "spaceOrder", unfollowed := true, recurses := true, apart := false, narrowed := true }
def SpaceOrderUptoSaid : Prop := spaceOrderUptoRow.holds Try.pinned (OpenSpec.upto spaceOrderSpec)

end Rows
end Go.Proofs.Ytimmabejfigleaa
