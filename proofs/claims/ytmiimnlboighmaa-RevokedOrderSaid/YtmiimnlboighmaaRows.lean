/-
  No cell of these rows narrows 'for every input' (looked for: loops, veiled, ifaces, maps, wideKeys, modest, calm, conditions, laid).
  DERIVED. THE GIVEN ROWS OF THIS SEAT. 6 by the template 'for every input the law returns true; each argument reads behind the call as it read before'; 0 by the template 'total and deterministic' (their statements: YtmiimnlboighmaaTotals.lean).
  GIVEN WITH THE SEED: the statements are not yours to turn. If you find one false, say at which input.
  Laid BY PROGRAM, IN A SANDBOX (cutbox-rows.mjs): the forced cells as the released guide's own fill.sh prints them over the translation 23c0a35841a00f9d… (all of the seat's roots in one cut). By AI agents, Wed Nov 11 2026. No macro, syntax, notation, axiom, sorry.
-/
import Derived.Test.YtmiimnlboighmaaChecked
import GoSem.Claim
import GoSem.ClaimJoined
import GoSem.ClaimMapViews
import Derived.JoinedTies
import Derived.KernelRfl
namespace Go.Proofs.Ytmiimnlboighmaa
/- THE CELL 'sum', in the pinned program and in every row, IS THE sha256 OF THE DUMP (.gsa) THAT YtmiimnlboighmaaProg.lean LOADS. Nothing in Lean hashes anything: it is a label: what it is worth is what the hold of that sum in a sandbox is worth. -/
noncomputable def Try.pinned : Pinned := { name := "ytmiimnlboighmaa", sum := "23c0a35841a00f9d7fa97ad3ee9401fe5485f2c99d81106a1e1c205fa3fbc79a", checked := Try.checked }
namespace Rows
def none {H : Type} : Left H := { results := [], args := [] }

/-- 'seneschallaw10.RevokedAdds': WHATEVER THE INPUT: true; the input reads as it did. -/
def revokedAddsSpec : ChangeSpec := { name := "revokedAdds", fn := fun _ => fun
  | [d1, d2] => { results := [.lit (.bool true)], args := [d1, d2] }
  | _ => none }
def revokedAddsRow : OpenClaim := { program := "ytmiimnlboighmaa", sum := "23c0a35841a00f9d7fa97ad3ee9401fe5485f2c99d81106a1e1c205fa3fbc79a", func := "seneschal/seneschallaw10.RevokedAdds", spec := "revokedAdds", unfollowed := true, recurses := true, apart := false }
def RevokedAddsSaid : Prop := revokedAddsRow.holds Try.pinned (OpenSpec.ofChange revokedAddsSpec)

/-- ITS FALSE NEIGHBOUR: 'it returns false'. Refute it at one input. -/
def revokedAddsWrong : ChangeSpec := { name := "revokedAdds", fn := fun _ => fun
  | [d1, d2] => { results := [.lit (.bool false)], args := [d1, d2] }
  | _ => none }
def RevokedAddsWrongFalsely : Prop := revokedAddsRow.holds Try.pinned (OpenSpec.ofChange revokedAddsWrong)

/-- 'seneschallaw10.RevokedAny': WHATEVER THE INPUT: true; the input reads as it did. -/
def revokedAnySpec : ChangeSpec := { name := "revokedAny", fn := fun _ => fun
  | [d1, d2, d3] => { results := [.lit (.bool true)], args := [d1, d2, d3] }
  | _ => none }
def revokedAnyRow : OpenClaim := { program := "ytmiimnlboighmaa", sum := "23c0a35841a00f9d7fa97ad3ee9401fe5485f2c99d81106a1e1c205fa3fbc79a", func := "seneschal/seneschallaw10.RevokedAny", spec := "revokedAny", unfollowed := true, recurses := true, apart := false }
def RevokedAnySaid : Prop := revokedAnyRow.holds Try.pinned (OpenSpec.ofChange revokedAnySpec)

/-- ITS FALSE NEIGHBOUR: 'it returns false'. Refute it at one input. -/
def revokedAnyWrong : ChangeSpec := { name := "revokedAny", fn := fun _ => fun
  | [d1, d2, d3] => { results := [.lit (.bool false)], args := [d1, d2, d3] }
  | _ => none }
def RevokedAnyWrongFalsely : Prop := revokedAnyRow.holds Try.pinned (OpenSpec.ofChange revokedAnyWrong)

/-- 'seneschallaw10.RevokedUnions': WHATEVER THE INPUT: true; the input reads as it did. -/
def revokedUnionsSpec : ChangeSpec := { name := "revokedUnions", fn := fun _ => fun
  | [d1, d2] => { results := [.lit (.bool true)], args := [d1, d2] }
  | _ => none }
def revokedUnionsRow : OpenClaim := { program := "ytmiimnlboighmaa", sum := "23c0a35841a00f9d7fa97ad3ee9401fe5485f2c99d81106a1e1c205fa3fbc79a", func := "seneschal/seneschallaw10.RevokedUnions", spec := "revokedUnions", unfollowed := true, recurses := true, apart := false }
def RevokedUnionsSaid : Prop := revokedUnionsRow.holds Try.pinned (OpenSpec.ofChange revokedUnionsSpec)

/-- ITS FALSE NEIGHBOUR: 'it returns false'. Refute it at one input. -/
def revokedUnionsWrong : ChangeSpec := { name := "revokedUnions", fn := fun _ => fun
  | [d1, d2] => { results := [.lit (.bool false)], args := [d1, d2] }
  | _ => none }
def RevokedUnionsWrongFalsely : Prop := revokedUnionsRow.holds Try.pinned (OpenSpec.ofChange revokedUnionsWrong)

/-- 'seneschallaw10.RevokedKept': WHATEVER THE INPUT: true; the input reads as it did. -/
def revokedKeptSpec : ChangeSpec := { name := "revokedKept", fn := fun _ => fun
  | [d1, d2, d3, d4] => { results := [.lit (.bool true)], args := [d1, d2, d3, d4] }
  | _ => none }
def revokedKeptRow : OpenClaim := { program := "ytmiimnlboighmaa", sum := "23c0a35841a00f9d7fa97ad3ee9401fe5485f2c99d81106a1e1c205fa3fbc79a", func := "seneschal/seneschallaw10.RevokedKept", spec := "revokedKept", unfollowed := true, recurses := true, apart := false }
def RevokedKeptSaid : Prop := revokedKeptRow.holds Try.pinned (OpenSpec.ofChange revokedKeptSpec)

/-- ITS FALSE NEIGHBOUR: 'it returns false'. Refute it at one input. -/
def revokedKeptWrong : ChangeSpec := { name := "revokedKept", fn := fun _ => fun
  | [d1, d2, d3, d4] => { results := [.lit (.bool false)], args := [d1, d2, d3, d4] }
  | _ => none }
def RevokedKeptWrongFalsely : Prop := revokedKeptRow.holds Try.pinned (OpenSpec.ofChange revokedKeptWrong)

/-- 'seneschallaw10.RevokedOrder': WHATEVER THE INPUT: true; the input reads as it did. -/
def revokedOrderSpec : ChangeSpec := { name := "revokedOrder", fn := fun _ => fun
  | [d] => { results := [.lit (.bool true)], args := [d] }
  | _ => none }
def revokedOrderRow : OpenClaim := { program := "ytmiimnlboighmaa", sum := "23c0a35841a00f9d7fa97ad3ee9401fe5485f2c99d81106a1e1c205fa3fbc79a", func := "seneschal/seneschallaw10.RevokedOrder", spec := "revokedOrder", unfollowed := true, recurses := true, apart := false }
def RevokedOrderSaid : Prop := revokedOrderRow.holds Try.pinned (OpenSpec.ofChange revokedOrderSpec)

/-- ITS FALSE NEIGHBOUR: 'it returns false'. Refute it at one input. -/
def revokedOrderWrong : ChangeSpec := { name := "revokedOrder", fn := fun _ => fun
  | [d] => { results := [.lit (.bool false)], args := [d] }
  | _ => none }
def RevokedOrderWrongFalsely : Prop := revokedOrderRow.holds Try.pinned (OpenSpec.ofChange revokedOrderWrong)

/-- 'seneschallaw10.RevokedLine': WHATEVER THE INPUT: true; the input reads as it did. -/
def revokedLineSpec : ChangeSpec := { name := "revokedLine", fn := fun _ => fun
  | [d1, d2, d3] => { results := [.lit (.bool true)], args := [d1, d2, d3] }
  | _ => none }
def revokedLineRow : OpenClaim := { program := "ytmiimnlboighmaa", sum := "23c0a35841a00f9d7fa97ad3ee9401fe5485f2c99d81106a1e1c205fa3fbc79a", func := "seneschal/seneschallaw10.RevokedLine", spec := "revokedLine", unfollowed := true, recurses := true, apart := false }
def RevokedLineSaid : Prop := revokedLineRow.holds Try.pinned (OpenSpec.ofChange revokedLineSpec)

/-- ITS FALSE NEIGHBOUR: 'it returns false'. Refute it at one input. -/
def revokedLineWrong : ChangeSpec := { name := "revokedLine", fn := fun _ => fun
  | [d1, d2, d3] => { results := [.lit (.bool false)], args := [d1, d2, d3] }
  | _ => none }
def RevokedLineWrongFalsely : Prop := revokedLineRow.holds Try.pinned (OpenSpec.ofChange revokedLineWrong)

/- THE SECOND FORM. 'bulk': how many values and letters a reading holds, each counted each time it is reached (what is shared counts as often as it is met; a slice's spare places count too). A statement '..UptoSaid' is the law's where the arguments, and the package variables that the reading takes, are together of bulk at most 1048576: NARROWER than '..Said'. Prove '..Said' where nothing that the law and all that it calls make is longer than what came in: it says more and counts as full. Else prove '..UptoSaid'. A law counts once. -/
mutual
def uptoBulk {H : Type} : DataW H → Nat
  | .lit (.string bytes) => bytes.length + 1
  | .lit _ => 1
  | .nil => 1
  | .ptr d => uptoBulk d + 1
  | .slice elems spare => uptoBulkAll elems + uptoBulkAll spare + 1
  | .agg parts => uptoBulkAll parts + 1
  | .iface _ d => uptoBulk d + 1
  | .map entries => uptoBulkEntries entries + 1
  | .held _ => 1
def uptoBulkAll {H : Type} : List (DataW H) → Nat
  | [] => 0
  | d :: r => uptoBulk d + uptoBulkAll r
def uptoBulkEntries {H : Type} : List (Lit × DataW H) → Nat
  | [] => 0
  | x :: r => uptoBulkEntry x + uptoBulkEntries r
def uptoBulkEntry {H : Type} : Lit × DataW H → Nat
  | (.string bytes, d) => bytes.length + uptoBulk d + 1
  | (_, d) => uptoBulk d + 1
 end
def uptoSmall : (H : Type) → List (DataW H) → Bool := fun _ ds => decide (uptoBulkAll ds ≤ 1048576)
def OpenSpec.upto (s : _root_.Go.ChangeSpec) : _root_.Go.OpenSpec := { _root_.Go.OpenSpec.ofChange s with cond := some uptoSmall }

/-- 'seneschallaw10.RevokedAdds', WHERE WHAT IT READS IS OF BULK AT MOST 1048576: true; the input reads as it did. -/
def revokedAddsUptoRow : OpenClaim := { program := "ytmiimnlboighmaa", sum := "23c0a35841a00f9d7fa97ad3ee9401fe5485f2c99d81106a1e1c205fa3fbc79a", func := "seneschal/seneschallaw10.RevokedAdds", spec := "revokedAdds", unfollowed := true, recurses := true, apart := false, narrowed := true }
def RevokedAddsUptoSaid : Prop := revokedAddsUptoRow.holds Try.pinned (OpenSpec.upto revokedAddsSpec)

/-- 'seneschallaw10.RevokedAny', WHERE WHAT IT READS IS OF BULK AT MOST 1048576: true; the input reads as it did. -/
def revokedAnyUptoRow : OpenClaim := { program := "ytmiimnlboighmaa", sum := "23c0a35841a00f9d7fa97ad3ee9401fe5485f2c99d81106a1e1c205fa3fbc79a", func := "seneschal/seneschallaw10.RevokedAny", spec := "revokedAny", unfollowed := true, recurses := true, apart := false, narrowed := true }
def RevokedAnyUptoSaid : Prop := revokedAnyUptoRow.holds Try.pinned (OpenSpec.upto revokedAnySpec)

/-- 'seneschallaw10.RevokedUnions', WHERE WHAT IT READS IS OF BULK AT MOST 1048576: true; the input reads as it did. -/
def revokedUnionsUptoRow : OpenClaim := { program := "ytmiimnlboighmaa", sum := "23c0a35841a00f9d7fa97ad3ee9401fe5485f2c99d81106a1e1c205fa3fbc79a", func := "seneschal/seneschallaw10.RevokedUnions", spec := "revokedUnions", unfollowed := true, recurses := true, apart := false, narrowed := true }
def RevokedUnionsUptoSaid : Prop := revokedUnionsUptoRow.holds Try.pinned (OpenSpec.upto revokedUnionsSpec)

/-- 'seneschallaw10.RevokedKept', WHERE WHAT IT READS IS OF BULK AT MOST 1048576: true; the input reads as it did. -/
def revokedKeptUptoRow : OpenClaim := { program := "ytmiimnlboighmaa", sum := "23c0a35841a00f9d7fa97ad3ee9401fe5485f2c99d81106a1e1c205fa3fbc79a", func := "seneschal/seneschallaw10.RevokedKept", spec := "revokedKept", unfollowed := true, recurses := true, apart := false, narrowed := true }
def RevokedKeptUptoSaid : Prop := revokedKeptUptoRow.holds Try.pinned (OpenSpec.upto revokedKeptSpec)

/-- 'seneschallaw10.RevokedOrder', WHERE WHAT IT READS IS OF BULK AT MOST 1048576: true; the input reads as it did. -/
def revokedOrderUptoRow : OpenClaim := { program := "ytmiimnlboighmaa", sum := "23c0a35841a00f9d7fa97ad3ee9401fe5485f2c99d81106a1e1c205fa3fbc79a", func := "seneschal/seneschallaw10.RevokedOrder", spec := "revokedOrder", unfollowed := true, recurses := true, apart := false, narrowed := true }
def RevokedOrderUptoSaid : Prop := revokedOrderUptoRow.holds Try.pinned (OpenSpec.upto revokedOrderSpec)

/-- 'seneschallaw10.RevokedLine', WHERE WHAT IT READS IS OF BULK AT MOST 1048576: true; the input reads as it did. -/
def revokedLineUptoRow : OpenClaim := { program := "ytmiimnlboighmaa", sum := "23c0a35841a00f9d7fa97ad3ee9401fe5485f2c99d81106a1e1c205fa3fbc79a", func := "seneschal/seneschallaw10.RevokedLine", spec := "revokedLine", unfollowed := true, recurses := true, apart := false, narrowed := true }
def RevokedLineUptoSaid : Prop := revokedLineUptoRow.holds Try.pinned (OpenSpec.upto revokedLineSpec)

end Rows
end Go.Proofs.Ytmiimnlboighmaa
