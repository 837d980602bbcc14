/-
  No cell of these rows narrows 'for every input' (looked for: loops, veiled, ifaces, maps, wideKeys, modest, calm, conditions, laid).
  DERIVED. THE GIVEN ROWS OF THIS SEAT. 8 by the template 'for every input the law returns true; each argument reads behind the call as it read before'; 0 by the template 'total and deterministic' (their statements: YtkbbphcfhgjapaaTotals.lean).
  GIVEN WITH THE SEED: the statements are not yours to turn. If you find one false, say at which input.
  Laid BY PROGRAM, IN A SANDBOX (cutbox-rows.mjs): the forced cells as the released guide's own fill.sh prints them over the translation 44d3cabee7ffae7c… (all of the seat's roots in one cut). By AI agents, Wed Nov 11 2026. No macro, syntax, notation, axiom, sorry.
-/
import Derived.Test.YtkbbphcfhgjapaaChecked
import GoSem.Claim
import GoSem.ClaimJoined
import GoSem.ClaimMapViews
import Derived.JoinedTies
import Derived.KernelRfl
namespace Go.Proofs.Ytkbbphcfhgjapaa
/- THE CELL 'sum', in the pinned program and in every row, IS THE sha256 OF THE DUMP (.gsa) THAT YtkbbphcfhgjapaaProg.lean LOADS. Nothing in Lean hashes anything: it is a label: what it is worth is what the hold of that sum in a sandbox is worth. -/
noncomputable def Try.pinned : Pinned := { name := "ytkbbphcfhgjapaa", sum := "44d3cabee7ffae7cd4143d634ea0cf3cd4976c2640d3d145daddc146e111e1b6", checked := Try.checked }
namespace Rows
def none {H : Type} : Left H := { results := [], args := [] }

/-- 'pintlelaw12.PseudoSets': WHATEVER THE INPUT: true; the input reads as it did. -/
def pseudoSetsSpec : ChangeSpec := { name := "pseudoSets", fn := fun _ => fun
  | [d1, d2] => { results := [.lit (.bool true)], args := [d1, d2] }
  | _ => none }
def pseudoSetsRow : OpenClaim := { program := "ytkbbphcfhgjapaa", sum := "44d3cabee7ffae7cd4143d634ea0cf3cd4976c2640d3d145daddc146e111e1b6", func := "pintle/pintlelaw12.PseudoSets", spec := "pseudoSets", apart := false }
def PseudoSetsSaid : Prop := pseudoSetsRow.holds Try.pinned (OpenSpec.ofChange pseudoSetsSpec)

/-- ITS FALSE NEIGHBOUR: 'it returns false'. Refute it at one input. -/
def pseudoSetsWrong : ChangeSpec := { name := "pseudoSets", fn := fun _ => fun
  | [d1, d2] => { results := [.lit (.bool false)], args := [d1, d2] }
  | _ => none }
def PseudoSetsWrongFalsely : Prop := pseudoSetsRow.holds Try.pinned (OpenSpec.ofChange pseudoSetsWrong)

/-- 'pintlelaw12.PseudoFew': WHATEVER THE INPUT: true; the input reads as it did. -/
def pseudoFewSpec : ChangeSpec := { name := "pseudoFew", fn := fun _ => fun
  | [d] => { results := [.lit (.bool true)], args := [d] }
  | _ => none }
def pseudoFewRow : OpenClaim := { program := "ytkbbphcfhgjapaa", sum := "44d3cabee7ffae7cd4143d634ea0cf3cd4976c2640d3d145daddc146e111e1b6", func := "pintle/pintlelaw12.PseudoFew", spec := "pseudoFew", apart := false }
def PseudoFewSaid : Prop := pseudoFewRow.holds Try.pinned (OpenSpec.ofChange pseudoFewSpec)

/-- ITS FALSE NEIGHBOUR: 'it returns false'. Refute it at one input. -/
def pseudoFewWrong : ChangeSpec := { name := "pseudoFew", fn := fun _ => fun
  | [d] => { results := [.lit (.bool false)], args := [d] }
  | _ => none }
def PseudoFewWrongFalsely : Prop := pseudoFewRow.holds Try.pinned (OpenSpec.ofChange pseudoFewWrong)

/-- 'pintlelaw12.PseudoAdds': WHATEVER THE INPUT: true; the input reads as it did. -/
def pseudoAddsSpec : ChangeSpec := { name := "pseudoAdds", fn := fun _ => fun
  | [d1, d2] => { results := [.lit (.bool true)], args := [d1, d2] }
  | _ => none }
def pseudoAddsRow : OpenClaim := { program := "ytkbbphcfhgjapaa", sum := "44d3cabee7ffae7cd4143d634ea0cf3cd4976c2640d3d145daddc146e111e1b6", func := "pintle/pintlelaw12.PseudoAdds", spec := "pseudoAdds", apart := false }
def PseudoAddsSaid : Prop := pseudoAddsRow.holds Try.pinned (OpenSpec.ofChange pseudoAddsSpec)

/-- ITS FALSE NEIGHBOUR: 'it returns false'. Refute it at one input. -/
def pseudoAddsWrong : ChangeSpec := { name := "pseudoAdds", fn := fun _ => fun
  | [d1, d2] => { results := [.lit (.bool false)], args := [d1, d2] }
  | _ => none }
def PseudoAddsWrongFalsely : Prop := pseudoAddsRow.holds Try.pinned (OpenSpec.ofChange pseudoAddsWrong)

/-- 'pintlelaw12.PseudoMoves': WHATEVER THE INPUT: true; the input reads as it did. -/
def pseudoMovesSpec : ChangeSpec := { name := "pseudoMoves", fn := fun _ => fun
  | [d1, d2, d3] => { results := [.lit (.bool true)], args := [d1, d2, d3] }
  | _ => none }
def pseudoMovesRow : OpenClaim := { program := "ytkbbphcfhgjapaa", sum := "44d3cabee7ffae7cd4143d634ea0cf3cd4976c2640d3d145daddc146e111e1b6", func := "pintle/pintlelaw12.PseudoMoves", spec := "pseudoMoves", apart := false }
def PseudoMovesSaid : Prop := pseudoMovesRow.holds Try.pinned (OpenSpec.ofChange pseudoMovesSpec)

/-- ITS FALSE NEIGHBOUR: 'it returns false'. Refute it at one input. -/
def pseudoMovesWrong : ChangeSpec := { name := "pseudoMoves", fn := fun _ => fun
  | [d1, d2, d3] => { results := [.lit (.bool false)], args := [d1, d2, d3] }
  | _ => none }
def PseudoMovesWrongFalsely : Prop := pseudoMovesRow.holds Try.pinned (OpenSpec.ofChange pseudoMovesWrong)

/-- 'pintlelaw02.ImmGets': WHATEVER THE INPUT: true; the input reads as it did. -/
def immGetsSpec : ChangeSpec := { name := "immGets", fn := fun _ => fun
  | [d1, d2] => { results := [.lit (.bool true)], args := [d1, d2] }
  | _ => none }
def immGetsRow : OpenClaim := { program := "ytkbbphcfhgjapaa", sum := "44d3cabee7ffae7cd4143d634ea0cf3cd4976c2640d3d145daddc146e111e1b6", func := "pintle/pintlelaw02.ImmGets", spec := "immGets", apart := false }
def ImmGetsSaid : Prop := immGetsRow.holds Try.pinned (OpenSpec.ofChange immGetsSpec)

/-- ITS FALSE NEIGHBOUR: 'it returns false'. Refute it at one input. -/
def immGetsWrong : ChangeSpec := { name := "immGets", fn := fun _ => fun
  | [d1, d2] => { results := [.lit (.bool false)], args := [d1, d2] }
  | _ => none }
def ImmGetsWrongFalsely : Prop := immGetsRow.holds Try.pinned (OpenSpec.ofChange immGetsWrong)

/-- 'pintlelaw02.ImmPuts': WHATEVER THE INPUT: true; the input reads as it did. -/
def immPutsSpec : ChangeSpec := { name := "immPuts", fn := fun _ => fun
  | [d1, d2] => { results := [.lit (.bool true)], args := [d1, d2] }
  | _ => none }
def immPutsRow : OpenClaim := { program := "ytkbbphcfhgjapaa", sum := "44d3cabee7ffae7cd4143d634ea0cf3cd4976c2640d3d145daddc146e111e1b6", func := "pintle/pintlelaw02.ImmPuts", spec := "immPuts", apart := false }
def ImmPutsSaid : Prop := immPutsRow.holds Try.pinned (OpenSpec.ofChange immPutsSpec)

/-- ITS FALSE NEIGHBOUR: 'it returns false'. Refute it at one input. -/
def immPutsWrong : ChangeSpec := { name := "immPuts", fn := fun _ => fun
  | [d1, d2] => { results := [.lit (.bool false)], args := [d1, d2] }
  | _ => none }
def ImmPutsWrongFalsely : Prop := immPutsRow.holds Try.pinned (OpenSpec.ofChange immPutsWrong)

/-- 'pintlelaw02.ImmBack': WHATEVER THE INPUT: true; the input reads as it did. -/
def immBackSpec : ChangeSpec := { name := "immBack", fn := fun _ => fun
  | [d1, d2] => { results := [.lit (.bool true)], args := [d1, d2] }
  | _ => none }
def immBackRow : OpenClaim := { program := "ytkbbphcfhgjapaa", sum := "44d3cabee7ffae7cd4143d634ea0cf3cd4976c2640d3d145daddc146e111e1b6", func := "pintle/pintlelaw02.ImmBack", spec := "immBack", apart := false }
def ImmBackSaid : Prop := immBackRow.holds Try.pinned (OpenSpec.ofChange immBackSpec)

/-- ITS FALSE NEIGHBOUR: 'it returns false'. Refute it at one input. -/
def immBackWrong : ChangeSpec := { name := "immBack", fn := fun _ => fun
  | [d1, d2] => { results := [.lit (.bool false)], args := [d1, d2] }
  | _ => none }
def ImmBackWrongFalsely : Prop := immBackRow.holds Try.pinned (OpenSpec.ofChange immBackWrong)

/-- 'pintlelaw02.ImmRange': WHATEVER THE INPUT: true; the input reads as it did. -/
def immRangeSpec : ChangeSpec := { name := "immRange", fn := fun _ => fun
  | [d1, d2] => { results := [.lit (.bool true)], args := [d1, d2] }
  | _ => none }
def immRangeRow : OpenClaim := { program := "ytkbbphcfhgjapaa", sum := "44d3cabee7ffae7cd4143d634ea0cf3cd4976c2640d3d145daddc146e111e1b6", func := "pintle/pintlelaw02.ImmRange", spec := "immRange", apart := false }
def ImmRangeSaid : Prop := immRangeRow.holds Try.pinned (OpenSpec.ofChange immRangeSpec)

/-- ITS FALSE NEIGHBOUR: 'it returns false'. Refute it at one input. -/
def immRangeWrong : ChangeSpec := { name := "immRange", fn := fun _ => fun
  | [d1, d2] => { results := [.lit (.bool false)], args := [d1, d2] }
  | _ => none }
def ImmRangeWrongFalsely : Prop := immRangeRow.holds Try.pinned (OpenSpec.ofChange immRangeWrong)

/- THE SECOND FORM. 'bulk': how many values and letters a reading holds, each counted each time it is reached (what is shared counts as often as it is met; a slice's spare places count too). A statement '..UptoSaid' is the law's where the arguments, and the package variables that the reading takes, are together of bulk at most 1048576: NARROWER than '..Said'. Prove '..Said' where nothing that the law and all that it calls make is longer than what came in: it says more and counts as full. Else prove '..UptoSaid'. A law counts once. -/
mutual
def uptoBulk {H : Type} : DataW H → Nat
  | .lit (.string bytes) => bytes.length + 1
  | .lit _ => 1
  | .nil => 1
  | .ptr d => uptoBulk d + 1
  | .slice elems spare => uptoBulkAll elems + uptoBulkAll spare + 1
  | .agg parts => uptoBulkAll parts + 1
  | .iface _ d => uptoBulk d + 1
  | .map entries => uptoBulkEntries entries + 1
  | .held _ => 1
def uptoBulkAll {H : Type} : List (DataW H) → Nat
  | [] => 0
  | d :: r => uptoBulk d + uptoBulkAll r
def uptoBulkEntries {H : Type} : List (Lit × DataW H) → Nat
  | [] => 0
  | x :: r => uptoBulkEntry x + uptoBulkEntries r
def uptoBulkEntry {H : Type} : Lit × DataW H → Nat
  | (.string bytes, d) => bytes.length + uptoBulk d + 1
  | (_, d) => uptoBulk d + 1
 end
def uptoSmall : (H : Type) → List (DataW H) → Bool := fun _ ds => decide (uptoBulkAll ds ≤ 1048576)
def OpenSpec.upto (s : _root_.Go.ChangeSpec) : _root_.Go.OpenSpec := { _root_.Go.OpenSpec.ofChange s with cond := some uptoSmall }

/-- 'pintlelaw12.PseudoSets', WHERE WHAT IT READS IS OF BULK AT MOST 1048576: true; the input reads as it did. -/
def pseudoSetsUptoRow : OpenClaim := { program := "ytkbbphcfhgjapaa", sum := "44d3cabee7ffae7cd4143d634ea0cf3cd4976c2640d3d145daddc146e111e1b6", func := "pintle/pintlelaw12.PseudoSets", spec := "pseudoSets", apart := false, narrowed := true }
def PseudoSetsUptoSaid : Prop := pseudoSetsUptoRow.holds Try.pinned (OpenSpec.upto pseudoSetsSpec)

/-- 'pintlelaw12.PseudoFew', WHERE WHAT IT READS IS OF BULK AT MOST 1048576: true; the input reads as it did. -/
def pseudoFewUptoRow : OpenClaim := { program := "ytkbbphcfhgjapaa", sum := "44d3cabee7ffae7cd4143d634ea0cf3cd4976c2640d3d145daddc146e111e1b6", func := "pintle/pintlelaw12.PseudoFew", spec := "pseudoFew", apart := false, narrowed := true }
def PseudoFewUptoSaid : Prop := pseudoFewUptoRow.holds Try.pinned (OpenSpec.upto pseudoFewSpec)

/-- 'pintlelaw12.PseudoAdds', WHERE WHAT IT READS IS OF BULK AT MOST 1048576: true; the input reads as it did. -/
def pseudoAddsUptoRow : OpenClaim := { program := "ytkbbphcfhgjapaa", sum := "44d3cabee7ffae7cd4143d634ea0cf3cd4976c2640d3d145daddc146e111e1b6", func := "pintle/pintlelaw12.PseudoAdds", spec := "pseudoAdds", apart := false, narrowed := true }
def PseudoAddsUptoSaid : Prop := pseudoAddsUptoRow.holds Try.pinned (OpenSpec.upto pseudoAddsSpec)

/-- 'pintlelaw12.PseudoMoves', WHERE WHAT IT READS IS OF BULK AT MOST 1048576: true; the input reads as it did. -/
def pseudoMovesUptoRow : OpenClaim := { program := "ytkbbphcfhgjapaa", sum := "44d3cabee7ffae7cd4143d634ea0cf3cd4976c2640d3d145daddc146e111e1b6", func := "pintle/pintlelaw12.PseudoMoves", spec := "pseudoMoves", apart := false, narrowed := true }
def PseudoMovesUptoSaid : Prop := pseudoMovesUptoRow.holds Try.pinned (OpenSpec.upto pseudoMovesSpec)

/-- 'pintlelaw02.ImmGets', WHERE WHAT IT READS IS OF BULK AT MOST 1048576: true; the input reads as it did. -/
def immGetsUptoRow : OpenClaim := { program := "ytkbbphcfhgjapaa", sum := "44d3cabee7ffae7cd4143d634ea0cf3cd4976c2640d3d145daddc146e111e1b6", func := "pintle/pintlelaw02.ImmGets", spec := "immGets", apart := false, narrowed := true }
def ImmGetsUptoSaid : Prop := immGetsUptoRow.holds Try.pinned (OpenSpec.upto immGetsSpec)

/-- 'pintlelaw02.ImmPuts', WHERE WHAT IT READS IS OF BULK AT MOST 1048576: true; the input reads as it did. -/
def immPutsUptoRow : OpenClaim := { program := "ytkbbphcfhgjapaa", sum := "44d3cabee7ffae7cd4143d634ea0cf3cd4976c2640d3d145daddc146e111e1b6", func := "pintle/pintlelaw02.ImmPuts", spec := "immPuts", apart := false, narrowed := true }
def ImmPutsUptoSaid : Prop := immPutsUptoRow.holds Try.pinned (OpenSpec.upto immPutsSpec)

/-- 'pintlelaw02.ImmBack', WHERE WHAT IT READS IS OF BULK AT MOST 1048576: true; the input reads as it did. -/
def immBackUptoRow : OpenClaim := { program := "ytkbbphcfhgjapaa", sum := "44d3cabee7ffae7cd4143d634ea0cf3cd4976c2640d3d145daddc146e111e1b6", func := "pintle/pintlelaw02.ImmBack", spec := "immBack", apart := false, narrowed := true }
def ImmBackUptoSaid : Prop := immBackUptoRow.holds Try.pinned (OpenSpec.upto immBackSpec)

/-- 'pintlelaw02.ImmRange', WHERE WHAT IT READS IS OF BULK AT MOST 1048576: true; the input reads as it did. -/
def immRangeUptoRow : OpenClaim := { program := "ytkbbphcfhgjapaa", sum := "44d3cabee7ffae7cd4143d634ea0cf3cd4976c2640d3d145daddc146e111e1b6", func := "pintle/pintlelaw02.ImmRange", spec := "immRange", apart := false, narrowed := true }
def ImmRangeUptoSaid : Prop := immRangeUptoRow.holds Try.pinned (OpenSpec.upto immRangeSpec)

end Rows
end Go.Proofs.Ytkbbphcfhgjapaa
