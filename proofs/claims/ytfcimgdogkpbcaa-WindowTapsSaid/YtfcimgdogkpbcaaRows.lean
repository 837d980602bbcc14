/-
  No cell of these rows narrows 'for every input' (looked for: loops, veiled, ifaces, maps, wideKeys, modest, calm, conditions, laid).
  DERIVED. THE GIVEN ROWS OF THIS SEAT. 8 by the template 'for every input the law returns true; each argument reads behind the call as it read before'; 0 by the template 'total and deterministic' (their statements: YtfcimgdogkpbcaaTotals.lean).
  GIVEN WITH THE SEED: the statements are not yours to turn. If you find one false, say at which input.
  Laid BY PROGRAM, IN A SANDBOX (cutbox-rows.mjs): the forced cells as the released guide's own fill.sh prints them over the translation 597d698b292723d8… (all of the seat's roots in one cut). By AI agents, Wed Nov 11 2026. No macro, syntax, notation, axiom, sorry.
-/
import Derived.Test.YtfcimgdogkpbcaaChecked
import GoSem.Claim
import GoSem.ClaimJoined
import GoSem.ClaimMapViews
import Derived.JoinedTies
import Derived.KernelRfl
namespace Go.Proofs.Ytfcimgdogkpbcaa
/- THE CELL 'sum', in the pinned program and in every row, IS THE sha256 OF THE DUMP (.gsa) THAT YtfcimgdogkpbcaaProg.lean LOADS. Nothing in Lean hashes anything: it is a label: what it is worth is what the hold of that sum in a sandbox is worth. -/
noncomputable def Try.pinned : Pinned := { name := "ytfcimgdogkpbcaa", sum := "597d698b292723d82784900a518de30be445a94ba7a099b9273d9a085fda40c6", checked := Try.checked }
namespace Rows
def none {H : Type} : Left H := { results := [], args := [] }

/-- 'pintlelaw21.TensorSizes': WHATEVER THE INPUT: true; the input reads as it did. -/
def tensorSizesSpec : ChangeSpec := { name := "tensorSizes", fn := fun _ => fun
  | [d] => { results := [.lit (.bool true)], args := [d] }
  | _ => none }
def tensorSizesRow : OpenClaim := { program := "ytfcimgdogkpbcaa", sum := "597d698b292723d82784900a518de30be445a94ba7a099b9273d9a085fda40c6", func := "pintle/pintlelaw21.TensorSizes", spec := "tensorSizes", apart := false }
def TensorSizesSaid : Prop := tensorSizesRow.holds Try.pinned (OpenSpec.ofChange tensorSizesSpec)

/-- ITS FALSE NEIGHBOUR: 'it returns false'. Refute it at one input. -/
def tensorSizesWrong : ChangeSpec := { name := "tensorSizes", fn := fun _ => fun
  | [d] => { results := [.lit (.bool false)], args := [d] }
  | _ => none }
def TensorSizesWrongFalsely : Prop := tensorSizesRow.holds Try.pinned (OpenSpec.ofChange tensorSizesWrong)

/-- 'pintlelaw21.TensorAt': WHATEVER THE INPUT: true; the input reads as it did. -/
def tensorAtSpec : ChangeSpec := { name := "tensorAt", fn := fun _ => fun
  | [d1, d2] => { results := [.lit (.bool true)], args := [d1, d2] }
  | _ => none }
def tensorAtRow : OpenClaim := { program := "ytfcimgdogkpbcaa", sum := "597d698b292723d82784900a518de30be445a94ba7a099b9273d9a085fda40c6", func := "pintle/pintlelaw21.TensorAt", spec := "tensorAt", apart := false }
def TensorAtSaid : Prop := tensorAtRow.holds Try.pinned (OpenSpec.ofChange tensorAtSpec)

/-- ITS FALSE NEIGHBOUR: 'it returns false'. Refute it at one input. -/
def tensorAtWrong : ChangeSpec := { name := "tensorAt", fn := fun _ => fun
  | [d1, d2] => { results := [.lit (.bool false)], args := [d1, d2] }
  | _ => none }
def TensorAtWrongFalsely : Prop := tensorAtRow.holds Try.pinned (OpenSpec.ofChange tensorAtWrong)

/-- 'pintlelaw21.TensorOf': WHATEVER THE INPUT: true; the input reads as it did. -/
def tensorOfSpec : ChangeSpec := { name := "tensorOf", fn := fun _ => fun
  | [d1, d2] => { results := [.lit (.bool true)], args := [d1, d2] }
  | _ => none }
def tensorOfRow : OpenClaim := { program := "ytfcimgdogkpbcaa", sum := "597d698b292723d82784900a518de30be445a94ba7a099b9273d9a085fda40c6", func := "pintle/pintlelaw21.TensorOf", spec := "tensorOf", apart := false }
def TensorOfSaid : Prop := tensorOfRow.holds Try.pinned (OpenSpec.ofChange tensorOfSpec)

/-- ITS FALSE NEIGHBOUR: 'it returns false'. Refute it at one input. -/
def tensorOfWrong : ChangeSpec := { name := "tensorOf", fn := fun _ => fun
  | [d1, d2] => { results := [.lit (.bool false)], args := [d1, d2] }
  | _ => none }
def TensorOfWrongFalsely : Prop := tensorOfRow.holds Try.pinned (OpenSpec.ofChange tensorOfWrong)

/-- 'pintlelaw21.TensorJoins': WHATEVER THE INPUT: true; the input reads as it did. -/
def tensorJoinsSpec : ChangeSpec := { name := "tensorJoins", fn := fun _ => fun
  | [d1, d2] => { results := [.lit (.bool true)], args := [d1, d2] }
  | _ => none }
def tensorJoinsRow : OpenClaim := { program := "ytfcimgdogkpbcaa", sum := "597d698b292723d82784900a518de30be445a94ba7a099b9273d9a085fda40c6", func := "pintle/pintlelaw21.TensorJoins", spec := "tensorJoins", apart := false }
def TensorJoinsSaid : Prop := tensorJoinsRow.holds Try.pinned (OpenSpec.ofChange tensorJoinsSpec)

/-- ITS FALSE NEIGHBOUR: 'it returns false'. Refute it at one input. -/
def tensorJoinsWrong : ChangeSpec := { name := "tensorJoins", fn := fun _ => fun
  | [d1, d2] => { results := [.lit (.bool false)], args := [d1, d2] }
  | _ => none }
def TensorJoinsWrongFalsely : Prop := tensorJoinsRow.holds Try.pinned (OpenSpec.ofChange tensorJoinsWrong)

/-- 'pintlelaw22.WindowOuts': WHATEVER THE INPUT: true; the input reads as it did. -/
def windowOutsSpec : ChangeSpec := { name := "windowOuts", fn := fun _ => fun
  | [d] => { results := [.lit (.bool true)], args := [d] }
  | _ => none }
def windowOutsRow : OpenClaim := { program := "ytfcimgdogkpbcaa", sum := "597d698b292723d82784900a518de30be445a94ba7a099b9273d9a085fda40c6", func := "pintle/pintlelaw22.WindowOuts", spec := "windowOuts", apart := false }
def WindowOutsSaid : Prop := windowOutsRow.holds Try.pinned (OpenSpec.ofChange windowOutsSpec)

/-- ITS FALSE NEIGHBOUR: 'it returns false'. Refute it at one input. -/
def windowOutsWrong : ChangeSpec := { name := "windowOuts", fn := fun _ => fun
  | [d] => { results := [.lit (.bool false)], args := [d] }
  | _ => none }
def WindowOutsWrongFalsely : Prop := windowOutsRow.holds Try.pinned (OpenSpec.ofChange windowOutsWrong)

/-- 'pintlelaw22.WindowInside': WHATEVER THE INPUT: true; the input reads as it did. -/
def windowInsideSpec : ChangeSpec := { name := "windowInside", fn := fun _ => fun
  | [d] => { results := [.lit (.bool true)], args := [d] }
  | _ => none }
def windowInsideRow : OpenClaim := { program := "ytfcimgdogkpbcaa", sum := "597d698b292723d82784900a518de30be445a94ba7a099b9273d9a085fda40c6", func := "pintle/pintlelaw22.WindowInside", spec := "windowInside", apart := false }
def WindowInsideSaid : Prop := windowInsideRow.holds Try.pinned (OpenSpec.ofChange windowInsideSpec)

/-- ITS FALSE NEIGHBOUR: 'it returns false'. Refute it at one input. -/
def windowInsideWrong : ChangeSpec := { name := "windowInside", fn := fun _ => fun
  | [d] => { results := [.lit (.bool false)], args := [d] }
  | _ => none }
def WindowInsideWrongFalsely : Prop := windowInsideRow.holds Try.pinned (OpenSpec.ofChange windowInsideWrong)

/-- 'pintlelaw22.WindowTaps': WHATEVER THE INPUT: true; the input reads as it did. -/
def windowTapsSpec : ChangeSpec := { name := "windowTaps", fn := fun _ => fun
  | [d1, d2, d3] => { results := [.lit (.bool true)], args := [d1, d2, d3] }
  | _ => none }
def windowTapsRow : OpenClaim := { program := "ytfcimgdogkpbcaa", sum := "597d698b292723d82784900a518de30be445a94ba7a099b9273d9a085fda40c6", func := "pintle/pintlelaw22.WindowTaps", spec := "windowTaps", apart := false }
def WindowTapsSaid : Prop := windowTapsRow.holds Try.pinned (OpenSpec.ofChange windowTapsSpec)

/-- ITS FALSE NEIGHBOUR: 'it returns false'. Refute it at one input. -/
def windowTapsWrong : ChangeSpec := { name := "windowTaps", fn := fun _ => fun
  | [d1, d2, d3] => { results := [.lit (.bool false)], args := [d1, d2, d3] }
  | _ => none }
def WindowTapsWrongFalsely : Prop := windowTapsRow.holds Try.pinned (OpenSpec.ofChange windowTapsWrong)

/-- 'pintlelaw22.WindowNever': WHATEVER THE INPUT: true; the input reads as it did. -/
def windowNeverSpec : ChangeSpec := { name := "windowNever", fn := fun _ => fun
  | [d] => { results := [.lit (.bool true)], args := [d] }
  | _ => none }
def windowNeverRow : OpenClaim := { program := "ytfcimgdogkpbcaa", sum := "597d698b292723d82784900a518de30be445a94ba7a099b9273d9a085fda40c6", func := "pintle/pintlelaw22.WindowNever", spec := "windowNever", apart := false }
def WindowNeverSaid : Prop := windowNeverRow.holds Try.pinned (OpenSpec.ofChange windowNeverSpec)

/-- ITS FALSE NEIGHBOUR: 'it returns false'. Refute it at one input. -/
def windowNeverWrong : ChangeSpec := { name := "windowNever", fn := fun _ => fun
  | [d] => { results := [.lit (.bool false)], args := [d] }
  | _ => none }
def WindowNeverWrongFalsely : Prop := windowNeverRow.holds Try.pinned (OpenSpec.ofChange windowNeverWrong)

/- THE SECOND FORM. 'bulk': how many values and letters a reading holds, each counted each time it is reached (what is shared counts as often as it is met; a slice's spare places count too). A statement '..UptoSaid' is the law's where the arguments, and the package variables that the reading takes, are together of bulk at most 1048576: NARROWER than '..Said'. Prove '..Said' where nothing that the law and all that it calls make is longer than what came in: it says more and counts as full. Else prove '..UptoSaid'. A law counts once. -/
mutual
def uptoBulk {H : Type} : DataW H → Nat
  | .lit (.string bytes) => bytes.length + 1
  | .lit _ => 1
  | .nil => 1
  | .ptr d => uptoBulk d + 1
  | .slice elems spare => uptoBulkAll elems + uptoBulkAll spare + 1
  | .agg parts => uptoBulkAll parts + 1
  | .iface _ d => uptoBulk d + 1
  | .map entries => uptoBulkEntries entries + 1
  | .held _ => 1
def uptoBulkAll {H : Type} : List (DataW H) → Nat
  | [] => 0
  | d :: r => uptoBulk d + uptoBulkAll r
def uptoBulkEntries {H : Type} : List (Lit × DataW H) → Nat
  | [] => 0
  | x :: r => uptoBulkEntry x + uptoBulkEntries r
def uptoBulkEntry {H : Type} : Lit × DataW H → Nat
  | (.string bytes, d) => bytes.length + uptoBulk d + 1
  | (_, d) => uptoBulk d + 1
 end
def uptoSmall : (H : Type) → List (DataW H) → Bool := fun _ ds => decide (uptoBulkAll ds ≤ 1048576)
def OpenSpec.upto (s : _root_.Go.ChangeSpec) : _root_.Go.OpenSpec := { _root_.Go.OpenSpec.ofChange s with cond := some uptoSmall }

/-- 'pintlelaw21.TensorSizes', WHERE WHAT IT READS IS OF BULK AT MOST 1048576: true; the input reads as it did. -/
def tensorSizesUptoRow : OpenClaim := { program := "ytfcimgdogkpbcaa", sum := "597d698b292723d82784900a518de30be445a94ba7a099b9273d9a085fda40c6", func := "pintle/pintlelaw21.TensorSizes", spec := "tensorSizes", apart := false, narrowed := true }
def TensorSizesUptoSaid : Prop := tensorSizesUptoRow.holds Try.pinned (OpenSpec.upto tensorSizesSpec)

/-- 'pintlelaw21.TensorAt', WHERE WHAT IT READS IS OF BULK AT MOST 1048576: true; the input reads as it did. -/
def tensorAtUptoRow : OpenClaim := { program := "ytfcimgdogkpbcaa", sum := "597d698b292723d82784900a518de30be445a94ba7a099b9273d9a085fda40c6", func := "pintle/pintlelaw21.TensorAt", spec := "tensorAt", apart := false, narrowed := true }
def TensorAtUptoSaid : Prop := tensorAtUptoRow.holds Try.pinned (OpenSpec.upto tensorAtSpec)

/-- 'pintlelaw21.TensorOf', WHERE WHAT IT READS IS OF BULK AT MOST 1048576: true; the input reads as it did. -/
def tensorOfUptoRow : OpenClaim := { program := "ytfcimgdogkpbcaa", sum := "597d698b292723d82784900a518de30be445a94ba7a099b9273d9a085fda40c6", func := "pintle/pintlelaw21.TensorOf", spec := "tensorOf", apart := false, narrowed := true }
def TensorOfUptoSaid : Prop := tensorOfUptoRow.holds Try.pinned (OpenSpec.upto tensorOfSpec)

/-- 'pintlelaw21.TensorJoins', WHERE WHAT IT READS IS OF BULK AT MOST 1048576: true; the input reads as it did. -/
def tensorJoinsUptoRow : OpenClaim := { program := "ytfcimgdogkpbcaa", sum := "597d698b292723d82784900a518de30be445a94ba7a099b9273d9a085fda40c6", func := "pintle/pintlelaw21.TensorJoins", spec := "tensorJoins", apart := false, narrowed := true }
def TensorJoinsUptoSaid : Prop := tensorJoinsUptoRow.holds Try.pinned (OpenSpec.upto tensorJoinsSpec)

/-- 'pintlelaw22.WindowOuts', WHERE WHAT IT READS IS OF BULK AT MOST 1048576: true; the input reads as it did. -/
def windowOutsUptoRow : OpenClaim := { program := "ytfcimgdogkpbcaa", sum := "597d698b292723d82784900a518de30be445a94ba7a099b9273d9a085fda40c6", func := "pintle/pintlelaw22.WindowOuts", spec := "windowOuts", apart := false, narrowed := true }
def WindowOutsUptoSaid : Prop := windowOutsUptoRow.holds Try.pinned (OpenSpec.upto windowOutsSpec)

/-- 'pintlelaw22.WindowInside', WHERE WHAT IT READS IS OF BULK AT MOST 1048576: true; the input reads as it did. -/
def windowInsideUptoRow : OpenClaim := { program := "ytfcimgdogkpbcaa", sum := "597d698b292723d82784900a518de30be445a94ba7a099b9273d9a085fda40c6", func := "pintle/pintlelaw22.WindowInside", spec := "windowInside", apart := false, narrowed := true }
def WindowInsideUptoSaid : Prop := windowInsideUptoRow.holds Try.pinned (OpenSpec.upto windowInsideSpec)

/-- 'pintlelaw22.WindowTaps', WHERE WHAT IT READS IS OF BULK AT MOST 1048576: true; the input reads as it did. -/
def windowTapsUptoRow : OpenClaim := { program := "ytfcimgdogkpbcaa", sum := "597d698b292723d82784900a518de30be445a94ba7a099b9273d9a085fda40c6", func := "pintle/pintlelaw22.WindowTaps", spec := "windowTaps", apart := false, narrowed := true }
def WindowTapsUptoSaid : Prop := windowTapsUptoRow.holds Try.pinned (OpenSpec.upto windowTapsSpec)

/-- 'pintlelaw22.WindowNever', WHERE WHAT IT READS IS OF BULK AT MOST 1048576: true; the input reads as it did. -/
def windowNeverUptoRow : OpenClaim := { program := "ytfcimgdogkpbcaa", sum := "597d698b292723d82784900a518de30be445a94ba7a099b9273d9a085fda40c6", func := "pintle/pintlelaw22.WindowNever", spec := "windowNever", apart := false, narrowed := true }
def WindowNeverUptoSaid : Prop := windowNeverUptoRow.holds Try.pinned (OpenSpec.upto windowNeverSpec)

end Rows
end Go.Proofs.Ytfcimgdogkpbcaa
