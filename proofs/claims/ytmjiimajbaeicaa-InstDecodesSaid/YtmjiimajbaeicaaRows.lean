/-
  No cell of these rows narrows 'for every input' (looked for: loops, veiled, ifaces, maps, wideKeys, modest, calm, conditions, laid).
  DERIVED. THE GIVEN ROWS OF THIS SEAT. 6 by the template 'for every input the law returns true; each argument reads behind the call as it read before'; 0 by the template 'total and deterministic' (their statements: YtmjiimajbaeicaaTotals.lean).
  GIVEN WITH THE SEED: the statements are not yours to turn. If you find one false, say at which input.
  Laid BY PROGRAM, IN A SANDBOX (cutbox-rows.mjs): the forced cells as the released guide's own fill.sh prints them over the translation 565a19c926f595f3… (all of the seat's roots in one cut). By AI agents, Wed Nov 11 2026. No macro, syntax, notation, axiom, sorry.
-/
import Derived.Test.YtmjiimajbaeicaaChecked
import GoSem.Claim
import GoSem.ClaimJoined
import GoSem.ClaimMapViews
import Derived.JoinedTies
import Derived.KernelRfl
namespace Go.Proofs.Ytmjiimajbaeicaa
/- THE CELL 'sum', in the pinned program and in every row, IS THE sha256 OF THE DUMP (.gsa) THAT YtmjiimajbaeicaaProg.lean LOADS. Nothing in Lean hashes anything: it is a label: what it is worth is what the hold of that sum in a sandbox is worth. -/
noncomputable def Try.pinned : Pinned := { name := "ytmjiimajbaeicaa", sum := "565a19c926f595f38ab298e3abebca601891ee6c6dbcf11411824530c98c5adf", checked := Try.checked }
namespace Rows
def none {H : Type} : Left H := { results := [], args := [] }

/-- 'pintlelaw03.InstDecodes': WHATEVER THE INPUT: true; the input reads as it did. -/
def instDecodesSpec : ChangeSpec := { name := "instDecodes", fn := fun _ => fun
  | [d] => { results := [.lit (.bool true)], args := [d] }
  | _ => none }
def instDecodesRow : OpenClaim := { program := "ytmjiimajbaeicaa", sum := "565a19c926f595f38ab298e3abebca601891ee6c6dbcf11411824530c98c5adf", func := "pintle/pintlelaw03.InstDecodes", spec := "instDecodes", apart := false }
def InstDecodesSaid : Prop := instDecodesRow.holds Try.pinned (OpenSpec.ofChange instDecodesSpec)

/-- ITS FALSE NEIGHBOUR: 'it returns false'. Refute it at one input. -/
def instDecodesWrong : ChangeSpec := { name := "instDecodes", fn := fun _ => fun
  | [d] => { results := [.lit (.bool false)], args := [d] }
  | _ => none }
def InstDecodesWrongFalsely : Prop := instDecodesRow.holds Try.pinned (OpenSpec.ofChange instDecodesWrong)

/-- 'pintlelaw03.InstBack': WHATEVER THE INPUT: true; the input reads as it did. -/
def instBackSpec : ChangeSpec := { name := "instBack", fn := fun _ => fun
  | [d] => { results := [.lit (.bool true)], args := [d] }
  | _ => none }
def instBackRow : OpenClaim := { program := "ytmjiimajbaeicaa", sum := "565a19c926f595f38ab298e3abebca601891ee6c6dbcf11411824530c98c5adf", func := "pintle/pintlelaw03.InstBack", spec := "instBack", apart := false }
def InstBackSaid : Prop := instBackRow.holds Try.pinned (OpenSpec.ofChange instBackSpec)

/-- ITS FALSE NEIGHBOUR: 'it returns false'. Refute it at one input. -/
def instBackWrong : ChangeSpec := { name := "instBack", fn := fun _ => fun
  | [d] => { results := [.lit (.bool false)], args := [d] }
  | _ => none }
def InstBackWrongFalsely : Prop := instBackRow.holds Try.pinned (OpenSpec.ofChange instBackWrong)

/-- 'pintlelaw03.InstAll': WHATEVER THE INPUT: true; the input reads as it did. -/
def instAllSpec : ChangeSpec := { name := "instAll", fn := fun _ => fun
  | [d1, d2] => { results := [.lit (.bool true)], args := [d1, d2] }
  | _ => none }
def instAllRow : OpenClaim := { program := "ytmjiimajbaeicaa", sum := "565a19c926f595f38ab298e3abebca601891ee6c6dbcf11411824530c98c5adf", func := "pintle/pintlelaw03.InstAll", spec := "instAll", apart := false }
def InstAllSaid : Prop := instAllRow.holds Try.pinned (OpenSpec.ofChange instAllSpec)

/-- ITS FALSE NEIGHBOUR: 'it returns false'. Refute it at one input. -/
def instAllWrong : ChangeSpec := { name := "instAll", fn := fun _ => fun
  | [d1, d2] => { results := [.lit (.bool false)], args := [d1, d2] }
  | _ => none }
def InstAllWrongFalsely : Prop := instAllRow.holds Try.pinned (OpenSpec.ofChange instAllWrong)

/-- 'pintlelaw03.InstEncodes': WHATEVER THE INPUT: true; the input reads as it did. -/
def instEncodesSpec : ChangeSpec := { name := "instEncodes", fn := fun _ => fun
  | [d] => { results := [.lit (.bool true)], args := [d] }
  | _ => none }
def instEncodesRow : OpenClaim := { program := "ytmjiimajbaeicaa", sum := "565a19c926f595f38ab298e3abebca601891ee6c6dbcf11411824530c98c5adf", func := "pintle/pintlelaw03.InstEncodes", spec := "instEncodes", apart := false }
def InstEncodesSaid : Prop := instEncodesRow.holds Try.pinned (OpenSpec.ofChange instEncodesSpec)

/-- ITS FALSE NEIGHBOUR: 'it returns false'. Refute it at one input. -/
def instEncodesWrong : ChangeSpec := { name := "instEncodes", fn := fun _ => fun
  | [d] => { results := [.lit (.bool false)], args := [d] }
  | _ => none }
def InstEncodesWrongFalsely : Prop := instEncodesRow.holds Try.pinned (OpenSpec.ofChange instEncodesWrong)

/-- 'pintlelaw03.InstWords': WHATEVER THE INPUT: true; the input reads as it did. -/
def instWordsSpec : ChangeSpec := { name := "instWords", fn := fun _ => fun
  | [d] => { results := [.lit (.bool true)], args := [d] }
  | _ => none }
def instWordsRow : OpenClaim := { program := "ytmjiimajbaeicaa", sum := "565a19c926f595f38ab298e3abebca601891ee6c6dbcf11411824530c98c5adf", func := "pintle/pintlelaw03.InstWords", spec := "instWords", apart := false }
def InstWordsSaid : Prop := instWordsRow.holds Try.pinned (OpenSpec.ofChange instWordsSpec)

/-- ITS FALSE NEIGHBOUR: 'it returns false'. Refute it at one input. -/
def instWordsWrong : ChangeSpec := { name := "instWords", fn := fun _ => fun
  | [d] => { results := [.lit (.bool false)], args := [d] }
  | _ => none }
def InstWordsWrongFalsely : Prop := instWordsRow.holds Try.pinned (OpenSpec.ofChange instWordsWrong)

/-- 'pintlelaw03.InstRegs': WHATEVER THE INPUT: true; the input reads as it did. -/
def instRegsSpec : ChangeSpec := { name := "instRegs", fn := fun _ => fun
  | [d] => { results := [.lit (.bool true)], args := [d] }
  | _ => none }
def instRegsRow : OpenClaim := { program := "ytmjiimajbaeicaa", sum := "565a19c926f595f38ab298e3abebca601891ee6c6dbcf11411824530c98c5adf", func := "pintle/pintlelaw03.InstRegs", spec := "instRegs", apart := false }
def InstRegsSaid : Prop := instRegsRow.holds Try.pinned (OpenSpec.ofChange instRegsSpec)

/-- ITS FALSE NEIGHBOUR: 'it returns false'. Refute it at one input. -/
def instRegsWrong : ChangeSpec := { name := "instRegs", fn := fun _ => fun
  | [d] => { results := [.lit (.bool false)], args := [d] }
  | _ => none }
def InstRegsWrongFalsely : Prop := instRegsRow.holds Try.pinned (OpenSpec.ofChange instRegsWrong)

/- THE SECOND FORM. 'bulk': how many values and letters a reading holds, each counted each time it is reached (what is shared counts as often as it is met; a slice's spare places count too). A statement '..UptoSaid' is the law's where the arguments, and the package variables that the reading takes, are together of bulk at most 1048576: NARROWER than '..Said'. Prove '..Said' where nothing that the law and all that it calls make is longer than what came in: it says more and counts as full. Else prove '..UptoSaid'. A law counts once. -/
mutual
def uptoBulk {H : Type} : DataW H → Nat
  | .lit (.string bytes) => bytes.length + 1
  | .lit _ => 1
  | .nil => 1
  | .ptr d => uptoBulk d + 1
  | .slice elems spare => uptoBulkAll elems + uptoBulkAll spare + 1
  | .agg parts => uptoBulkAll parts + 1
  | .iface _ d => uptoBulk d + 1
  | .map entries => uptoBulkEntries entries + 1
  | .held _ => 1
def uptoBulkAll {H : Type} : List (DataW H) → Nat
  | [] => 0
  | d :: r => uptoBulk d + uptoBulkAll r
def uptoBulkEntries {H : Type} : List (Lit × DataW H) → Nat
  | [] => 0
  | x :: r => uptoBulkEntry x + uptoBulkEntries r
def uptoBulkEntry {H : Type} : Lit × DataW H → Nat
  | (.string bytes, d) => bytes.length + uptoBulk d + 1
  | (_, d) => uptoBulk d + 1
 end
def uptoSmall : (H : Type) → List (DataW H) → Bool := fun _ ds => decide (uptoBulkAll ds ≤ 1048576)
def OpenSpec.upto (s : _root_.Go.ChangeSpec) : _root_.Go.OpenSpec := { _root_.Go.OpenSpec.ofChange s with cond := some uptoSmall }

/-- 'pintlelaw03.InstDecodes', WHERE WHAT IT READS IS OF BULK AT MOST 1048576: true; the input reads as it did. -/
def instDecodesUptoRow : OpenClaim := { program := "ytmjiimajbaeicaa", sum := "565a19c926f595f38ab298e3abebca601891ee6c6dbcf11411824530c98c5adf", func := "pintle/pintlelaw03.InstDecodes", spec := "instDecodes", apart := false, narrowed := true }
def InstDecodesUptoSaid : Prop := instDecodesUptoRow.holds Try.pinned (OpenSpec.upto instDecodesSpec)

/-- 'pintlelaw03.InstBack', WHERE WHAT IT READS IS OF BULK AT MOST 1048576: true; the input reads as it did. -/
def instBackUptoRow : OpenClaim := { program := "ytmjiimajbaeicaa", sum := "565a19c926f595f38ab298e3abebca601891ee6c6dbcf11411824530c98c5adf", func := "pintle/pintlelaw03.InstBack", spec := "instBack", apart := false, narrowed := true }
def InstBackUptoSaid : Prop := instBackUptoRow.holds Try.pinned (OpenSpec.upto instBackSpec)

/-- 'pintlelaw03.InstAll', WHERE WHAT IT READS IS OF BULK AT MOST 1048576: true; the input reads as it did. -/
def instAllUptoRow : OpenClaim := { program := "ytmjiimajbaeicaa", sum := "565a19c926f595f38ab298e3abebca601891ee6c6dbcf11411824530c98c5adf", func := "pintle/pintlelaw03.InstAll", spec := "instAll", apart := false, narrowed := true }
def InstAllUptoSaid : Prop := instAllUptoRow.holds Try.pinned (OpenSpec.upto instAllSpec)

/-- 'pintlelaw03.InstEncodes', WHERE WHAT IT READS IS OF BULK AT MOST 1048576: true; the input reads as it did. -/
def instEncodesUptoRow : OpenClaim := { program := "ytmjiimajbaeicaa", sum := "565a19c926f595f38ab298e3abebca601891ee6c6dbcf11411824530c98c5adf", func := "pintle/pintlelaw03.InstEncodes", spec := "instEncodes", apart := false, narrowed := true }
def InstEncodesUptoSaid : Prop := instEncodesUptoRow.holds Try.pinned (OpenSpec.upto instEncodesSpec)

/-- 'pintlelaw03.InstWords', WHERE WHAT IT READS IS OF BULK AT MOST 1048576: true; the input reads as it did. -/
def instWordsUptoRow : OpenClaim := { program := "ytmjiimajbaeicaa", sum := "565a19c926f595f38ab298e3abebca601891ee6c6dbcf11411824530c98c5adf", func := "pintle/pintlelaw03.InstWords", spec := "instWords", apart := false, narrowed := true }
def InstWordsUptoSaid : Prop := instWordsUptoRow.holds Try.pinned (OpenSpec.upto instWordsSpec)

/-- 'pintlelaw03.InstRegs', WHERE WHAT IT READS IS OF BULK AT MOST 1048576: true; the input reads as it did. -/
def instRegsUptoRow : OpenClaim := { program := "ytmjiimajbaeicaa", sum := "565a19c926f595f38ab298e3abebca601891ee6c6dbcf11411824530c98c5adf", func := "pintle/pintlelaw03.InstRegs", spec := "instRegs", apart := false, narrowed := true }
def InstRegsUptoSaid : Prop := instRegsUptoRow.holds Try.pinned (OpenSpec.upto instRegsSpec)

end Rows
end Go.Proofs.Ytmjiimajbaeicaa
