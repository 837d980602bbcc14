/-
  No cell of these rows narrows 'for every input' (looked for: loops, veiled, ifaces, maps, wideKeys, modest, calm, conditions, laid).
  DERIVED. THE GIVEN ROWS OF THIS SEAT. 4 by the template 'for every input the law returns true; each argument reads behind the call as it read before'; 0 by the template 'total and deterministic' (their statements: YtihecimbhhlhaaaTotals.lean).
  GIVEN WITH THE SEED: the statements are not yours to turn. If you find one false, say at which input.
  Laid BY PROGRAM, IN A SANDBOX (cutbox-rows.mjs): the forced cells as the released guide's own fill.sh prints them over the translation 358bdcce22128689… (all of the seat's roots in one cut). By AI agents, Wed Nov 11 2026. No macro, syntax, notation, axiom, sorry.
-/
import Derived.Test.YtihecimbhhlhaaaChecked
import GoSem.Claim
import GoSem.ClaimJoined
import GoSem.ClaimMapViews
import Derived.JoinedTies
import Derived.KernelRfl
namespace Go.Proofs.Ytihecimbhhlhaaa
/- THE CELL 'sum', in the pinned program and in every row, IS THE sha256 OF THE DUMP (.gsa) THAT YtihecimbhhlhaaaProg.lean LOADS. Nothing in Lean hashes anything: it is a label: what it is worth is what the hold of that sum in a sandbox is worth. -/
noncomputable def Try.pinned : Pinned := { name := "ytihecimbhhlhaaa", sum := "358bdcce22128689720cc1573bb690f49988d2c17aa2956b80efee87febfbcf7", checked := Try.checked }
namespace Rows
def none {H : Type} : Left H := { results := [], args := [] }

/-- 'pintlelaw13.RelaxReach': WHATEVER THE INPUT: true; the input reads as it did. -/
def relaxReachSpec : ChangeSpec := { name := "relaxReach", fn := fun _ => fun
  | [d] => { results := [.lit (.bool true)], args := [d] }
  | _ => none }
def relaxReachRow : OpenClaim := { program := "ytihecimbhhlhaaa", sum := "358bdcce22128689720cc1573bb690f49988d2c17aa2956b80efee87febfbcf7", func := "pintle/pintlelaw13.RelaxReach", spec := "relaxReach", apart := false }
def RelaxReachSaid : Prop := relaxReachRow.holds Try.pinned (OpenSpec.ofChange relaxReachSpec)

/-- ITS FALSE NEIGHBOUR: 'it returns false'. Refute it at one input. -/
def relaxReachWrong : ChangeSpec := { name := "relaxReach", fn := fun _ => fun
  | [d] => { results := [.lit (.bool false)], args := [d] }
  | _ => none }
def RelaxReachWrongFalsely : Prop := relaxReachRow.holds Try.pinned (OpenSpec.ofChange relaxReachWrong)

/-- 'pintlelaw13.RelaxLeast': WHATEVER THE INPUT: true; the input reads as it did. -/
def relaxLeastSpec : ChangeSpec := { name := "relaxLeast", fn := fun _ => fun
  | [d1, d2] => { results := [.lit (.bool true)], args := [d1, d2] }
  | _ => none }
def relaxLeastRow : OpenClaim := { program := "ytihecimbhhlhaaa", sum := "358bdcce22128689720cc1573bb690f49988d2c17aa2956b80efee87febfbcf7", func := "pintle/pintlelaw13.RelaxLeast", spec := "relaxLeast", apart := false }
def RelaxLeastSaid : Prop := relaxLeastRow.holds Try.pinned (OpenSpec.ofChange relaxLeastSpec)

/-- ITS FALSE NEIGHBOUR: 'it returns false'. Refute it at one input. -/
def relaxLeastWrong : ChangeSpec := { name := "relaxLeast", fn := fun _ => fun
  | [d1, d2] => { results := [.lit (.bool false)], args := [d1, d2] }
  | _ => none }
def RelaxLeastWrongFalsely : Prop := relaxLeastRow.holds Try.pinned (OpenSpec.ofChange relaxLeastWrong)

/-- 'pintlelaw14.AsmAll': WHATEVER THE INPUT: true; the input reads as it did. -/
def asmAllSpec : ChangeSpec := { name := "asmAll", fn := fun _ => fun
  | [d] => { results := [.lit (.bool true)], args := [d] }
  | _ => none }
def asmAllRow : OpenClaim := { program := "ytihecimbhhlhaaa", sum := "358bdcce22128689720cc1573bb690f49988d2c17aa2956b80efee87febfbcf7", func := "pintle/pintlelaw14.AsmAll", spec := "asmAll", apart := false }
def AsmAllSaid : Prop := asmAllRow.holds Try.pinned (OpenSpec.ofChange asmAllSpec)

/-- ITS FALSE NEIGHBOUR: 'it returns false'. Refute it at one input. -/
def asmAllWrong : ChangeSpec := { name := "asmAll", fn := fun _ => fun
  | [d] => { results := [.lit (.bool false)], args := [d] }
  | _ => none }
def AsmAllWrongFalsely : Prop := asmAllRow.holds Try.pinned (OpenSpec.ofChange asmAllWrong)

/-- 'pintlelaw14.AsmGoes': WHATEVER THE INPUT: true; the input reads as it did. -/
def asmGoesSpec : ChangeSpec := { name := "asmGoes", fn := fun _ => fun
  | [d] => { results := [.lit (.bool true)], args := [d] }
  | _ => none }
def asmGoesRow : OpenClaim := { program := "ytihecimbhhlhaaa", sum := "358bdcce22128689720cc1573bb690f49988d2c17aa2956b80efee87febfbcf7", func := "pintle/pintlelaw14.AsmGoes", spec := "asmGoes", apart := false }
def AsmGoesSaid : Prop := asmGoesRow.holds Try.pinned (OpenSpec.ofChange asmGoesSpec)

/-- ITS FALSE NEIGHBOUR: 'it returns false'. Refute it at one input. -/
def asmGoesWrong : ChangeSpec := { name := "asmGoes", fn := fun _ => fun
  | [d] => { results := [.lit (.bool false)], args := [d] }
  | _ => none }
def AsmGoesWrongFalsely : Prop := asmGoesRow.holds Try.pinned (OpenSpec.ofChange asmGoesWrong)

/- THE SECOND FORM. 'bulk': how many values and letters a reading holds, each counted each time it is reached (what is shared counts as often as it is met; a slice's spare places count too). A statement '..UptoSaid' is the law's where the arguments, and the package variables that the reading takes, are together of bulk at most 1048576: NARROWER than '..Said'. Prove '..Said' where nothing that the law and all that it calls make is longer than what came in: it says more and counts as full. Else prove '..UptoSaid'. A law counts once. -/
mutual
def uptoBulk {H : Type} : DataW H → Nat
  | .lit (.string bytes) => bytes.length + 1
  | .lit _ => 1
  | .nil => 1
  | .ptr d => uptoBulk d + 1
  | .slice elems spare => uptoBulkAll elems + uptoBulkAll spare + 1
  | .agg parts => uptoBulkAll parts + 1
  | .iface _ d => uptoBulk d + 1
  | .map entries => uptoBulkEntries entries + 1
  | .held _ => 1
def uptoBulkAll {H : Type} : List (DataW H) → Nat
  | [] => 0
  | d :: r => uptoBulk d + uptoBulkAll r
def uptoBulkEntries {H : Type} : List (Lit × DataW H) → Nat
  | [] => 0
  | x :: r => uptoBulkEntry x + uptoBulkEntries r
def uptoBulkEntry {H : Type} : Lit × DataW H → Nat
  | (.string bytes, d) => bytes.length + uptoBulk d + 1
  | (_, d) => uptoBulk d + 1
 end
def uptoSmall : (H : Type) → List (DataW H) → Bool := fun _ ds => decide (uptoBulkAll ds ≤ 1048576)
def OpenSpec.upto (s : _root_.Go.ChangeSpec) : _root_.Go.OpenSpec := { _root_.Go.OpenSpec.ofChange s with cond := some uptoSmall }

/-- 'pintlelaw13.RelaxReach', WHERE WHAT IT READS IS OF BULK AT MOST 1048576: true; the input reads as it did. -/
def relaxReachUptoRow : OpenClaim := { program := "ytihecimbhhlhaaa", sum := "358bdcce22128689720cc1573bb690f49988d2c17aa2956b80efee87febfbcf7", func := "pintle/pintlelaw13.RelaxReach", spec := "relaxReach", apart := false, narrowed := true }
def RelaxReachUptoSaid : Prop := relaxReachUptoRow.holds Try.pinned (OpenSpec.upto relaxReachSpec)

/-- 'pintlelaw13.RelaxLeast', WHERE WHAT IT READS IS OF BULK AT MOST 1048576: true; the input reads as it did. -/
def relaxLeastUptoRow : OpenClaim := { program := "ytihecimbhhlhaaa", sum := "358bdcce22128689720cc1573bb690f49988d2c17aa2956b80efee87febfbcf7", func := "pintle/pintlelaw13.RelaxLeast", spec := "relaxLeast", apart := false, narrowed := true }
def RelaxLeastUptoSaid : Prop := relaxLeastUptoRow.holds Try.pinned (OpenSpec.upto relaxLeastSpec)

/-- 'pintlelaw14.AsmAll', WHERE WHAT IT READS IS OF BULK AT MOST 1048576: true; the input reads as it did. -/
def asmAllUptoRow : OpenClaim := { program := "ytihecimbhhlhaaa", sum := "358bdcce22128689720cc1573bb690f49988d2c17aa2956b80efee87febfbcf7", func := "pintle/pintlelaw14.AsmAll", spec := "asmAll", apart := false, narrowed := true }
def AsmAllUptoSaid : Prop := asmAllUptoRow.holds Try.pinned (OpenSpec.upto asmAllSpec)

/-- 'pintlelaw14.AsmGoes', WHERE WHAT IT READS IS OF BULK AT MOST 1048576: true; the input reads as it did. -/
def asmGoesUptoRow : OpenClaim := { program := "ytihecimbhhlhaaa", sum := "358bdcce22128689720cc1573bb690f49988d2c17aa2956b80efee87febfbcf7", func := "pintle/pintlelaw14.AsmGoes", spec := "asmGoes", apart := false, narrowed := true }
def AsmGoesUptoSaid : Prop := asmGoesUptoRow.holds Try.pinned (OpenSpec.upto asmGoesSpec)

end Rows
end Go.Proofs.Ytihecimbhhlhaaa
