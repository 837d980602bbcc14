/- By; lives. -/
import Derived.Test.YtihecimbhhlhaaaRl9
import Derived.Test.YtihecimbhhlhaaaRsMc
namespace Go.Proofs.Ytihecimbhhlhaaa.Rl
open Go.RowKit Dr PRs
open Go.Proofs.YtihecimbhhlhaaaW.PrintWords (Kd Kd.C Kd.R Kd.C_below Kd.C_get Kd.R_below Kd.R_reads Kd.R_reads' Kd.R_types Kd.R_step Kd.R_alloc Kd.R_drew Kd.R_lower add_field)
set_option linter.unusedVariables false
set_option linter.unusedSimpArgs false
set_option maxRecDepth 100000
theorem fa34 (a : Addr) (W : World) : (Instr.fieldAt 34 (.pointer (some a)) 2).run Try.prog W = .ok (.pointer (some (a.add 6))) W := by kernel_rfl
theorem fa34k (a : Addr) (W : World) : (Instr.fieldAt 34 (.pointer (some a)) 0).run Try.prog W = .ok (.pointer (some (a.add 0))) W := by kernel_rfl
theorem ld_fld {W : World} {A : Option Addr} {l : List S34} (h : Kd.C k34 W A l.length l) {i q : Nat} {v : Value} (hi : i < l.length) (hv : (it (l.getD i z34))[q]? = some v) : ∃ ad, A = some ad ∧ W.cell? ((ad.add (i * 7)).add q) = some v := by
  obtain ⟨ad, c, e, _, hK, hc⟩ := Kd.C_get h z34 (i : Int) (by omega) (by omega)
  rw [Int.toNat_natCast] at hK hc
  obtain rfl := k34_open hK
  refine ⟨ad, e, ?_⟩
  rw [Addr.add_add]
  exact hc q v (by simpa using hv)
abbrev sm (y : S48) : Array Value := #[.int .i64 y.f0, .int .i64 y.f1.f0, .int .i64 y.f1.f1.f0, .int .i64 y.f1.f1.f1, .int .i64 y.f1.f1.f2, .int .i64 y.f1.f1.f3, .int .i32 y.f1.f1.f4, .int .i64 y.f1.f2]
def row3 (m : Int) : Array Value := sm ⟨0, lbI⟩ ++ sm ⟨m, npI⟩ ++ sm ⟨0, brI⟩
def rowS (l : List S34) (g0 : Nat) : DSpec (fun W W' => Below W.heap.size W W') := ⟨fun v W => ∃ A c, v = .slice A l.length c ∧ l.length ≤ c ∧ Kd.C k34 W A l.length l, fun _ _ _ ⟨A, c, h1, h2, h3⟩ hb => ⟨A, c, h1, h2, Kd.C_below h3 hb⟩⟩
def layP (l : List S34) (far : Nat → Bool) (adb : Addr) (cb gf : Nat) (W : World) : Prop := (l.length + 1 ≤ cb ∧ Kd.C (Kd.int .i64) W (some adb) (l.length + 1) (begs l far (l.length + 1)) ∧ Kd.C Kd.bool W (some ⟨gf, 0, none⟩) l.length (farL far l.length)) ∧ (good l far ∧ FI l far)
theorem layP_below {l : List S34} {far : Nat → Bool} {adb : Addr} {cb gf : Nat} {W W' : World} (h : layP l far adb cb gf W) (hb : Below W.heap.size W W') : layP l far adb cb gf W' := ⟨⟨h.1.1, Kd.C_below h.1.2.1 hb, Kd.C_below h.1.2.2 hb⟩, h.2⟩
def layV (l : List S34) (adb : Addr) (cb gf : Nat) : Value := .tuple #[.slice (some adb) (l.length + 1) cb, .slice (some ⟨gf, 0, none⟩) l.length l.length, .int .i64 0]
def layS (l : List S34) : DSpec (fun W W' => Below W.heap.size W W') := ⟨fun v W => ∃ far adb cb gf, v = layV l adb cb gf ∧ layP l far adb cb gf W, fun _ _ _ ⟨far, adb, cb, gf, h1, h2⟩ hb => ⟨far, adb, cb, gf, h1, layP_below h2 hb⟩⟩
def aS (l : List S34) : DSpec (fun W W' => Below W.heap.size W W') := ⟨fun v W => ∃ adb cb, v = .slice (some adb) (l.length + 1) cb, fun _ _ _ h _ => h⟩
def fS (l : List S34) : DSpec (fun W W' => Below W.heap.size W W') := ⟨fun v W => ∃ far gf, v = .slice (some ⟨gf, 0, none⟩) l.length l.length ∧ Kd.C Kd.bool W (some ⟨gf, 0, none⟩) l.length (farL far l.length) ∧ good l far ∧ FI l far, fun _ _ _ ⟨far, gf, h1, h2, h3⟩ hb => ⟨far, gf, h1, Kd.C_below h2 hb, h3⟩⟩
end Go.Proofs.Ytihecimbhhlhaaa.Rl
