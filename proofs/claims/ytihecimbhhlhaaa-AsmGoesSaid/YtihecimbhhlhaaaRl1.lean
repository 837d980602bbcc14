/- Items; a map of labels; where items begin. -/
import Derived.Test.YtihecimbhhlhaaaOps
import Derived.Test.YtihecimbhhlhaaaMem
import Derived.Test.YtihecimbhhlhaaaRsG1
import Derived.WalkKit
import Derived.Carry
import Derived.Maps.Own
import Derived.Maps.OwnSet
import Derived.Maps.OwnOps
import Derived.Maps.Views
import Derived.Maps.Keyed
namespace Go.Proofs.Ytihecimbhhlhaaa.Rl
open Go.RowKit Dr PRs
open Go.Proofs.YtihecimbhhlhaaaW.PrintWords (Kd Kd.C Kd.R Kd.C_below Kd.C_get Kd.R_below Kd.R_reads Kd.R_reads' Kd.R_types Kd.R_step Kd.R_alloc Kd.R_drew Kd.R_lower add_field)
set_option linter.unusedVariables false
set_option linter.unusedSimpArgs false
set_option maxRecDepth 100000
theorem law3 : Maps.Keyed Try.prog 3 := Maps.int_keyed Try.underlying3
theorem zero3 (w : World) : (zeroValue 3).run Try.prog w = .ok (.int .i64 0) w := by kernel_rfl
def In64 (n : Int) : Prop := -9223372036854775808 ≤ n ∧ n ≤ 9223372036854775807
theorem wf64 {n : Int} (h : In64 n) : (Lit.int .i64 n).wf = true := by
 unfold In64 at h
 simp only [Lit.wf, Bool.and_eq_true, decide_eq_true_eq]
 have e1 : IntKind.i64.min = -9223372036854775808 := by decide
 have e2 : IntKind.i64.max = 9223372036854775807 := by decide
 rw [e1, e2]
 exact h
theorem key64 {n : Int} (h : In64 n) : keyOf Try.prog 3 (.int .i64 n) = some (Lit.int .i64 n) := Maps.keyOf_int_mk Try.underlying3 (wf64 h)
/-- Block b is a map of at most m entries that gives f. -/
def mapIs (W : World) (b m : Nat) (f : Int → Option Int) : Prop :=
 ∃ (n : Nat) (D : DataW Unit), n ≤ m ∧ W.ownsMap Try.prog 3 (plainElem Try.prog 3) b n D ∧ Maps.IsMap D ∧ ∀ key, In64 key → Maps.has D (.int .i64 key) = (f key).isSome ∧ D.atKey (.int .i64 key) (.lit (.int .i64 0)) = .lit (.int .i64 ((f key).getD 0))
theorem mapIs_new (W : World) : mapIs (W.alloc (.map #[] 0)) W.heap.size 0 (fun _ => none) :=
 ⟨0, _, Nat.le_refl _, World.ownsMap_made _ _ _ _, ⟨[], rfl⟩, fun key _ => ⟨rfl, rfl⟩⟩
theorem mapIs_same {W W' : World} {b m : Nat} {f : Int → Option Int} (h : mapIs W b m f) (e : W'.heap[b]? = W.heap[b]?) : mapIs W' b m f := by
 obtain ⟨n, D, hn, ⟨es, clock, hb, F, hs, hD⟩, hM, hf⟩ := h
 exact ⟨n, D, hn, ⟨es, clock, e.trans hb, F, hs, hD⟩, hM, hf⟩
theorem mapIs_lt {W : World} {b m : Nat} {f : Int → Option Int} (h : mapIs W b m f) : b < W.heap.size := by
 obtain ⟨n, D, hn, h, _⟩ := h
 exact h.lt
theorem mapIs_below {W W' : World} {b m : Nat} {f : Int → Option Int} (h : mapIs W b m f) (hb : Below W.heap.size W W') : mapIs W' b m f := mapIs_same h (hb.block b (mapIs_lt h))
theorem mapIs_alloc {W : World} {b m : Nat} {f : Int → Option Int} (h : mapIs W b m f) (o : Obj) : mapIs (W.alloc o) b m f := mapIs_same h (Below.heap_alloc W o b (mapIs_lt h))
theorem mapIs_sets {W : World} {b m g : Nat} {f : Int → Option Int} {l : List Value} (h : mapIs W b m f) (hb : b ≠ g) (o : Nat) : mapIs (W.setCells g o l) b m f :=
 mapIs_same h ((blk_puts_far (Array.getElem?_eq_getElem (mapIs_lt h)) hb).trans (Array.getElem?_eq_getElem (mapIs_lt h)).symm)
theorem mapIs_mono {W : World} {b m m' : Nat} {f : Int → Option Int} (h : mapIs W b m f) (hm : m ≤ m') : mapIs W b m' f := by
 obtain ⟨n, D, hn, r⟩ := h
 exact ⟨n, D, Nat.le_trans hn hm, r⟩
theorem look {W : World} {b m : Nat} {f : Int → Option Int} (h : mapIs W b m f) {key : Int} (hk : In64 key) : (Instr.lookup 49 (.map (some b)) (.int .i64 key) false).run Try.prog W = .ok (.int .i64 ((f key).getD 0)) W := by
 obtain ⟨n, D, hn, ho, hM, hf⟩ := h
 obtain ⟨c, hr, hat, _⟩ := ho.lookup_int law3 Try.underlying49 Try.underlying3 (zero3 W) (key64 hk)
 rw [(hf key hk).2] at hat
 simp only [DataW.lit.injEq, Lit.int.injEq, true_and] at hat
 rw [hr, hat]
theorem look_ok {W : World} {b m : Nat} {f : Int → Option Int} (h : mapIs W b m f) {key : Int} (hk : In64 key) : (Instr.lookup 49 (.map (some b)) (.int .i64 key) true).run Try.prog W = .ok (.tuple #[.int .i64 ((f key).getD 0), .bool (f key).isSome]) W := by
 obtain ⟨n, D, hn, ho, hM, hf⟩ := h
 obtain ⟨v, ps, hr, hv⟩ := ho.look_ok law3 Try.underlying49 (zero3 W) (plainElem_int Try.underlying3 (by decide)) (key64 hk)
 obtain ⟨c, rfl, hc, _⟩ := plainElem_int_inv Try.underlying3 hv
 have hc := congrArg Prod.fst hc
 simp only at hc
 rw [(hf key hk).2] at hc
 simp only [DataW.lit.injEq, Lit.int.injEq, true_and] at hc
 rw [hr, (hf key hk).1, hc]
def fput (f : Int → Option Int) (key v : Int) : Int → Option Int := fun k => if k = key then some v else f k
theorem map_put {W : World} {b m : Nat} {f : Int → Option Int} (h : mapIs W b m f) {key v : Int} (hk : In64 key) (hv : In64 v) (hm : m < maxLen) : ∃ W', (Instr.mapUpdate 49 (.map (some b)) (.int .i64 key) (.int .i64 v)).run Try.prog W = .ok () W' ∧ mapIs W' b (m + 1) (fput f key v) ∧ W.grownBy W' (some b) := by
 obtain ⟨n, D, hn, ho, hM, hf⟩ := h
 obtain ⟨W', hr, ho', hg⟩ := ho.update law3 Try.underlying49 (by omega) (key64 hk) (plainElem_int Try.underlying3 (wf64 hv))
 refine ⟨W', hr, ⟨n + 1, _, by omega, ho', ho'.isMap, fun k hk' => ?_⟩, hg⟩
 unfold fput
 by_cases e : k = key
 · subst e
   rw [if_pos rfl]
   exact ⟨Maps.has_put_same hM (by first | trivial | exact wf64 hk | simp [WideAt.IsKeyLit]) _, Maps.atKey_put_same hM (by first | trivial | exact wf64 hk | simp [WideAt.IsKeyLit]) _ _⟩
 · rw [if_neg e]
   have hne : (Lit.int .i64 k) ≠ (Lit.int .i64 key) := by
    intro h
    injection h with _ h
    exact e h
   rw [Maps.has_put_other hne, Maps.atKey_put_other hne]
   exact hf k hk'
theorem st_lookup {P : Program} {o : Oper} {b : Act} {W : World} {Q : Exit → Act → World → Prop} {K : Act → World → Prop} {t : TypeId} {x i : Operand} {ok : Bool} {X I v : Value} (ho : o.op = .lookup t x i ok) (hx : b.eval x = X) (hi : b.eval i = I) (h : (Instr.lookup t X I ok).run P W = .ok v W) (hK : K (b.put o.dst v) W) : Oper.wp P o b W K Q := by
 refine st_run ?_ hK
 unfold execOp
 rw [ho]
 simp only [hx, hi]
 exact run_v h
theorem st_makeMap {P : Program} {o : Oper} {b : Act} {W W' : World} {Q : Exit → Act → World → Prop} {K : Act → World → Prop} {t : TypeId} {v : Value} (ho : o.op = .makeMap t none) (h : (Instr.makeMap t none).run P W = .ok v W') (hK : K (b.put o.dst v) W') : Oper.wp P o b W K Q := by
 refine st_run ?_ hK
 unfold execOp
 rw [ho]
 exact run_v h
abbrev it (x : S34) : Array Value := #[.int .i64 x.f0, .int .i64 x.f1.f0, .int .i64 x.f1.f1, .int .i64 x.f1.f2, .int .i64 x.f1.f3, .int .i32 x.f1.f4, .int .i64 x.f2]
theorem ix23 {ad : Addr} {n c i : Nat} (h : i < n) (W : World) : (Instr.indexAt 23 (.slice (some ad) n c) (.int .i64 (i : Int))).run Try.prog W = .ok (.pointer (some (ad.add (i * 7)))) W := by
 have e : (sizeOf (Try.prog.elem 23)).run Try.prog W = .ok 7 W := by kernel_rfl
 rw [run_indexAt_slice W 23 ad n c .i64 i (by kernel_rfl), if_pos ⟨by omega, by omega⟩, e]
 simp only [Result.andThen_ok, Int.toNat_natCast]
theorem ix25 {ad : Addr} {n c : Nat} {j : Int} (h0 : 0 ≤ j) (h : j < n) (W : World) : (Instr.indexAt 25 (.slice (some ad) n c) (.int .i64 j)).run Try.prog W = .ok (.pointer (some (ad.add j.toNat))) W := by
 obtain ⟨i, rfl⟩ := Int.eq_ofNat_of_zero_le h0
 have e : (sizeOf (Try.prog.elem 25)).run Try.prog W = .ok 1 W := by kernel_rfl
 rw [run_indexAt_slice W 25 ad n c .i64 i (by kernel_rfl), if_pos ⟨by omega, by omega⟩, e]
 simp only [Result.andThen_ok, Int.toNat_natCast, Nat.mul_one]
theorem ix26 {ad : Addr} {n c i : Nat} (h : i < n) (W : World) : (Instr.indexAt 26 (.slice (some ad) n c) (.int .i64 (i : Int))).run Try.prog W = .ok (.pointer (some (ad.add i))) W := by
 have e : (sizeOf (Try.prog.elem 26)).run Try.prog W = .ok 1 W := by kernel_rfl
 rw [run_indexAt_slice W 26 ad n c .i64 i (by kernel_rfl), if_pos ⟨by omega, by omega⟩, e]
 simp only [Result.andThen_ok, Int.toNat_natCast, Nat.mul_one]
theorem b_len (t : TypeId) (ht : t = 23 ∨ t = 25 ∨ t = 26) {a : Option Addr} {n c : Nat} (cs : Array Bool) (W : World) : (builtin .len #[t] 3 cs #[.slice a n c]).run Try.prog W = .ok (.value (.int .i64 (n : Int))) W := by
 rcases ht with rfl | rfl | rfl <;> kernel_rfl
theorem new34 (W : World) : (Instr.alloc 34 true (.tuple #[])).run Try.prog W = .ok (.pointer (some ⟨W.heap.size, 0, none⟩)) (W.alloc (.cells (it z34) 34)) := by kernel_rfl
/-- An item of a row that is read. -/
theorem ld_it {W : World} {A : Option Addr} {l : List S34} (h : Kd.C k34 W A l.length l) {i : Nat} {x : S34} (hi : l[i]? = some x) :
 ∃ ad, A = some ad ∧ (loadVar 34 (ad.add (i * 7))).run Try.prog W = .ok (.agg (it x)) W := by
 have hlt : i < l.length := (List.getElem?_eq_some_iff.1 hi).1
 obtain ⟨ad, c, e, _, hK, hc⟩ := Kd.C_get h z34 (i : Int) (by omega) (by omega)
 rw [Int.toNat_natCast] at hK hc
 have hx : l.getD i z34 = x := by simp [List.getD, hi]
 rw [hx] at hK
 obtain rfl := k34_open hK
 refine ⟨ad, e, ?_⟩
 have hl : (loadCells (ad.add (i * 7)) 7).run Try.prog W = .ok (it x) W :=
  run_loadCells_list W (ad.add (i * 7)) _ (fun j v hv => by rw [Addr.add_add]; exact hc j v hv)
 have hagg : (isAgg 34).run Try.prog W = .ok true W := by kernel_rfl
 have hs : (sizeOf 34).run Try.prog W = .ok 7 W := by kernel_rfl
 simp [loadVar, Sem.run_bind, hagg, hs, hl]
/-- The place of the label key among the first m items (the last one, if there are two). -/
def lab (l : List S34) : Nat → Int → Option Int
 | 0, _ => none
 | m + 1, key => if (l.getD m z34).f0 = 2 ∧ (l.getD m z34).f2 = key then some (m : Int) else lab l m key
theorem lab_skip {l : List S34} {m : Nat} (h : (l.getD m z34).f0 ≠ 2) : lab l (m + 1) = lab l m := by
 funext key
 simp only [lab]
 rw [if_neg (fun q => h q.1)]
theorem lab_put {l : List S34} {m : Nat} (h : (l.getD m z34).f0 = 2) : fput (lab l m) (l.getD m z34).f2 (m : Int) = lab l (m + 1) := by
 funext key
 simp only [lab, fput]
 by_cases e : key = (l.getD m z34).f2
 · rw [if_pos e, if_pos ⟨h, e.symm⟩]
 · rw [if_neg e, if_neg (fun q => e q.2.symm)]
theorem lab_in {l : List S34} : ∀ {m : Nat} {key j : Int}, lab l m key = some j → ∃ i : Nat, j = (i : Int) ∧ i < m ∧ (l.getD i z34).f0 = 2 ∧ (l.getD i z34).f2 = key
 | 0, _, _, h => by cases h
 | m + 1, key, j, h => by
  simp only [lab] at h
  split at h
  · rename_i q
    exact ⟨m, (Option.some.inj h).symm, Nat.lt_succ_self _, q⟩
  · obtain ⟨i, h1, h2, h3⟩ := lab_in h
    exact ⟨i, h1, by omega, h3⟩
theorem lab_has {l : List S34} : ∀ {m i : Nat}, i < m → (l.getD i z34).f0 = 2 → (lab l m (l.getD i z34).f2).isSome = true
 | 0, _, h, _ => absurd h (by omega)
 | m + 1, i, h, h2 => by
  simp only [lab]
  split
  · rfl
  · rename_i q
    by_cases e : i = m
    · subst e
      exact absurd ⟨h2, rfl⟩ q
    · exact lab_has (by omega) h2
/-- No label stands at two places. -/
def uniq (l : List S34) (m : Nat) : Prop := ∀ i j : Nat, i < j → j < m → (l.getD i z34).f0 = 2 → (l.getD j z34).f0 = 2 → (l.getD i z34).f2 = (l.getD j z34).f2 → False
end Go.Proofs.Ytihecimbhhlhaaa.Rl
