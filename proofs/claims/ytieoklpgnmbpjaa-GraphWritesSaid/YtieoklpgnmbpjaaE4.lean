/- The reader: a list of numbers. -/
import Derived.Test.YtieoklpgnmbpjaaE3
namespace Go.Proofs.Ytieoklpgnmbpjaa.Gr
open Go.RowKit Dr
open Go.Proofs.YtieoklpgnmbpjaaW.PrintWords (Kd Kd.C Kd.R Kd.C_below Kd.C_get Kd.R_below Kd.R_reads Kd.R_reads' Kd.R_types Kd.R_step Kd.R_alloc Kd.R_drew Kd.R_lower add_field Kd.R_append Kd.R_bound Kd.R_move Kd.R_mono Kd.R_nil)
set_option linter.unusedVariables false
set_option linter.unusedSimpArgs false
set_option maxRecDepth 100000
theorem gate_builtin {P : Program} {ops : Array Oper} {rest : List Oper} {o : Oper} {a : Act} {W : World} {Q : Exit → Act → World → Prop} {b : Builtin} {xs : Array Operand} {ts : Array TypeId} (_ho : o.op = .call { callee := .builtin b, args := xs, argTypes := ts }) (h : wpList P ops Q (o :: rest) a W) : wpList P ops Q (o :: rest) a W := h
def lst : Nat → List Int × Int → List Int × (List Int × Int)
  | 0, s => ([], s)
  | n + 1, s => ((lst n s).1 ++ [(num (lst n s).2).1], (num (lst n s).2).2)
theorem lst_ok {s : List Int × Int} (h : okB s.1) : ∀ n, okB (lst n s).2.1
  | 0 => h
  | n + 1 => num_ok (lst_ok h n)
theorem lst_len (s : List Int × Int) : ∀ n, (lst n s).1.length = n
  | 0 => rfl
  | n + 1 => by simp [lst, lst_len s n]
theorem info3 : (Try.prog.info? 3).map (fun i => (i.zero, i.size, i.bytes)) = some (some (.int .i64 0), (Kd.int .i64).sz, 8) := by kernel_rfl
theorem R_grown {α : Type} {d : Kd α} {e base g : Nat} {W W' : World} {ok : Nat → Prop} {v : Value} {xs : List α} (h : d.R e W base ok v xs) (hg : W.grownBy W' (some g)) (hb : g < base) : d.R e W' base ok v xs :=
  Kd.R_mono (Kd.R_move (Kd.R_bound h) (fun k hk => hg.block k hk.2.2.1 (fun e => by injection e with e; omega))) (fun _ hk => hk.1)
theorem grown_on {a b c : World} {r : Option Nat} (h : a.grownBy b r) (k : Below a.heap.size b c) : a.grownBy c r :=
  ⟨k.os.trans h.os, k.tape.trans h.tape, k.output.trans h.output, Nat.le_trans h.size k.size, fun i hi hr => (k.block i hi).trans (h.block i hi hr)⟩
theorem RD_lt {W : World} {b g : Nat} {s : List Int × Int} (h : RD W b g s) : g < W.heap.size := by
  obtain ⟨_, _, h, _⟩ := h
  exact blk_lt h
set_option maxHeartbeats 8000000 in
theorem list_is (b g n : Nat) (s : List Int × Int) (w : World) (hb : b ≤ g) (hn : n ≤ 1000) (ho : okB s.1) (h : RD w b g s) :
    Calls Try.prog 19 #[.pointer (some ⟨g, 0, none⟩), .int .i64 (n : Int)] w fun e w' => ∃ v, e = .returned v ∧ Kd.R (Kd.int .i64) 3 w' w.heap.size (fun _ => True) v (lst n s).1 ∧ RD w' b g (lst n s).2 ∧ w.grownBy w' (some g) := by
  have H := Lib.hid h
  have hgw := RD_lt h
  clear h
  go_enter Try.func19, Try.ntmps19
  go_wp2
  refine wp_loopS [5, 7, 8, 9, 10, 11, 12, 13, 14] (fun sl W => ∃ i : Nat, sl 7 = .int .i64 (i : Int) ∧ i ≤ n ∧ ∃ v, sl 5 = v ∧ Kd.R (Kd.int .i64) 3 W w.heap.size (fun _ => True) v (lst i s).1 ∧ RD W b g (lst i s).2 ∧ w.grownBy W (some g)) (fun sl W => Msr (n : Int) (sl 7)) ⟨0, rfl, Nat.zero_le _, _, rfl, Kd.R_nil _ _ _ _ _, H.out, grown_refl _ _⟩ ?_
  intro vs W a hb' hI
  obtain ⟨i, hsl, hi, v, h5, hR, hD, hg⟩ := hI
  simp only [setSlots, Act.put, List.setIfInBounds_toArray, List.set_cons_succ, List.set_cons_zero] at hb'
  subst hb'
  replace hsl : vs 7 = .int .i64 (i : Int) := hsl
  replace h5 : vs 5 = v := h5
  rw [hsl, h5]
  clear hsl h5
  have HR := Lib.hid hR
  have HD := Lib.hid hD
  have HG := Lib.hid hg
  clear hR hD hg
  by_cases hil : i < n
  · have hd : decide ((i : Int) < (n : Int)) = true := by simp; omega
    have hinc : IntKind.i64.wrap ((i : Int) + 1) = (i : Int) + 1 := IntWalk.i64_in _ (by omega)
    go_wp2_with (first
      | (go_at_call 21; refine (number_is b g _ _ hb (lst_ok ho i) HD.out).mono ?_; rintro e w1 ⟨rfl, hR1, hg1⟩; have HR1 := Lib.hid (R_grown HR.out hg1 hgw); have HD1 := Lib.hid hR1; have HG1 := Lib.hid (grown_trans HG.out hg1); clear hR1 hg1)
      | ((with_reducible refine gate_builtin (b := .append) (xs := #[.tmp 9, .tmp 12]) rfl ?_); at_builtin; refine Kd.R_append (Kd.int .i64) (w0 := w1) w.heap.size rfl (.tmp 9) (.tmp 12) 50 3 (.int .i64 0) 8 rfl Try.underlying50 info3 rfl (by decide) (by omega) v (lst i s).1 (num (lst i s).2).1 [.int .i64 (num (lst i s).2).1] (fun _ => True) (fun _ => False) rfl rfl rfl (fun _ hk => hk.elim) (fun _ _ => trivial) HR1.out (Below.refl _ _) HG1.out.size (by rw [lst_len]; omega) ?_; intro v1 w2 ho2 hb2 hg2 hat2; have HR2 := Lib.hid ho2; have HB2 := Lib.hid hb2; clear ho2 hb2 hg2 hat2))
    exact ⟨loop_frame (by kernel_rfl), ⟨i + 1, by show Value.int .i64 _ = _; simp, by omega, v1, rfl, HR2.out, RD_step HD1.out (HB2.out.mono (by omega)) (HB2.out.block g hgw), grown_on HG1.out HB2.out⟩, Msr.lt (by omega)⟩
  · have hd : decide ((i : Int) < (n : Int)) = false := by simp; omega
    obtain rfl : i = n := by omega
    go_wp2
    go_ret
    exact ⟨v, rfl, HR.out, HD.out, HG.out⟩
end Go.Proofs.Ytieoklpgnmbpjaa.Gr
