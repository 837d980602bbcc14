/- The reader: a constant. -/
import Derived.Test.YtieoklpgnmbpjaaE4
namespace Go.Proofs.Ytieoklpgnmbpjaa.Gr
open Go.RowKit Dr
open Go.Proofs.YtieoklpgnmbpjaaW.PrintWords (Kd Kd.C Kd.R Kd.C_below Kd.C_get Kd.R_below Kd.R_reads Kd.R_reads' Kd.R_types Kd.R_step Kd.R_alloc Kd.R_drew Kd.R_lower add_field Kd.R_append Kd.R_bound Kd.R_move Kd.R_mono Kd.R_nil Kd.R_set Kd.R_ne Kd.R_over' Kd.R_typed Kd.C_nil Kd.R_slice)
set_option linter.unusedVariables false
set_option linter.unusedSimpArgs false
set_option maxRecDepth 100000
theorem many_in {most : Int} (hm : 0 ≤ most) (s : List Int × Int) : 0 ≤ (many most s).1 ∧ (many most s).1 ≤ most := by
  unfold many
  split
  · exact ⟨Int.le_refl _, hm⟩
  · omega
theorem take_ok {n : Nat} {s : List Int × Int} (h : okB s.1) : okB (take n s).2.1 := by
  unfold take
  split
  · exact h
  · exact fun x hx => h x (List.mem_of_mem_drop hx)
theorem take_len {n : Nat} {s : List Int × Int} : ((take n s).1.getD []).length ≤ n := by
  unfold take
  split
  · simp
  · simp only [Option.getD_some, List.length_take]; omega
theorem take_in (b g : Nat) (s : List Int × Int) (n : Nat) (w : World) (hb : b ≤ g) (h : RD w b g s) :
    Calls Try.prog 25 #[.pointer (some ⟨g, 0, none⟩), .int .i64 (n : Int)] w fun e w' =>
      (∃ A c, e = .returned (.slice A ((take n s).1.getD []).length c) ∧ (∀ a, A = some a → a.block < b) ∧ Kd.C (Kd.int .u8) w' A ((take n s).1.getD []).length ((take n s).1.getD [])) ∧ RD w' b g (take n s).2 ∧ w.grownBy w' (some g) := by
  refine (take_is b g s n w hb h).mono fun e w' hh => ?_
  obtain ⟨h1, h2, h3⟩ := hh
  refine ⟨?_, h2, h3⟩
  revert h1
  cases (take n s).1 with
  | none => exact fun h1 => ⟨none, 0, h1, (fun _ ha => by cases ha), Kd.C_nil _ _⟩
  | some xs => exact fun ⟨ad, c, k1, k2, k3, k4⟩ => ⟨some ad, c, k1, (fun a ha => by cases ha; exact k3), k4⟩
theorem R_slc {α : Type} {d : Kd α} {e base : Nat} {W : World} {ok : Nat → Prop} {v : Value} {xs : List α} (h : d.R e W base ok v xs) : ∃ A n c, v = .slice A n c := by
  obtain ⟨A, c, h⟩ := Kd.R_slice h
  exact ⟨A, _, c, h⟩
/-- Words, until something is wrong. -/
def wrd : Nat → List Int × Int → List Int × (List Int × Int)
  | 0, s => ([], s)
  | n + 1, s => if (wrd n s).2.2 = 0 then ((wrd n s).1 ++ [IntKind.i32.wrap (num (wrd n s).2).1], (num (wrd n s).2).2) else wrd n s
theorem wrd_ok {s : List Int × Int} (h : okB s.1) : ∀ n, okB (wrd n s).2.1
  | 0 => h
  | n + 1 => by
    unfold wrd
    split
    · exact num_ok (wrd_ok h n)
    · exact wrd_ok h n
theorem wrd_len (s : List Int × Int) : ∀ n, (wrd n s).1.length ≤ n
  | 0 => Nat.le_refl _
  | n + 1 => by
    have := wrd_len s n
    unfold wrd
    split
    · simp; omega
    · omega
theorem wrd_stop {s : List Int × Int} {i : Nat} (h : (wrd i s).2.2 ≠ 0) : ∀ d, wrd (i + d) s = wrd i s
  | 0 => rfl
  | d + 1 => by
    have ih := wrd_stop h d
    show (if (wrd (i + d) s).2.2 = 0 then _ else _) = _
    rw [ih, if_neg h]
    exact ih
/-- The bytes of a constant, and what is left. -/
def cby (s : List Int × Int) : List Int × (List Int × Int) := (((take (many 65536 s).1.toNat (many 65536 s).2).1.getD []).map IntKind.i8.wrap, (take (many 65536 s).1.toNat (many 65536 s).2).2)
def cwd (s : List Int × Int) : List Int × (List Int × Int) := wrd (many 65536 s).1.toNat (many 65536 s).2
def con (s : List Int × Int) : (List Int × List Int) × (List Int × Int) :=
  (((cby s).1, (cwd (cby s).2).1), ((cwd (cby s).2).2.1, if 0 < (cby s).1.length ∧ 0 < (cwd (cby s).2).1.length then fails 4 (cwd (cby s).2).2.2 else (cwd (cby s).2).2.2))
theorem cby_ok {s : List Int × Int} (h : okB s.1) : okB (cby s).2.1 := take_ok (many_ok h)
theorem cwd_ok {s : List Int × Int} (h : okB s.1) : okB (cwd s).2.1 := wrd_ok (many_ok h) _
theorem con_ok {s : List Int × Int} (h : okB s.1) : okB (con s).2.1 := cwd_ok (cby_ok h)
theorem info61 : (Try.prog.info? 61).map (fun i => (i.zero, i.size, i.bytes)) = some (some (.int .i8 0), (Kd.int .i8).sz, 1) := by kernel_rfl
theorem info21 : (Try.prog.info? 21).map (fun i => (i.zero, i.size, i.bytes)) = some (some (.int .i32 0), (Kd.int .i32).sz, 4) := by kernel_rfl
/-- What lies in memory while a constant is read. -/
structure CS (w : World) (b g : Nat) (W : World) (u v : Value) (xs ys : List Int) (s : List Int × Int) : Prop where
  blk : W.heap[w.heap.size]? = some (.cells #[u, v] 42 (0, 0))
  ru : Kd.R (Kd.int .i8) 61 W w.heap.size (fun _ => True) u xs
  rv : Kd.R (Kd.int .i32) 21 W w.heap.size (fun _ => True) v ys
  rd : RD W b g s
  gr : w.grownBy W (some g)
theorem CS.grown {w W W' : World} {b g : Nat} {u v : Value} {xs ys : List Int} {s s' : List Int × Int} (h : CS w b g W u v xs ys s) (hg : W.grownBy W' (some g)) (hgw : g < w.heap.size) (hd : RD W' b g s') : CS w b g W' u v xs ys s' :=
  ⟨(hg.block _ (blk_lt h.blk) (fun e => by injection e with e; omega)).trans h.blk, R_grown h.ru hg hgw, R_grown h.rv hg hgw, hd, grown_trans h.gr hg⟩
theorem CS.setu {w W W1 : World} {b g : Nat} {u v u1 : Value} {xs ys zs : List Int} {s : List Int × Int} (h : CS w b g W u v xs ys s) (hgw : g < w.heap.size) (hb : b ≤ g) (h1 : Kd.R (Kd.int .i8) 61 W1 w.heap.size (fun _ => True) u1 zs) (hB : Below w.heap.size W W1) (hg : W.grownBy W1 u.ownBlock) : CS w b g (W1.setCell ⟨w.heap.size, 0, none⟩ u1) u1 v zs ys s := by
  have hk : W1.heap[w.heap.size]? = some (.cells #[u, v] 42 (0, 0)) := (hg.block _ (blk_lt h.blk) (Kd.R_ne h.ru h.blk (by decide))).trans h.blk
  exact ⟨blk_put hk 0 _ rfl, Kd.R_set h1 hk (by decide) _ _, Kd.R_set (Kd.R_over' h.rv (Kd.R_typed h.ru) (by decide) hg) hk (by decide) _ _,
    RD_step h.rd ((hB.mono (by omega)).setCell (by show b ≤ w.heap.size; omega) _) ((Below.heap_setCell _ _ _ _ (by show g ≠ w.heap.size; omega)).trans (hB.block g hgw)),
    grown_on h.gr (hB.setCell (Nat.le_refl _) _)⟩
theorem CS.setv {w W W1 : World} {b g : Nat} {u v v1 : Value} {xs ys zs : List Int} {s : List Int × Int} (h : CS w b g W u v xs ys s) (hgw : g < w.heap.size) (hb : b ≤ g) (h1 : Kd.R (Kd.int .i32) 21 W1 w.heap.size (fun _ => True) v1 zs) (hB : Below w.heap.size W W1) (hg : W.grownBy W1 v.ownBlock) : CS w b g (W1.setCell ⟨w.heap.size, 1, none⟩ v1) u v1 xs zs s := by
  have hk : W1.heap[w.heap.size]? = some (.cells #[u, v] 42 (0, 0)) := (hg.block _ (blk_lt h.blk) (Kd.R_ne h.rv h.blk (by decide))).trans h.blk
  exact ⟨blk_put hk 1 _ rfl, Kd.R_set (Kd.R_over' h.ru (Kd.R_typed h.rv) (by decide) hg) hk (by decide) _ _, Kd.R_set h1 hk (by decide) _ _,
    RD_step h.rd ((hB.mono (by omega)).setCell (by show b ≤ w.heap.size; omega) _) ((Below.heap_setCell _ _ _ _ (by show g ≠ w.heap.size; omega)).trans (hB.block g hgw)),
    grown_on h.gr (hB.setCell (Nat.le_refl _) _)⟩
theorem CS.again {w W : World} {b g : Nat} {u v : Value} {xs ys : List Int} {s : List Int × Int} (h : CS w b g W u v xs ys s) (hgw : g < w.heap.size) (hb : b ≤ g) : CS w b g ((W.setCell ⟨w.heap.size, 0, none⟩ u).setCell ⟨w.heap.size, 1, none⟩ v) u v xs ys s := by
  have k1 : (W.setCell ⟨w.heap.size, 0, none⟩ u).heap[w.heap.size]? = some (.cells #[u, v] 42 (0, 0)) := blk_put h.blk 0 _ rfl
  have B : Below w.heap.size W ((W.setCell ⟨w.heap.size, 0, none⟩ u).setCell ⟨w.heap.size, 1, none⟩ v) := ((Below.refl _ _).setCell (p := ⟨w.heap.size, 0, none⟩) (Nat.le_refl _) _).setCell (p := ⟨w.heap.size, 1, none⟩) (Nat.le_refl _) _
  exact ⟨blk_put k1 1 _ rfl, Kd.R_set (Kd.R_set h.ru h.blk (by decide) _ _) k1 (by decide) _ _, Kd.R_set (Kd.R_set h.rv h.blk (by decide) _ _) k1 (by decide) _ _,
    RD_step h.rd (B.mono (by omega)) (B.block g hgw), grown_on h.gr B⟩
end Go.Proofs.Ytieoklpgnmbpjaa.Gr
