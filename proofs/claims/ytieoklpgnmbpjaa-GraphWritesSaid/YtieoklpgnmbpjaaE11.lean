/- The writer of networks: what lies in memory. -/
import Derived.Test.YtieoklpgnmbpjaaE9
import Derived.ArgAppend
namespace Go.Proofs.Ytieoklpgnmbpjaa.Gr
open Go.RowKit Dr
open Go.Proofs.YtieoklpgnmbpjaaW.PrintWords (Kd Kd.C Kd.R Kd.M_step Kd.C_below Kd.C_get Kd.R_below Kd.R_reads Kd.R_reads' Kd.R_types Kd.R_step Kd.R_alloc Kd.R_drew Kd.R_lower add_field Kd.R_append Kd.R_bound Kd.R_move Kd.R_mono Kd.R_nil Kd.R_set Kd.R_ne Kd.R_over' Kd.R_typed Kd.C_nil Kd.R_slice Kd.R_append_rows Kd.R_form ReadsRow)
set_option linter.unusedVariables false
set_option linter.unusedSimpArgs false
set_option maxRecDepth 100000
def w32 (n : Int) : List Int := [n % 4294967296 % 256, n % 4294967296 / 256 % 256, n % 4294967296 / 65536 % 256, n % 4294967296 / 16777216 % 256]
def in32 (n : Int) : Bool := decide (-2147483648 ≤ n) && decide (n < 2147483648)
/-- How the world turns while the writer writes. -/
structure Wr (b : Nat) (W W' : World) : Prop where
  bel : Below b W W'
  oth : ∀ (k : Nat) (cells : Array Value) (t : Nat), W.heap[k]? = some (.cells cells t (0, 0)) → t ≠ 5 → t ≠ 48 → W'.heap[k]? = some (.cells cells t (0, 0))
theorem Wr.refl (b : Nat) (W : World) : Wr b W W := ⟨Below.refl _ _, fun _ _ _ h _ _ => h⟩
theorem Wr.trans {b : Nat} {W W' W2 : World} (h : Wr b W W') (k : Wr b W' W2) : Wr b W W2 := ⟨h.bel.trans k.bel, fun i cells t h1 h5 h6 => k.oth i cells t (h.oth i cells t h1 h5 h6) h5 h6⟩
theorem Wr.low {b b' : Nat} {W W' : World} (h : Wr b W W') (hb : b' ≤ b) : Wr b' W W' := ⟨h.bel.mono hb, h.oth⟩
theorem Wr.of_below {b : Nat} {W W' : World} (h : Below W.heap.size W W') (hb : b ≤ W.heap.size) : Wr b W W' := ⟨h.mono hb, fun k _ _ h1 _ _ => (h.block k (blk_lt h1)).trans h1⟩
theorem Wr.set {b g t : Nat} {W : World} {cells : Array Value} (h : W.heap[g]? = some (.cells cells t (0, 0))) (ht : t = 48) (hb : b ≤ g) (j : Nat) (v : Value) : Wr b W (W.setCell ⟨g, j, none⟩ v) :=
  ⟨(Below.refl _ _).setCell (p := ⟨g, j, none⟩) hb _, fun k cs t' h1 h5 h6 => (Below.heap_setCell _ _ _ _ (fun e => by
    have e2 : k = g := e
    subst e2
    rw [h] at h1
    injection h1 with h1
    injection h1 with h1 h2
    exact h6 (h2.symm.trans ht))).trans h1⟩
theorem Wr.grown {b : Nat} {W W1 : World} {v : Value} (hB : Below b W W1) (hg : W.grownBy W1 v.ownBlock) (hty : ∀ k, v.ownBlock = some k → ∃ cells fr, W.heap[k]? = some (.cells cells 5 fr)) : Wr b W W1 :=
  ⟨hB, fun k cs t h1 h5 h6 => (hg.block k (blk_lt h1) (fun e => by
    obtain ⟨c2, fr, h2⟩ := hty k e.symm
    rw [h1] at h2
    injection h2 with h2
    injection h2 with h2 h3
    exact h5 h3)).trans h1⟩
def MG : List Int := [78, 78, 84, 49]
def MGR : Array Value := #[.int .u8 78, .int .u8 78, .int .u8 84, .int .u8 49]
/-- Bytes that may be appended to: a row of the call's own, or the four bytes of a constant. -/
def AP (W : World) (b : Nat) (v : Value) (bs : List Int) : Prop := Kd.R (Kd.int .u8) 5 W b (fun _ => True) v bs ∨ ∃ g4, v = .slice (some ⟨g4, 0, none⟩) 4 4 ∧ bs = MG ∧ b ≤ g4 ∧ W.heap[g4]? = some (.cells MGR 5 (4, 5))
theorem AP_typed {W : World} {b : Nat} {v : Value} {bs : List Int} (h : AP W b v bs) : ∀ k, v.ownBlock = some k → ∃ cells fr, W.heap[k]? = some (.cells cells 5 fr) := by
  intro k hk
  rcases h with h | ⟨g4, rfl, _, _, h⟩
  · obtain ⟨cells, hc⟩ := Kd.R_typed h k hk
    exact ⟨cells, _, hc⟩
  · have : g4 = k := by simpa [Value.ownBlock] using hk
    subst this
    exact ⟨_, _, h⟩
theorem AP_ne {W : World} {b g t : Nat} {v : Value} {bs : List Int} {cells : Array Value} (h : AP W b v bs) (hg : W.heap[g]? = some (.cells cells t (0, 0))) (ht : t ≠ 5) : some g ≠ v.ownBlock := by
  intro e
  obtain ⟨c2, fr, h2⟩ := AP_typed h g e.symm
  rw [hg] at h2
  injection h2 with h2
  injection h2 with h2 h3
  exact ht h3
theorem AP_below {W W' : World} {b : Nat} {v : Value} {bs : List Int} (h : AP W b v bs) (hb : Below W.heap.size W W') : AP W' b v bs := by
  rcases h with h | ⟨g4, h1, h2, h3, h⟩
  · exact .inl (Kd.R_below h hb)
  · exact .inr ⟨g4, h1, h2, h3, blk_below h hb⟩
theorem AP_set {W : World} {b g t : Nat} {v : Value} {bs : List Int} {cells : Array Value} (h : AP W b v bs) (hg : W.heap[g]? = some (.cells cells t (0, 0))) (ht : t ≠ 5) (j : Nat) (u : Value) : AP (W.setCell ⟨g, j, none⟩ u) b v bs := by
  rcases h with h | ⟨g4, h1, h2, h3, h⟩
  · exact .inl (Kd.R_set h hg (by intro q hq; simp only [List.mem_cons] at hq; rcases hq with rfl | hq; exact Ne.symm ht; cases hq) j u)
  · refine .inr ⟨g4, h1, h2, h3, (Below.heap_setCell _ _ _ _ (fun e => ?_)).trans h⟩
    have e2 : g4 = g := e
    subst e2
    rw [h] at hg
    injection hg with hg
    injection hg with q1 q2 q3
    exact ht q2.symm
/-- The writer's block: the bytes that it has written, and whether all numbers were of 32 bits. -/
structure WS (b g : Nat) (W : World) (v : Value) (ok : Bool) (bs : List Int) : Prop where
  blk : W.heap[g]? = some (.cells #[v, .bool ok] 48 (0, 0))
  r : AP W b v bs
theorem WS.below {b g : Nat} {W W' : World} {v : Value} {ok : Bool} {bs : List Int} (h : WS b g W v ok bs) (hb : Below W.heap.size W W') : WS b g W' v ok bs := ⟨blk_below h.blk hb, AP_below h.r hb⟩
theorem WS.setok {b g : Nat} {W : World} {v : Value} {ok : Bool} {bs : List Int} (h : WS b g W v ok bs) (ok' : Bool) : WS b g (W.setCell ⟨g, 1, none⟩ (.bool ok')) v ok' bs := ⟨blk_put h.blk 1 _ rfl, AP_set h.r h.blk (by decide) _ _⟩
theorem WS.setb {b g : Nat} {W W1 : World} {v v1 : Value} {ok : Bool} {bs cs : List Int} (h : WS b g W v ok bs) (hg : W.grownBy W1 v.ownBlock) (h1 : Kd.R (Kd.int .u8) 5 W1 b (fun _ => True) v1 cs) : WS b g (W1.setCell ⟨g, 0, none⟩ v1) v1 ok cs :=
  have hk : W1.heap[g]? = some (.cells #[v, .bool ok] 48 (0, 0)) := (hg.block _ (blk_lt h.blk) (AP_ne h.r h.blk (by decide))).trans h.blk
  ⟨blk_put hk 0 _ rfl, .inl (Kd.R_set h1 hk (by decide) _ _)⟩
theorem info5 : (Try.prog.info? 5).map (fun i => (i.zero, i.size, i.bytes)) = some (some (.int .u8 0), (Kd.int .u8).sz, 1) := by kernel_rfl
theorem ap_append {ops : Array Oper} {rest : List Oper} {op : Oper} {act : Act} {Q : Exit → Act → World → Prop} {w0 W : World} (b : Nat) (hgd : op.guard = none) (s x : Operand)
    (ho : op.op = .call { callee := .builtin .append, args := #[s, x], argTypes := #[28, 28] }) (v : Value) (xs ys : List Int) (gg m : Nat) (hs : act.eval s = v) (hx : act.eval x = .slice (some ⟨gg, 0, none⟩) m m)
    (HO : AP W b v xs) (HR : Kd.C (Kd.int .u8) W (some ⟨gg, 0, none⟩) m ys) (hm : 0 < m) (HB : Below b w0 W) (hbase : b ≤ W.heap.size) (hl : xs.length + m ≤ 140737488355328)
    (h : ∀ v1 w1, Kd.R (Kd.int .u8) 5 w1 b (fun _ => True) v1 (xs ++ ys) → Below b w0 w1 → W.grownBy w1 v.ownBlock → wpList Try.prog ops Q rest (act.put op.dst v1) w1) : wpList Try.prog ops Q (op :: rest) act W := by
  rcases HO with HO | ⟨g4, rfl, rfl, hb4, hg4⟩
  · exact Kd.R_append_rows (Kd.int .u8) (Rr := (Kd.int .u8).K W) (w0 := w0) b hgd s x 28 5 (.int .u8 0) 1 ho Try.underlying28 info5 rfl (by decide) (by omega) v xs ys (some ⟨gg, 0, none⟩) m m (fun _ => True) (fun _ => False) hs hx HO HR (fun _ _ h => h) (fun _ hk => hk.elim) (fun _ _ => trivial) HB hbase (by omega) (fun v1 w1 h1 h2 h3 _ => h v1 w1 h1 h2 h3)
  · have hlen : ys.length = m := HR.1
    have hMG : MG.length = 4 := rfl
    obtain ⟨i0, hi, hzz⟩ := Option.map_eq_some_iff.1 info5
    simp only [Prod.mk.injEq] at hzz
    refine wpList_append_arg W hgd s x 28 ho 5 i0 (.int .u8 0) 1 1 Try.underlying28 hi hzz.1 hzz.2.1 hzz.2.2 rfl (by decide) g4 0 4 4 (MG.map (Value.int .u8)) hs rfl (fun j u hj => ?_) ⟨gg, 0, none⟩ m m (ys.map (Value.int .u8)) hx (by simp [hlen]) (fun j u hj => ?_) (fun u hu => ?_) (fun hc => by omega) (by simp only [maxLen]; omega) (by omega) (fun hc => by omega) (fun _ v' w' hown hg => ?_)
    · rw [Nat.zero_add]
      show W.cell? ⟨g4, j, none⟩ = _
      rw [cell_of_row W g4 j MGR 5 (4, 5) hg4]
      simpa [MGR, MG] using hj
    · rw [List.getElem?_map] at hj
      obtain ⟨y, hy, rfl⟩ := Option.map_eq_some_iff.1 hj
      exact C_cell HR hy
    · obtain ⟨y, _, rfl⟩ := List.mem_map.1 hu
      rfl
    · have hg2 : W.grownBy w' (Value.ownBlock (.slice (some ⟨g4, 0, none⟩) 4 4)) := ⟨hg.os, hg.tape, hg.output, hg.size, fun k hk _ => hg.block k hk (by simp)⟩
      refine h v' w' ?_ (HB.grown hg hbase (fun k hk => by cases hk)) hg2
      have h1 := Go.Proofs.YtieoklpgnmbpjaaW.PrintWords.Kd.R_of_own (enc := Value.int .u8) (h1 := fun _ => rfl) (e := 5) (w := w') (base := W.heap.size) (ok := fun _ => True) (v := v') (xs := MG ++ ys) (by
        have e1 : (MG ++ ys).length = 4 + m := by rw [List.length_append, hlen]; rfl
        rw [e1]
        simpa [Go.Proofs.YtieoklpgnmbpjaaW.PrintWords.encs] using hown) (fun _ _ => trivial)
      exact Kd.R_lower h1 hbase
theorem C_mk {k : IntKind} {W : World} {gg t : Nat} {xs : List Int} (h : W.heap[gg]? = some (.cells (xs.map (Value.int k)).toArray t (0, 0))) (hl : xs.length ≤ 9223372036854775807) : Kd.C (Kd.int k) W (some ⟨gg, 0, none⟩) xs.length xs := by
  refine ⟨rfl, hl, fun _ => ⟨_, rfl, fun j p hj => ?_⟩⟩
  refine ⟨[.int k p], rfl, rfl, fun i u hu => ?_⟩
  have : i = 0 := by have := (List.getElem?_eq_some_iff.1 hu).1; simp at this; omega
  subst this
  obtain rfl : Value.int k p = u := by simpa using hu
  have e : Addr.add ⟨gg, 0, none⟩ (j * (Kd.int k).sz + 0) = ⟨gg, j, none⟩ := by
    have : j * (Kd.int k).sz = j := Nat.mul_one j
    rw [this]
    simp [go_sem]
  rw [e, blk_cell h]
  simp [hj]
theorem cv8 (n : Int) (W : World) : (convert 60 5 (.int .u32 n)).run Try.prog W = .ok (.int .u8 (n % 256)) W := by
  rw [show (convert 60 5 (.int .u32 n)).run Try.prog W = .ok (.int .u8 (IntKind.u8.wrap n)) W by kernel_rfl, IntKind.wrap_u8]
theorem shr_u32 {x y : Int} {p q : Operand} {n : Nat} (h : x / 2 ^ n = y) (hn : n < 32) (W : World) : (do eqGuard .shr 60 p q (.int .u32 x) (.int .u64 (n : Int)); binOp .shr 60 (.int .u32 x) (.int .u64 (n : Int)) : Sem Value).run Try.prog W = .ok (.int .u32 y) W := by
  subst h
  simp [eqGuard, binOp, go_sem, Nat.min_eq_left (show n ≤ 32 by omega)]
theorem flat_snoc {l : List Int} {i : Nat} {x : Int} (f : Int → List Int) (h : l[i]? = some x) : (l.take (i + 1)).flatMap f = (l.take i).flatMap f ++ f x := by
  rw [List.take_add_one, h, List.flatMap_append]
  simp
theorem all_snoc {l : List Int} {i : Nat} {x : Int} (f : Int → Bool) (h : l[i]? = some x) : (l.take (i + 1)).all f = ((l.take i).all f && f x) := by
  rw [List.take_add_one, h, List.all_append]
  simp
theorem w32_len (n : Int) : (w32 n).length = 4 := rfl
theorem flat_len (l : List Int) : (l.flatMap w32).length = 4 * l.length := by
  induction l with
  | nil => rfl
  | cons x r ih => rw [List.flatMap_cons, List.length_append, ih, w32_len, List.length_cons]; omega
end Go.Proofs.Ytieoklpgnmbpjaa.Gr
