/- The reader: a node is read. -/
import Derived.Test.YtieoklpgnmbpjaaE7
namespace Go.Proofs.Ytieoklpgnmbpjaa.Gr
open Go.RowKit Dr
open Go.Proofs.YtieoklpgnmbpjaaW.PrintWords (Kd Kd.C Kd.R Kd.C_below Kd.C_get Kd.R_below Kd.R_reads Kd.R_reads' Kd.R_types Kd.R_step Kd.R_alloc Kd.R_drew Kd.R_lower add_field Kd.R_append Kd.R_bound Kd.R_move Kd.R_mono Kd.R_nil Kd.R_set Kd.R_ne Kd.R_over' Kd.R_typed Kd.C_nil Kd.R_slice Kd.R_append_rows Kd.R_form)
set_option linter.unusedVariables false
set_option linter.unusedSimpArgs false
set_option maxRecDepth 100000
theorem nod_eq (s s1 : List Int × Int) (l : List Int) (h : lst 27 s = (l, s1)) : nod s = (l, (s1.1, if l.getD 26 0 = 0 then s1.2 else fails 4 s1.2)) := by
  unfold nod
  rw [h]
theorem lst_eq (n : Nat) (s : List Int × Int) : ∃ l s1, lst n s = (l, s1) ∧ l.length = n := ⟨_, _, rfl, lst_len s n⟩
theorem list_l (b g n : Nat) (s s1 : List Int × Int) (l : List Int) (w : World) (hl : lst n s = (l, s1)) (hb : b ≤ g) (hn : n ≤ 1000) (ho : okB s.1) (h : RD w b g s) :
    Calls Try.prog 19 #[.pointer (some ⟨g, 0, none⟩), .int .i64 (n : Int)] w fun e w' => ∃ v, e = .returned v ∧ Kd.R (Kd.int .i64) 3 w' w.heap.size (fun _ => True) v l ∧ RD w' b g s1 ∧ w.grownBy w' (some g) := by
  have := list_is b g n s w hb hn ho h
  rw [hl] at this
  exact this
theorem wp_list0 {Q : Exit → Act → World → Prop} {id : Nat} {a : Act} {w : World} {l : List Oper} (hB : listB l 0 = true) (h : wpList Try.prog l.toArray Q l a w) : (Code.region id l.toArray false).wp Try.prog Q a w := by
  refine wp_listed (R := fun _ _ => True) 0 [] (fun W => W = w) hB rfl ?_ ?_
  · intro vs W hG b hb
    exact trivial
  · intro vs W hG hp b hb
    subst hG
    obtain rfl : b = a := hb
    exact h
/-- A load of several cells out of a block. -/
theorem ld_arr {W : World} {gl o : Nat} (l : List Value) (t : TypeId) (d : TypeDesc) (h : ∀ (j : Nat) (v : Value), l[j]? = some v → W.cell? ⟨gl, o + j, none⟩ = some v) (hu : Try.prog.underlying t = some d) (hd : d.isRow = true) (hi : (Try.prog.info? t).map (·.size) = some l.length) : (loadVar t ⟨gl, o, none⟩).run Try.prog W = .ok (.agg l.toArray) W :=
  run_loadVar_mid W gl o t l d h hu hd hi
theorem below_setsL : ∀ (l : List Value) (o : Nat) {n g : Nat} {w W : World} (_ : Nat), Below n w W → n ≤ g → Below n w (W.setCells g o l)
  | [], _, _, _, _, _, _, h, _ => h
  | v :: r, o, n, g, w, W, z, h, hg => below_setsL r (o + 1) z (h.setCell hg _) hg
theorem cw {w W : World} {a : Addr} {v : Value} (hG : Below w.heap.size w W) (h : w.cell? a = some v) : W.cell? a = some v := (hG.cell (World.block_lt_of_cell? _ _ h)).trans h
theorem cvi {x : Int} (h : IntKind.i32.wrap x = x) (W : World) : (convert 3 21 (.int .i64 x)).run Try.prog W = .ok (.int .i32 x) W := by
  rw [show (convert 3 21 (.int .i64 x)).run Try.prog W = .ok (.int .i32 (IntKind.i32.wrap x)) W by kernel_rfl, h]
section
variable {P : Program} {Q : Exit → Act → World → Prop} {o : Oper} {b : Act} {W : World} {K : Act → World → Prop}
theorem st_slice {t : TypeId} {x : Operand} {lo hi : Option Operand} {X v : Value} {L H : Option Value} (ho : o.op = .slice t x lo hi none) (hx : b.eval x = X) (hl : lo.map b.eval = L) (hh : hi.map b.eval = H) (h : (Instr.sliceAt t X L H none).run P W = .ok v W) (hK : K (b.put o.dst v) W) : Oper.wp P o b W K Q := by
  refine st_run ?_ hK
  unfold execOp
  rw [ho]
  simp only [hx, hl, hh, Option.map_none]
  exact run_v h
theorem st_arr {t : TypeId} {x : Operand} {X v : Value} (ho : o.op = .sliceToArrayPointer t x) (hx : b.eval x = X) (h : (Instr.arrayAt t X).run P W = .ok v W) (hK : K (b.put o.dst v) W) : Oper.wp P o b W K Q := by
  refine st_run ?_ hK
  unfold execOp
  rw [ho]
  simp only [hx]
  exact run_v h
end
set_option maxHeartbeats 16000000 in
theorem node_is (b g : Nat) (s : List Int × Int) (w : World) (hb : b ≤ g) (ho : okB s.1) (h : RD w b g s) :
    Calls Try.prog 23 #[.pointer (some ⟨g, 0, none⟩)] w fun e w' => e = .returned (.agg (nrow (nod s).1).toArray) ∧ RD w' b g (nod s).2 ∧ w.grownBy w' (some g) := by
  have hgw := RD_lt h
  obtain ⟨l, s1, hl, hln⟩ := lst_eq 27 s
  rw [nod_eq s s1 l hl]
  obtain ⟨x0, x1, x2, x3, x4, x5, x6, x7, x8, x9, x10, x11, x12, x13, x14, x15, x16, x17, x18, x19, x20, x21, x22, x23, x24, x25, x26, rfl⟩ := len27 hln
  have hin := lst_in ho 27
  rw [hl] at hin
  have w14 : IntKind.i32.wrap x14 = x14 := IntWalk.i32_in _ (hin x14 (by simp))
  have w15 : IntKind.i32.wrap x15 = x15 := IntWalk.i32_in _ (hin x15 (by simp))
  clear hin hln
  have hR0 : RD (w.alloc (.cells #[.int .i64 0, .int .i64 0, .int .i64 0, .int .i64 0, .int .i64 0, .int .i64 0, .int .i64 0, .int .i64 0, .int .i64 0, .int .i64 0, .int .i64 0, .int .i64 0, .int .i64 0, .int .i64 0, .int .i32 0, .int .i32 0, .int .i64 0, .int .i64 0, .int .i64 0, .int .i64 0, .int .i64 0, .int .i64 0, .int .i64 0, .int .i64 0, .int .i64 0, .int .i64 0] 55)) b g s := RD_step h (below_alloc (Below.refl _ _) _ |>.mono (by omega)) (Below.heap_alloc _ _ _ hgw)
  have HR0 := Lib.hid hR0
  have HL := Lib.hid hl
  clear hR0 hl h
  go_enter Try.func23, Try.ntmps23
  apply wp_seq_k; intro K1 hK1; have HK1 := Lib.hid hK1; clear hK1
  go_wp2
  refine HK1.out _ _ ?_; clear HK1
  apply wp_seq_k; intro K1 hK1; have HK1 := Lib.hid hK1; clear hK1
  go_wp2_with (go_at_call 19; refine (list_l b g 27 s s1 _ _ HL.out hb (by decide) ho HR0.out).mono ?_; rintro e w1 ⟨v, rfl, hRv, hR1, hg1⟩)
  obtain ⟨gl, cap, rfl, hgl0, hgl1, -⟩ := Kd.R_form hRv (by simp)
  have hC := (Kd.R_reads' hRv).2.2
  have hcap : 27 ≤ cap := (Kd.R_reads' hRv).2.1
  have hsz : (w.alloc (.cells #[.int .i64 0, .int .i64 0, .int .i64 0, .int .i64 0, .int .i64 0, .int .i64 0, .int .i64 0, .int .i64 0, .int .i64 0, .int .i64 0, .int .i64 0, .int .i64 0, .int .i64 0, .int .i64 0, .int .i32 0, .int .i32 0, .int .i64 0, .int .i64 0, .int .i64 0, .int .i64 0, .int .i64 0, .int .i64 0, .int .i64 0, .int .i64 0, .int .i64 0, .int .i64 0] 55)).heap.size = w.heap.size + 1 := by simp
  have hgg : w.grownBy w1 (some g) := grown_trans (grown_below (below_alloc (Below.refl _ _) _) _) hg1
  have hgn : w1.heap[w.heap.size]? = some (.cells #[.int .i64 0, .int .i64 0, .int .i64 0, .int .i64 0, .int .i64 0, .int .i64 0, .int .i64 0, .int .i64 0, .int .i64 0, .int .i64 0, .int .i64 0, .int .i64 0, .int .i64 0, .int .i64 0, .int .i32 0, .int .i32 0, .int .i64 0, .int .i64 0, .int .i64 0, .int .i64 0, .int .i64 0, .int .i64 0, .int .i64 0, .int .i64 0, .int .i64 0, .int .i64 0] 55 (0, 0)) := (hg1.block _ (by omega) (fun e => by injection e with e; omega)).trans (blk_new _ _)
  rw [hsz] at hgl0
  refine HK1.out _ _ ?_; clear HK1
  have HC := Lib.hid hC
  have HR1 := Lib.hid hR1
  have HG1 := Lib.hid hgg
  have HGN := Lib.hid hgn
  clear hC hRv hR1 hg1 hgg hgn HR0 hsz
  have y26 := fun W => ix50 gl 27 cap 26 (by omega) W
  by_cases h26 : x26 = 0
  · have hn : (x26 != 0) = false := by simpa using h26
    have p26 := C_at HC.out (i := 26) rfl
    apply wp_seq_k; intro K1 hK1; have HK1 := Lib.hid hK1; clear hK1
    go_wp2
    refine HK1.out _ _ ?_; clear HK1
    apply wp_seq_k; intro K1 hK1; have HK1 := Lib.hid hK1; clear hK1
    clear p26
    have p0 := C_at HC.out (i := 0) rfl
    have p1 := C_at HC.out (i := 1) rfl
    have p2 := C_at HC.out (i := 2) rfl
    have p3 := C_at HC.out (i := 3) rfl
    have p4 := C_at HC.out (i := 4) rfl
    have p5 := C_at HC.out (i := 5) rfl
    have p6 := C_at HC.out (i := 6) rfl
    have p7 := C_at HC.out (i := 7) rfl
    have p8 := C_at HC.out (i := 8) rfl
    have p9 := C_at HC.out (i := 9) rfl
    have p10 := C_at HC.out (i := 10) rfl
    have p11 := C_at HC.out (i := 11) rfl
    have p12 := C_at HC.out (i := 12) rfl
    have p13 := C_at HC.out (i := 13) rfl
    have p14 := C_at HC.out (i := 14) rfl
    have p15 := C_at HC.out (i := 15) rfl
    have p16 := C_at HC.out (i := 16) rfl
    have p17 := C_at HC.out (i := 17) rfl
    have p18 := C_at HC.out (i := 18) rfl
    have p19 := C_at HC.out (i := 19) rfl
    have p20 := C_at HC.out (i := 20) rfl
    have p21 := C_at HC.out (i := 21) rfl
    have p22 := C_at HC.out (i := 22) rfl
    have p23 := C_at HC.out (i := 23) rfl
    have p24 := C_at HC.out (i := 24) rfl
    have p25 := C_at HC.out (i := 25) rfl
    have q0 : ∀ W, Below w1.heap.size w1 W → (loadVar 52 ⟨gl, 3, none⟩).run Try.prog W = .ok (.agg #[.int .i64 x3, .int .i64 x4]) W := fun W hW => ld_arr [.int .i64 x3, .int .i64 x4] 52 _ (fun j => match j with | 0 => fun v hv => by obtain rfl := Option.some.inj hv; exact cw hW p3 | 1 => fun v hv => by obtain rfl := Option.some.inj hv; exact cw hW p4 | j + 2 => fun v hv => by simp at hv) Try.underlying52 rfl (by kernel_rfl)
    have q1 : ∀ W, Below w1.heap.size w1 W → (loadVar 52 ⟨gl, 5, none⟩).run Try.prog W = .ok (.agg #[.int .i64 x5, .int .i64 x6]) W := fun W hW => ld_arr [.int .i64 x5, .int .i64 x6] 52 _ (fun j => match j with | 0 => fun v hv => by obtain rfl := Option.some.inj hv; exact cw hW p5 | 1 => fun v hv => by obtain rfl := Option.some.inj hv; exact cw hW p6 | j + 2 => fun v hv => by simp at hv) Try.underlying52 rfl (by kernel_rfl)
    have q2 : ∀ W, Below w1.heap.size w1 W → (loadVar 53 ⟨gl, 7, none⟩).run Try.prog W = .ok (.agg #[.int .i64 x7, .int .i64 x8, .int .i64 x9, .int .i64 x10]) W := fun W hW => ld_arr [.int .i64 x7, .int .i64 x8, .int .i64 x9, .int .i64 x10] 53 _ (fun j => match j with | 0 => fun v hv => by obtain rfl := Option.some.inj hv; exact cw hW p7 | 1 => fun v hv => by obtain rfl := Option.some.inj hv; exact cw hW p8 | 2 => fun v hv => by obtain rfl := Option.some.inj hv; exact cw hW p9 | 3 => fun v hv => by obtain rfl := Option.some.inj hv; exact cw hW p10 | j + 4 => fun v hv => by simp at hv) Try.underlying53 rfl (by kernel_rfl)
    have q3 : ∀ W, Below w1.heap.size w1 W → (loadVar 22 ⟨gl, 23, none⟩).run Try.prog W = .ok (.agg #[.int .i64 x23, .int .i64 x24, .int .i64 x25]) W := fun W hW => ld_arr [.int .i64 x23, .int .i64 x24, .int .i64 x25] 22 _ (fun j => match j with | 0 => fun v hv => by obtain rfl := Option.some.inj hv; exact cw hW p23 | 1 => fun v hv => by obtain rfl := Option.some.inj hv; exact cw hW p24 | 2 => fun v hv => by obtain rfl := Option.some.inj hv; exact cw hW p25 | j + 3 => fun v hv => by simp at hv) Try.underlying22 rfl (by kernel_rfl)
    refine wp_drawn (R := fun W W' => Below W.heap.size W W') 64 [.val (.slice (some ⟨gl, 0, none⟩) 27 cap), .val (.pointer (some ⟨gl, 0, none⟩)), .val (.int .i64 x0), .val (.slice (some ⟨gl, 0, none⟩) 27 cap), .val (.pointer (some ⟨gl, 1, none⟩)), .val (.int .i64 x1), .val (.slice (some ⟨gl, 0, none⟩) 27 cap), .val (.pointer (some ⟨gl, 2, none⟩)), .val (.int .i64 x2), .val (.slice (some ⟨gl, 0, none⟩) 27 cap), .val (.slice (some ⟨gl, 3, none⟩) 2 (cap - 3)), .val (.pointer (some ⟨gl, 3, none⟩)), .val (.agg #[.int .i64 x3, .int .i64 x4]), .val (.slice (some ⟨gl, 0, none⟩) 27 cap), .val (.slice (some ⟨gl, 5, none⟩) 2 (cap - 5)), .val (.pointer (some ⟨gl, 5, none⟩)), .val (.agg #[.int .i64 x5, .int .i64 x6]), .val (.slice (some ⟨gl, 0, none⟩) 27 cap), .val (.slice (some ⟨gl, 7, none⟩) 4 (cap - 7)), .val (.pointer (some ⟨gl, 7, none⟩)), .val (.agg #[.int .i64 x7, .int .i64 x8, .int .i64 x9, .int .i64 x10]), .val (.slice (some ⟨gl, 0, none⟩) 27 cap), .val (.pointer (some ⟨gl, 11, none⟩)), .val (.int .i64 x11), .val (.slice (some ⟨gl, 0, none⟩) 27 cap), .val (.pointer (some ⟨gl, 12, none⟩)), .val (.int .i64 x12), .val (.slice (some ⟨gl, 0, none⟩) 27 cap), .val (.pointer (some ⟨gl, 13, none⟩)), .val (.int .i64 x13), .val (.slice (some ⟨gl, 0, none⟩) 27 cap), .val (.pointer (some ⟨gl, 14, none⟩)), .val (.int .i64 x14), .val (.int .i32 x14), .val (.slice (some ⟨gl, 0, none⟩) 27 cap), .val (.pointer (some ⟨gl, 15, none⟩)), .val (.int .i64 x15), .val (.int .i32 x15), .val (.slice (some ⟨gl, 0, none⟩) 27 cap), .val (.pointer (some ⟨gl, 16, none⟩)), .val (.int .i64 x16), .val (.slice (some ⟨gl, 0, none⟩) 27 cap), .val (.pointer (some ⟨gl, 17, none⟩)), .val (.int .i64 x17), .val (.slice (some ⟨gl, 0, none⟩) 27 cap), .val (.pointer (some ⟨gl, 18, none⟩)), .val (.int .i64 x18), .val (.slice (some ⟨gl, 0, none⟩) 27 cap), .val (.pointer (some ⟨gl, 19, none⟩)), .val (.int .i64 x19), .val (.slice (some ⟨gl, 0, none⟩) 27 cap), .val (.pointer (some ⟨gl, 20, none⟩)), .val (.int .i64 x20), .val (.slice (some ⟨gl, 0, none⟩) 27 cap), .val (.pointer (some ⟨gl, 21, none⟩)), .val (.int .i64 x21), .val (.slice (some ⟨gl, 0, none⟩) 27 cap), .val (.pointer (some ⟨gl, 22, none⟩)), .val (.int .i64 x22), .val (.slice (some ⟨gl, 0, none⟩) 27 cap), .val (.slice (some ⟨gl, 23, none⟩) 3 (cap - 23)), .val (.pointer (some ⟨gl, 23, none⟩)), .val (.agg #[.int .i64 x23, .int .i64 x24, .int .i64 x25]), .val (.agg #[.int .i64 x0, .int .i64 x1, .int .i64 x2, .int .i64 x3, .int .i64 x4, .int .i64 x5, .int .i64 x6, .int .i64 x7, .int .i64 x8, .int .i64 x9, .int .i64 x10, .int .i64 x11, .int .i64 x12, .int .i64 x13, .int .i32 x14, .int .i32 x15, .int .i64 x16, .int .i64 x17, .int .i64 x18, .int .i64 x19, .int .i64 x20, .int .i64 x21, .int .i64 x22, .int .i64 x23, .int .i64 x24, .int .i64 x25])] (fun W => Below w1.heap.size w1 W) rfl (by kernel_rfl) (Below.refl _ _).drew ?_ ?_
    · intro vs W hG a1 ha1
      have e3 : a1.eval (.tmp 3) = .slice (some ⟨gl, 0, none⟩) 27 cap := eo ha1 (by kernel_rfl)
      have i12 := ei (d := 12) ha1 0 (by kernel_rfl) rfl rfl (by simp)
      have i13 := ei (d := 13) ha1 1 (by kernel_rfl) rfl rfl (by simp)
      have i14 := ei (d := 14) ha1 2 (by kernel_rfl) rfl rfl (by simp)
      have i15 := ei (d := 15) ha1 3 (by kernel_rfl) rfl rfl (by simp)
      have i16 := ei (d := 16) ha1 4 (by kernel_rfl) rfl rfl (by simp)
      have i17 := ei (d := 17) ha1 5 (by kernel_rfl) rfl rfl (by simp)
      have i18 := ei (d := 18) ha1 6 (by kernel_rfl) rfl rfl (by simp)
      have i19 := ei (d := 19) ha1 7 (by kernel_rfl) rfl rfl (by simp)
      have i20 := ei (d := 20) ha1 8 (by kernel_rfl) rfl rfl (by simp)
      have i21 := ei (d := 21) ha1 9 (by kernel_rfl) rfl rfl (by simp)
      have i22 := ei (d := 22) ha1 10 (by kernel_rfl) rfl rfl (by simp)
      have i23 := ei (d := 23) ha1 11 (by kernel_rfl) rfl rfl (by simp)
      have i24 := ei (d := 24) ha1 12 (by kernel_rfl) rfl rfl (by simp)
      have i25 := ei (d := 25) ha1 13 (by kernel_rfl) rfl rfl (by simp)
      have i26 := ei (d := 26) ha1 14 (by kernel_rfl) rfl rfl (by simp)
      have i27 := ei (d := 27) ha1 15 (by kernel_rfl) rfl rfl (by simp)
      have i28 := ei (d := 28) ha1 16 (by kernel_rfl) rfl rfl (by simp)
      have i29 := ei (d := 29) ha1 17 (by kernel_rfl) rfl rfl (by simp)
      have i30 := ei (d := 30) ha1 18 (by kernel_rfl) rfl rfl (by simp)
      have i31 := ei (d := 31) ha1 19 (by kernel_rfl) rfl rfl (by simp)
      have i32 := ei (d := 32) ha1 20 (by kernel_rfl) rfl rfl (by simp)
      have i33 := ei (d := 33) ha1 21 (by kernel_rfl) rfl rfl (by simp)
      have i34 := ei (d := 34) ha1 22 (by kernel_rfl) rfl rfl (by simp)
      have i35 := ei (d := 35) ha1 23 (by kernel_rfl) rfl rfl (by simp)
      have i36 := ei (d := 36) ha1 24 (by kernel_rfl) rfl rfl (by simp)
      have i37 := ei (d := 37) ha1 25 (by kernel_rfl) rfl rfl (by simp)
      have i38 := ei (d := 38) ha1 26 (by kernel_rfl) rfl rfl (by simp)
      have i39 := ei (d := 39) ha1 27 (by kernel_rfl) rfl rfl (by simp)
      have i40 := ei (d := 40) ha1 28 (by kernel_rfl) rfl rfl (by simp)
      have i41 := ei (d := 41) ha1 29 (by kernel_rfl) rfl rfl (by simp)
      have i42 := ei (d := 42) ha1 30 (by kernel_rfl) rfl rfl (by simp)
      have i43 := ei (d := 43) ha1 31 (by kernel_rfl) rfl rfl (by simp)
      have i44 := ei (d := 44) ha1 32 (by kernel_rfl) rfl rfl (by simp)
      have i45 := ei (d := 45) ha1 33 (by kernel_rfl) rfl rfl (by simp)
      have i46 := ei (d := 46) ha1 34 (by kernel_rfl) rfl rfl (by simp)
      have i47 := ei (d := 47) ha1 35 (by kernel_rfl) rfl rfl (by simp)
      have i48 := ei (d := 48) ha1 36 (by kernel_rfl) rfl rfl (by simp)
      have i49 := ei (d := 49) ha1 37 (by kernel_rfl) rfl rfl (by simp)
      have i50 := ei (d := 50) ha1 38 (by kernel_rfl) rfl rfl (by simp)
      have i51 := ei (d := 51) ha1 39 (by kernel_rfl) rfl rfl (by simp)
      have i52 := ei (d := 52) ha1 40 (by kernel_rfl) rfl rfl (by simp)
      have i53 := ei (d := 53) ha1 41 (by kernel_rfl) rfl rfl (by simp)
      have i54 := ei (d := 54) ha1 42 (by kernel_rfl) rfl rfl (by simp)
      have i55 := ei (d := 55) ha1 43 (by kernel_rfl) rfl rfl (by simp)
      have i56 := ei (d := 56) ha1 44 (by kernel_rfl) rfl rfl (by simp)
      have i57 := ei (d := 57) ha1 45 (by kernel_rfl) rfl rfl (by simp)
      have i58 := ei (d := 58) ha1 46 (by kernel_rfl) rfl rfl (by simp)
      have i59 := ei (d := 59) ha1 47 (by kernel_rfl) rfl rfl (by simp)
      have i60 := ei (d := 60) ha1 48 (by kernel_rfl) rfl rfl (by simp)
      have i61 := ei (d := 61) ha1 49 (by kernel_rfl) rfl rfl (by simp)
      have i62 := ei (d := 62) ha1 50 (by kernel_rfl) rfl rfl (by simp)
      have i63 := ei (d := 63) ha1 51 (by kernel_rfl) rfl rfl (by simp)
      have i64 := ei (d := 64) ha1 52 (by kernel_rfl) rfl rfl (by simp)
      have i65 := ei (d := 65) ha1 53 (by kernel_rfl) rfl rfl (by simp)
      have i66 := ei (d := 66) ha1 54 (by kernel_rfl) rfl rfl (by simp)
      have i67 := ei (d := 67) ha1 55 (by kernel_rfl) rfl rfl (by simp)
      have i68 := ei (d := 68) ha1 56 (by kernel_rfl) rfl rfl (by simp)
      have i69 := ei (d := 69) ha1 57 (by kernel_rfl) rfl rfl (by simp)
      have i70 := ei (d := 70) ha1 58 (by kernel_rfl) rfl rfl (by simp)
      have i71 := ei (d := 71) ha1 59 (by kernel_rfl) rfl rfl (by simp)
      have i72 := ei (d := 72) ha1 60 (by kernel_rfl) rfl rfl (by simp)
      have i73 := ei (d := 73) ha1 61 (by kernel_rfl) rfl rfl (by simp)
      have i74 := ei (d := 74) ha1 62 (by kernel_rfl) rfl rfl (by simp)
      clear ha1
      refine And.intro ?_ (And.intro ?_ (And.intro ?_ (And.intro ?_ (And.intro ?_ (And.intro ?_ (And.intro ?_ (And.intro ?_ (And.intro ?_ (And.intro ?_ (And.intro ?_ (And.intro ?_ (And.intro ?_ (And.intro ?_ (And.intro ?_ (And.intro ?_ (And.intro ?_ (And.intro ?_ (And.intro ?_ (And.intro ?_ (And.intro ?_ (And.intro ?_ (And.intro ?_ (And.intro ?_ (And.intro ?_ (And.intro ?_ (And.intro ?_ (And.intro ?_ (And.intro ?_ (And.intro ?_ (And.intro ?_ (And.intro ?_ (And.intro ?_ (And.intro ?_ (And.intro ?_ (And.intro ?_ (And.intro ?_ (And.intro ?_ (And.intro ?_ (And.intro ?_ (And.intro ?_ (And.intro ?_ (And.intro ?_ (And.intro ?_ (And.intro ?_ (And.intro ?_ (And.intro ?_ (And.intro ?_ (And.intro ?_ (And.intro ?_ (And.intro ?_ (And.intro ?_ (And.intro ?_ (And.intro ?_ (And.intro ?_ (And.intro ?_ (And.intro ?_ (And.intro ?_ (And.intro ?_ (And.intro ?_ (And.intro ?_ (And.intro ?_ (And.intro ?_ (And.intro ?_ (trivial))))))))))))))))))))))))))))))))))))))))))))))))))))))))))))))))
      · intro hp K hK
        refine g_no rfl ?_
        exact st_move (.inl rfl) (e3) (hK _ _ rfl hG (Below.refl _ _))
      · intro hp K hK
        refine g_no rfl ?_
        have e12 : a1.eval (.tmp 12) = _ := i12.trans (hp 0 (by kernel_rfl))
        exact st_index rfl (e12) (eval_const _) (ix50 gl 27 cap 0 (by decide) _) (hK _ _ rfl hG (Below.refl _ _))
      · intro hp K hK
        refine g_no rfl ?_
        have e13 : a1.eval (.tmp 13) = _ := i13.trans (hp 1 (by kernel_rfl))
        exact st_load rfl (e13) (ld_cell 3 (by kernel_rfl) (cw hG p0)) (hK _ _ rfl hG (Below.refl _ _))
      · intro hp K hK
        refine g_no rfl ?_
        exact st_move (.inl rfl) (e3) (hK _ _ rfl hG (Below.refl _ _))
      · intro hp K hK
        refine g_no rfl ?_
        have e15 : a1.eval (.tmp 15) = _ := i15.trans (hp 3 (by kernel_rfl))
        exact st_index rfl (e15) (eval_const _) (ix50 gl 27 cap 1 (by decide) _) (hK _ _ rfl hG (Below.refl _ _))
      · intro hp K hK
        refine g_no rfl ?_
        have e16 : a1.eval (.tmp 16) = _ := i16.trans (hp 4 (by kernel_rfl))
        exact st_load rfl (e16) (ld_cell 3 (by kernel_rfl) (cw hG p1)) (hK _ _ rfl hG (Below.refl _ _))
      · intro hp K hK
        refine g_no rfl ?_
        exact st_move (.inl rfl) (e3) (hK _ _ rfl hG (Below.refl _ _))
      · intro hp K hK
        refine g_no rfl ?_
        have e18 : a1.eval (.tmp 18) = _ := i18.trans (hp 6 (by kernel_rfl))
        exact st_index rfl (e18) (eval_const _) (ix50 gl 27 cap 2 (by decide) _) (hK _ _ rfl hG (Below.refl _ _))
      · intro hp K hK
        refine g_no rfl ?_
        have e19 : a1.eval (.tmp 19) = _ := i19.trans (hp 7 (by kernel_rfl))
        exact st_load rfl (e19) (ld_cell 3 (by kernel_rfl) (cw hG p2)) (hK _ _ rfl hG (Below.refl _ _))
      · intro hp K hK
        refine g_no rfl ?_
        exact st_move (.inl rfl) (e3) (hK _ _ rfl hG (Below.refl _ _))
      · intro hp K hK
        refine g_no rfl ?_
        have e21 : a1.eval (.tmp 21) = _ := i21.trans (hp 9 (by kernel_rfl))
        exact st_slice rfl (e21) rfl rfl (sl50 gl 27 cap 3 5 (by omega) (by decide) (by omega) _) (hK _ _ rfl hG (Below.refl _ _))
      · intro hp K hK
        refine g_no rfl ?_
        have e22 : a1.eval (.tmp 22) = _ := i22.trans (hp 10 (by kernel_rfl))
        exact st_arr rfl (e22) (arr52 _ _ _) (hK _ _ rfl hG (Below.refl _ _))
      · intro hp K hK
        refine g_no rfl ?_
        have e23 : a1.eval (.tmp 23) = _ := i23.trans (hp 11 (by kernel_rfl))
        exact st_load rfl (e23) (q0 _ hG) (hK _ _ rfl hG (Below.refl _ _))
      · intro hp K hK
        refine g_no rfl ?_
        exact st_move (.inl rfl) (e3) (hK _ _ rfl hG (Below.refl _ _))
      · intro hp K hK
        refine g_no rfl ?_
        have e25 : a1.eval (.tmp 25) = _ := i25.trans (hp 13 (by kernel_rfl))
        exact st_slice rfl (e25) rfl rfl (sl50 gl 27 cap 5 7 (by omega) (by decide) (by omega) _) (hK _ _ rfl hG (Below.refl _ _))
      · intro hp K hK
        refine g_no rfl ?_
        have e26 : a1.eval (.tmp 26) = _ := i26.trans (hp 14 (by kernel_rfl))
        exact st_arr rfl (e26) (arr52 _ _ _) (hK _ _ rfl hG (Below.refl _ _))
      · intro hp K hK
        refine g_no rfl ?_
        have e27 : a1.eval (.tmp 27) = _ := i27.trans (hp 15 (by kernel_rfl))
        exact st_load rfl (e27) (q1 _ hG) (hK _ _ rfl hG (Below.refl _ _))
      · intro hp K hK
        refine g_no rfl ?_
        exact st_move (.inl rfl) (e3) (hK _ _ rfl hG (Below.refl _ _))
      · intro hp K hK
        refine g_no rfl ?_
        have e29 : a1.eval (.tmp 29) = _ := i29.trans (hp 17 (by kernel_rfl))
        exact st_slice rfl (e29) rfl rfl (sl50 gl 27 cap 7 11 (by omega) (by decide) (by omega) _) (hK _ _ rfl hG (Below.refl _ _))
      · intro hp K hK
        refine g_no rfl ?_
        have e30 : a1.eval (.tmp 30) = _ := i30.trans (hp 18 (by kernel_rfl))
        exact st_arr rfl (e30) (arr53 _ _ _) (hK _ _ rfl hG (Below.refl _ _))
      · intro hp K hK
        refine g_no rfl ?_
        have e31 : a1.eval (.tmp 31) = _ := i31.trans (hp 19 (by kernel_rfl))
        exact st_load rfl (e31) (q2 _ hG) (hK _ _ rfl hG (Below.refl _ _))
      · intro hp K hK
        refine g_no rfl ?_
        exact st_move (.inl rfl) (e3) (hK _ _ rfl hG (Below.refl _ _))
      · intro hp K hK
        refine g_no rfl ?_
        have e33 : a1.eval (.tmp 33) = _ := i33.trans (hp 21 (by kernel_rfl))
        exact st_index rfl (e33) (eval_const _) (ix50 gl 27 cap 11 (by decide) _) (hK _ _ rfl hG (Below.refl _ _))
      · intro hp K hK
        refine g_no rfl ?_
        have e34 : a1.eval (.tmp 34) = _ := i34.trans (hp 22 (by kernel_rfl))
        exact st_load rfl (e34) (ld_cell 3 (by kernel_rfl) (cw hG p11)) (hK _ _ rfl hG (Below.refl _ _))
      · intro hp K hK
        refine g_no rfl ?_
        exact st_move (.inl rfl) (e3) (hK _ _ rfl hG (Below.refl _ _))
      · intro hp K hK
        refine g_no rfl ?_
        have e36 : a1.eval (.tmp 36) = _ := i36.trans (hp 24 (by kernel_rfl))
        exact st_index rfl (e36) (eval_const _) (ix50 gl 27 cap 12 (by decide) _) (hK _ _ rfl hG (Below.refl _ _))
      · intro hp K hK
        refine g_no rfl ?_
        have e37 : a1.eval (.tmp 37) = _ := i37.trans (hp 25 (by kernel_rfl))
        exact st_load rfl (e37) (ld_cell 3 (by kernel_rfl) (cw hG p12)) (hK _ _ rfl hG (Below.refl _ _))
      · intro hp K hK
        refine g_no rfl ?_
        exact st_move (.inl rfl) (e3) (hK _ _ rfl hG (Below.refl _ _))
      · intro hp K hK
        refine g_no rfl ?_
        have e39 : a1.eval (.tmp 39) = _ := i39.trans (hp 27 (by kernel_rfl))
        exact st_index rfl (e39) (eval_const _) (ix50 gl 27 cap 13 (by decide) _) (hK _ _ rfl hG (Below.refl _ _))
      · intro hp K hK
        refine g_no rfl ?_
        have e40 : a1.eval (.tmp 40) = _ := i40.trans (hp 28 (by kernel_rfl))
        exact st_load rfl (e40) (ld_cell 3 (by kernel_rfl) (cw hG p13)) (hK _ _ rfl hG (Below.refl _ _))
      · intro hp K hK
        refine g_no rfl ?_
        exact st_move (.inl rfl) (e3) (hK _ _ rfl hG (Below.refl _ _))
      · intro hp K hK
        refine g_no rfl ?_
        have e42 : a1.eval (.tmp 42) = _ := i42.trans (hp 30 (by kernel_rfl))
        exact st_index rfl (e42) (eval_const _) (ix50 gl 27 cap 14 (by decide) _) (hK _ _ rfl hG (Below.refl _ _))
      · intro hp K hK
        refine g_no rfl ?_
        have e43 : a1.eval (.tmp 43) = _ := i43.trans (hp 31 (by kernel_rfl))
        exact st_load rfl (e43) (ld_cell 3 (by kernel_rfl) (cw hG p14)) (hK _ _ rfl hG (Below.refl _ _))
      · intro hp K hK
        refine g_no rfl ?_
        have e44 : a1.eval (.tmp 44) = _ := i44.trans (hp 32 (by kernel_rfl))
        exact st_conv rfl (e44) (cvi w14 _) (hK _ _ rfl hG (Below.refl _ _))
      · intro hp K hK
        refine g_no rfl ?_
        exact st_move (.inl rfl) (e3) (hK _ _ rfl hG (Below.refl _ _))
      · intro hp K hK
        refine g_no rfl ?_
        have e46 : a1.eval (.tmp 46) = _ := i46.trans (hp 34 (by kernel_rfl))
        exact st_index rfl (e46) (eval_const _) (ix50 gl 27 cap 15 (by decide) _) (hK _ _ rfl hG (Below.refl _ _))
      · intro hp K hK
        refine g_no rfl ?_
        have e47 : a1.eval (.tmp 47) = _ := i47.trans (hp 35 (by kernel_rfl))
        exact st_load rfl (e47) (ld_cell 3 (by kernel_rfl) (cw hG p15)) (hK _ _ rfl hG (Below.refl _ _))
      · intro hp K hK
        refine g_no rfl ?_
        have e48 : a1.eval (.tmp 48) = _ := i48.trans (hp 36 (by kernel_rfl))
        exact st_conv rfl (e48) (cvi w15 _) (hK _ _ rfl hG (Below.refl _ _))
      · intro hp K hK
        refine g_no rfl ?_
        exact st_move (.inl rfl) (e3) (hK _ _ rfl hG (Below.refl _ _))
      · intro hp K hK
        refine g_no rfl ?_
        have e50 : a1.eval (.tmp 50) = _ := i50.trans (hp 38 (by kernel_rfl))
        exact st_index rfl (e50) (eval_const _) (ix50 gl 27 cap 16 (by decide) _) (hK _ _ rfl hG (Below.refl _ _))
      · intro hp K hK
        refine g_no rfl ?_
        have e51 : a1.eval (.tmp 51) = _ := i51.trans (hp 39 (by kernel_rfl))
        exact st_load rfl (e51) (ld_cell 3 (by kernel_rfl) (cw hG p16)) (hK _ _ rfl hG (Below.refl _ _))
      · intro hp K hK
        refine g_no rfl ?_
        exact st_move (.inl rfl) (e3) (hK _ _ rfl hG (Below.refl _ _))
      · intro hp K hK
        refine g_no rfl ?_
        have e53 : a1.eval (.tmp 53) = _ := i53.trans (hp 41 (by kernel_rfl))
        exact st_index rfl (e53) (eval_const _) (ix50 gl 27 cap 17 (by decide) _) (hK _ _ rfl hG (Below.refl _ _))
      · intro hp K hK
        refine g_no rfl ?_
        have e54 : a1.eval (.tmp 54) = _ := i54.trans (hp 42 (by kernel_rfl))
        exact st_load rfl (e54) (ld_cell 3 (by kernel_rfl) (cw hG p17)) (hK _ _ rfl hG (Below.refl _ _))
      · intro hp K hK
        refine g_no rfl ?_
        exact st_move (.inl rfl) (e3) (hK _ _ rfl hG (Below.refl _ _))
      · intro hp K hK
        refine g_no rfl ?_
        have e56 : a1.eval (.tmp 56) = _ := i56.trans (hp 44 (by kernel_rfl))
        exact st_index rfl (e56) (eval_const _) (ix50 gl 27 cap 18 (by decide) _) (hK _ _ rfl hG (Below.refl _ _))
      · intro hp K hK
        refine g_no rfl ?_
        have e57 : a1.eval (.tmp 57) = _ := i57.trans (hp 45 (by kernel_rfl))
        exact st_load rfl (e57) (ld_cell 3 (by kernel_rfl) (cw hG p18)) (hK _ _ rfl hG (Below.refl _ _))
      · intro hp K hK
        refine g_no rfl ?_
        exact st_move (.inl rfl) (e3) (hK _ _ rfl hG (Below.refl _ _))
      · intro hp K hK
        refine g_no rfl ?_
        have e59 : a1.eval (.tmp 59) = _ := i59.trans (hp 47 (by kernel_rfl))
        exact st_index rfl (e59) (eval_const _) (ix50 gl 27 cap 19 (by decide) _) (hK _ _ rfl hG (Below.refl _ _))
      · intro hp K hK
        refine g_no rfl ?_
        have e60 : a1.eval (.tmp 60) = _ := i60.trans (hp 48 (by kernel_rfl))
        exact st_load rfl (e60) (ld_cell 3 (by kernel_rfl) (cw hG p19)) (hK _ _ rfl hG (Below.refl _ _))
      · intro hp K hK
        refine g_no rfl ?_
        exact st_move (.inl rfl) (e3) (hK _ _ rfl hG (Below.refl _ _))
      · intro hp K hK
        refine g_no rfl ?_
        have e62 : a1.eval (.tmp 62) = _ := i62.trans (hp 50 (by kernel_rfl))
        exact st_index rfl (e62) (eval_const _) (ix50 gl 27 cap 20 (by decide) _) (hK _ _ rfl hG (Below.refl _ _))
      · intro hp K hK
        refine g_no rfl ?_
        have e63 : a1.eval (.tmp 63) = _ := i63.trans (hp 51 (by kernel_rfl))
        exact st_load rfl (e63) (ld_cell 3 (by kernel_rfl) (cw hG p20)) (hK _ _ rfl hG (Below.refl _ _))
      · intro hp K hK
        refine g_no rfl ?_
        exact st_move (.inl rfl) (e3) (hK _ _ rfl hG (Below.refl _ _))
      · intro hp K hK
        refine g_no rfl ?_
        have e65 : a1.eval (.tmp 65) = _ := i65.trans (hp 53 (by kernel_rfl))
        exact st_index rfl (e65) (eval_const _) (ix50 gl 27 cap 21 (by decide) _) (hK _ _ rfl hG (Below.refl _ _))
      · intro hp K hK
        refine g_no rfl ?_
        have e66 : a1.eval (.tmp 66) = _ := i66.trans (hp 54 (by kernel_rfl))
        exact st_load rfl (e66) (ld_cell 3 (by kernel_rfl) (cw hG p21)) (hK _ _ rfl hG (Below.refl _ _))
      · intro hp K hK
        refine g_no rfl ?_
        exact st_move (.inl rfl) (e3) (hK _ _ rfl hG (Below.refl _ _))
      · intro hp K hK
        refine g_no rfl ?_
        have e68 : a1.eval (.tmp 68) = _ := i68.trans (hp 56 (by kernel_rfl))
        exact st_index rfl (e68) (eval_const _) (ix50 gl 27 cap 22 (by decide) _) (hK _ _ rfl hG (Below.refl _ _))
      · intro hp K hK
        refine g_no rfl ?_
        have e69 : a1.eval (.tmp 69) = _ := i69.trans (hp 57 (by kernel_rfl))
        exact st_load rfl (e69) (ld_cell 3 (by kernel_rfl) (cw hG p22)) (hK _ _ rfl hG (Below.refl _ _))
      · intro hp K hK
        refine g_no rfl ?_
        exact st_move (.inl rfl) (e3) (hK _ _ rfl hG (Below.refl _ _))
      · intro hp K hK
        refine g_no rfl ?_
        have e71 : a1.eval (.tmp 71) = _ := i71.trans (hp 59 (by kernel_rfl))
        exact st_slice rfl (e71) rfl rfl (sl50 gl 27 cap 23 26 (by omega) (by decide) (by omega) _) (hK _ _ rfl hG (Below.refl _ _))
      · intro hp K hK
        refine g_no rfl ?_
        have e72 : a1.eval (.tmp 72) = _ := i72.trans (hp 60 (by kernel_rfl))
        exact st_arr rfl (e72) (arr22 _ _ _) (hK _ _ rfl hG (Below.refl _ _))
      · intro hp K hK
        refine g_no rfl ?_
        have e73 : a1.eval (.tmp 73) = _ := i73.trans (hp 61 (by kernel_rfl))
        exact st_load rfl (e73) (q3 _ hG) (hK _ _ rfl hG (Below.refl _ _))
      · intro hp K hK
        refine g_no rfl ?_
        have e14 : a1.eval (.tmp 14) = _ := i14.trans (hp 2 (by kernel_rfl))
        have e17 : a1.eval (.tmp 17) = _ := i17.trans (hp 5 (by kernel_rfl))
        have e20 : a1.eval (.tmp 20) = _ := i20.trans (hp 8 (by kernel_rfl))
        have e24 : a1.eval (.tmp 24) = _ := i24.trans (hp 12 (by kernel_rfl))
        have e28 : a1.eval (.tmp 28) = _ := i28.trans (hp 16 (by kernel_rfl))
        have e32 : a1.eval (.tmp 32) = _ := i32.trans (hp 20 (by kernel_rfl))
        have e35 : a1.eval (.tmp 35) = _ := i35.trans (hp 23 (by kernel_rfl))
        have e38 : a1.eval (.tmp 38) = _ := i38.trans (hp 26 (by kernel_rfl))
        have e41 : a1.eval (.tmp 41) = _ := i41.trans (hp 29 (by kernel_rfl))
        have e45 : a1.eval (.tmp 45) = _ := i45.trans (hp 33 (by kernel_rfl))
        have e49 : a1.eval (.tmp 49) = _ := i49.trans (hp 37 (by kernel_rfl))
        have e52 : a1.eval (.tmp 52) = _ := i52.trans (hp 40 (by kernel_rfl))
        have e55 : a1.eval (.tmp 55) = _ := i55.trans (hp 43 (by kernel_rfl))
        have e58 : a1.eval (.tmp 58) = _ := i58.trans (hp 46 (by kernel_rfl))
        have e61 : a1.eval (.tmp 61) = _ := i61.trans (hp 49 (by kernel_rfl))
        have e64 : a1.eval (.tmp 64) = _ := i64.trans (hp 52 (by kernel_rfl))
        have e67 : a1.eval (.tmp 67) = _ := i67.trans (hp 55 (by kernel_rfl))
        have e70 : a1.eval (.tmp 70) = _ := i70.trans (hp 58 (by kernel_rfl))
        have e74 : a1.eval (.tmp 74) = _ := i74.trans (hp 62 (by kernel_rfl))
        exact st_build rfl (by first | (simp only [List.map_toArray, List.map_cons, List.map_nil, eval_const, e14, e17, e20, e24, e28, e32, e35, e38, e41, e45, e49, e52, e55, e58, e61, e64, e67, e70, e74]; done) | (simp only [List.map_toArray, List.map_cons, List.map_nil, eval_const, e14, e17, e20, e24, e28, e32, e35, e38, e41, e45, e49, e52, e55, e58, e61, e64, e67, e70, e74]; rfl)) (by kernel_rfl) (hK _ _ rfl hG (Below.refl _ _))
    intro vs W hG hp a1 ha1
    have q63 : vs 63 = _ := hp 63 (by decide)
    clear hp
    simp only [fill, Act.put, List.append_eq, List.cons_append, List.nil_append, List.take_succ_cons, List.take_zero, List.setIfInBounds_toArray, List.set_cons_succ, List.set_cons_zero, Nat.reduceAdd, Nat.zero_add, q63] at ha1
    subst ha1
    simp only [List.append_eq, List.cons_append, List.nil_append, List.drop_succ_cons, List.drop_zero]
    clear q63
    have HB := Lib.hid hG
    have hgn2 : W.heap[w.heap.size]? = some (.cells #[.int .i64 0, .int .i64 0, .int .i64 0, .int .i64 0, .int .i64 0, .int .i64 0, .int .i64 0, .int .i64 0, .int .i64 0, .int .i64 0, .int .i64 0, .int .i64 0, .int .i64 0, .int .i64 0, .int .i32 0, .int .i32 0, .int .i64 0, .int .i64 0, .int .i64 0, .int .i64 0, .int .i64 0, .int .i64 0, .int .i64 0, .int .i64 0, .int .i64 0, .int .i64 0] 55 (0, 0)) := blk_below HGN.out hG
    clear hG q0 q1 q2 q3
    refine wpList_store_mid rfl 55 (.tmp 2) (.tmp 75) rfl w.heap.size 0 #[.int .i64 x0, .int .i64 x1, .int .i64 x2, .int .i64 x3, .int .i64 x4, .int .i64 x5, .int .i64 x6, .int .i64 x7, .int .i64 x8, .int .i64 x9, .int .i64 x10, .int .i64 x11, .int .i64 x12, .int .i64 x13, .int .i32 x14, .int .i32 x15, .int .i64 x16, .int .i64 x17, .int .i64 x18, .int .i64 x19, .int .i64 x20, .int .i64 x21, .int .i64 x22, .int .i64 x23, .int .i64 x24, .int .i64 x25] (by kernel_rfl) (by kernel_rfl) (by have h := blk_there hgn2; exact h) (by kernel_rfl) (by kernel_rfl) ?_
    have hX1 := blk_puts (cs' := #[.int .i64 x0, .int .i64 x1, .int .i64 x2, .int .i64 x3, .int .i64 x4, .int .i64 x5, .int .i64 x6, .int .i64 x7, .int .i64 x8, .int .i64 x9, .int .i64 x10, .int .i64 x11, .int .i64 x12, .int .i64 x13, .int .i32 x14, .int .i32 x15, .int .i64 x16, .int .i64 x17, .int .i64 x18, .int .i64 x19, .int .i64 x20, .int .i64 x21, .int .i64 x22, .int .i64 x23, .int .i64 x24, .int .i64 x25]) hgn2 rfl
    have HX1 := Lib.hid hX1
    have hBs : Below w.heap.size w1 (W.setCells w.heap.size 0 #[.int .i64 x0, .int .i64 x1, .int .i64 x2, .int .i64 x3, .int .i64 x4, .int .i64 x5, .int .i64 x6, .int .i64 x7, .int .i64 x8, .int .i64 x9, .int .i64 x10, .int .i64 x11, .int .i64 x12, .int .i64 x13, .int .i32 x14, .int .i32 x15, .int .i64 x16, .int .i64 x17, .int .i64 x18, .int .i64 x19, .int .i64 x20, .int .i64 x21, .int .i64 x22, .int .i64 x23, .int .i64 x24, .int .i64 x25].toList) := below_setsL _ 0 0 (HB.out.mono (by have := HG1.out.size; omega)) (Nat.le_refl _)
    have HBs := Lib.hid hBs
    clear hX1 hBs hgn2
    generalize W.setCells w.heap.size 0 #[.int .i64 x0, .int .i64 x1, .int .i64 x2, .int .i64 x3, .int .i64 x4, .int .i64 x5, .int .i64 x6, .int .i64 x7, .int .i64 x8, .int .i64 x9, .int .i64 x10, .int .i64 x11, .int .i64 x12, .int .i64 x13, .int .i32 x14, .int .i32 x15, .int .i64 x16, .int .i64 x17, .int .i64 x18, .int .i64 x19, .int .i64 x20, .int .i64 x21, .int .i64 x22, .int .i64 x23, .int .i64 x24, .int .i64 x25].toList = V at HX1 HBs ⊢
    refine wpList_nil ?_
    refine HK1.out _ _ ?_; clear HK1
    go_wp2
    refine bodyPost_ret (results_c rfl _ _ (w.heap.size) 55 #[.int .i64 x0, .int .i64 x1, .int .i64 x2, .int .i64 x3, .int .i64 x4, .int .i64 x5, .int .i64 x6, .int .i64 x7, .int .i64 x8, .int .i64 x9, .int .i64 x10, .int .i64 x11, .int .i64 x12, .int .i64 x13, .int .i32 x14, .int .i32 x15, .int .i64 x16, .int .i64 x17, .int .i64 x18, .int .i64 x19, .int .i64 x20, .int .i64 x21, .int .i64 x22, .int .i64 x23, .int .i64 x24, .int .i64 x25] (0, 0) _ rfl HX1.out Try.underlying55 rfl (by kernel_rfl)) rfl ?_
    first | exact ⟨rfl, RD_step HR1.out (HBs.out.mono (by omega)) (HBs.out.block g hgw), grown_on HG1.out HBs.out⟩ | (rw [if_neg h26]; exact ⟨rfl, RD_step HR1.out (HBs.out.mono (by omega)) (HBs.out.block g hgw), grown_on HG1.out HBs.out⟩)

  · have hn : (x26 != 0) = true := by simpa using h26
    have p26 := C_at HC.out (i := 26) rfl
    apply wp_seq_k; intro K1 hK1; have HK1 := Lib.hid hK1; clear hK1
    go_wp2_with (go_at_call 24; refine (fails_is b g s1 4 _ hb HR1.out).mono ?_; rintro e w2 ⟨rfl, hR2, hg2⟩; have HR2 := Lib.hid hR2; have HG2 := Lib.hid (grown_trans HG1.out hg2); have HC2 := Lib.hid (C_int HC.out (w' := w2) (fun a ha => by cases ha; exact hg2.block _ hgl1 (fun e => by injection e with e; have e2 : gl = g := e; omega))); have HGN2 := Lib.hid ((hg2.block _ (blk_lt HGN.out) (fun e => by injection e with e; omega)).trans HGN.out); clear hR2 hg2)
    refine HK1.out _ _ ?_; clear HK1
    apply wp_seq_k; intro K1 hK1; have HK1 := Lib.hid hK1; clear hK1
    clear p26
    have p0 := C_at HC2.out (i := 0) rfl
    have p1 := C_at HC2.out (i := 1) rfl
    have p2 := C_at HC2.out (i := 2) rfl
    have p3 := C_at HC2.out (i := 3) rfl
    have p4 := C_at HC2.out (i := 4) rfl
    have p5 := C_at HC2.out (i := 5) rfl
    have p6 := C_at HC2.out (i := 6) rfl
    have p7 := C_at HC2.out (i := 7) rfl
    have p8 := C_at HC2.out (i := 8) rfl
    have p9 := C_at HC2.out (i := 9) rfl
    have p10 := C_at HC2.out (i := 10) rfl
    have p11 := C_at HC2.out (i := 11) rfl
    have p12 := C_at HC2.out (i := 12) rfl
    have p13 := C_at HC2.out (i := 13) rfl
    have p14 := C_at HC2.out (i := 14) rfl
    have p15 := C_at HC2.out (i := 15) rfl
    have p16 := C_at HC2.out (i := 16) rfl
    have p17 := C_at HC2.out (i := 17) rfl
    have p18 := C_at HC2.out (i := 18) rfl
    have p19 := C_at HC2.out (i := 19) rfl
    have p20 := C_at HC2.out (i := 20) rfl
    have p21 := C_at HC2.out (i := 21) rfl
    have p22 := C_at HC2.out (i := 22) rfl
    have p23 := C_at HC2.out (i := 23) rfl
    have p24 := C_at HC2.out (i := 24) rfl
    have p25 := C_at HC2.out (i := 25) rfl
    have q0 : ∀ W, Below w2.heap.size w2 W → (loadVar 52 ⟨gl, 3, none⟩).run Try.prog W = .ok (.agg #[.int .i64 x3, .int .i64 x4]) W := fun W hW => ld_arr [.int .i64 x3, .int .i64 x4] 52 _ (fun j => match j with | 0 => fun v hv => by obtain rfl := Option.some.inj hv; exact cw hW p3 | 1 => fun v hv => by obtain rfl := Option.some.inj hv; exact cw hW p4 | j + 2 => fun v hv => by simp at hv) Try.underlying52 rfl (by kernel_rfl)
    have q1 : ∀ W, Below w2.heap.size w2 W → (loadVar 52 ⟨gl, 5, none⟩).run Try.prog W = .ok (.agg #[.int .i64 x5, .int .i64 x6]) W := fun W hW => ld_arr [.int .i64 x5, .int .i64 x6] 52 _ (fun j => match j with | 0 => fun v hv => by obtain rfl := Option.some.inj hv; exact cw hW p5 | 1 => fun v hv => by obtain rfl := Option.some.inj hv; exact cw hW p6 | j + 2 => fun v hv => by simp at hv) Try.underlying52 rfl (by kernel_rfl)
    have q2 : ∀ W, Below w2.heap.size w2 W → (loadVar 53 ⟨gl, 7, none⟩).run Try.prog W = .ok (.agg #[.int .i64 x7, .int .i64 x8, .int .i64 x9, .int .i64 x10]) W := fun W hW => ld_arr [.int .i64 x7, .int .i64 x8, .int .i64 x9, .int .i64 x10] 53 _ (fun j => match j with | 0 => fun v hv => by obtain rfl := Option.some.inj hv; exact cw hW p7 | 1 => fun v hv => by obtain rfl := Option.some.inj hv; exact cw hW p8 | 2 => fun v hv => by obtain rfl := Option.some.inj hv; exact cw hW p9 | 3 => fun v hv => by obtain rfl := Option.some.inj hv; exact cw hW p10 | j + 4 => fun v hv => by simp at hv) Try.underlying53 rfl (by kernel_rfl)
    have q3 : ∀ W, Below w2.heap.size w2 W → (loadVar 22 ⟨gl, 23, none⟩).run Try.prog W = .ok (.agg #[.int .i64 x23, .int .i64 x24, .int .i64 x25]) W := fun W hW => ld_arr [.int .i64 x23, .int .i64 x24, .int .i64 x25] 22 _ (fun j => match j with | 0 => fun v hv => by obtain rfl := Option.some.inj hv; exact cw hW p23 | 1 => fun v hv => by obtain rfl := Option.some.inj hv; exact cw hW p24 | 2 => fun v hv => by obtain rfl := Option.some.inj hv; exact cw hW p25 | j + 3 => fun v hv => by simp at hv) Try.underlying22 rfl (by kernel_rfl)
    refine wp_drawn (R := fun W W' => Below W.heap.size W W') 64 [.val (.slice (some ⟨gl, 0, none⟩) 27 cap), .val (.pointer (some ⟨gl, 0, none⟩)), .val (.int .i64 x0), .val (.slice (some ⟨gl, 0, none⟩) 27 cap), .val (.pointer (some ⟨gl, 1, none⟩)), .val (.int .i64 x1), .val (.slice (some ⟨gl, 0, none⟩) 27 cap), .val (.pointer (some ⟨gl, 2, none⟩)), .val (.int .i64 x2), .val (.slice (some ⟨gl, 0, none⟩) 27 cap), .val (.slice (some ⟨gl, 3, none⟩) 2 (cap - 3)), .val (.pointer (some ⟨gl, 3, none⟩)), .val (.agg #[.int .i64 x3, .int .i64 x4]), .val (.slice (some ⟨gl, 0, none⟩) 27 cap), .val (.slice (some ⟨gl, 5, none⟩) 2 (cap - 5)), .val (.pointer (some ⟨gl, 5, none⟩)), .val (.agg #[.int .i64 x5, .int .i64 x6]), .val (.slice (some ⟨gl, 0, none⟩) 27 cap), .val (.slice (some ⟨gl, 7, none⟩) 4 (cap - 7)), .val (.pointer (some ⟨gl, 7, none⟩)), .val (.agg #[.int .i64 x7, .int .i64 x8, .int .i64 x9, .int .i64 x10]), .val (.slice (some ⟨gl, 0, none⟩) 27 cap), .val (.pointer (some ⟨gl, 11, none⟩)), .val (.int .i64 x11), .val (.slice (some ⟨gl, 0, none⟩) 27 cap), .val (.pointer (some ⟨gl, 12, none⟩)), .val (.int .i64 x12), .val (.slice (some ⟨gl, 0, none⟩) 27 cap), .val (.pointer (some ⟨gl, 13, none⟩)), .val (.int .i64 x13), .val (.slice (some ⟨gl, 0, none⟩) 27 cap), .val (.pointer (some ⟨gl, 14, none⟩)), .val (.int .i64 x14), .val (.int .i32 x14), .val (.slice (some ⟨gl, 0, none⟩) 27 cap), .val (.pointer (some ⟨gl, 15, none⟩)), .val (.int .i64 x15), .val (.int .i32 x15), .val (.slice (some ⟨gl, 0, none⟩) 27 cap), .val (.pointer (some ⟨gl, 16, none⟩)), .val (.int .i64 x16), .val (.slice (some ⟨gl, 0, none⟩) 27 cap), .val (.pointer (some ⟨gl, 17, none⟩)), .val (.int .i64 x17), .val (.slice (some ⟨gl, 0, none⟩) 27 cap), .val (.pointer (some ⟨gl, 18, none⟩)), .val (.int .i64 x18), .val (.slice (some ⟨gl, 0, none⟩) 27 cap), .val (.pointer (some ⟨gl, 19, none⟩)), .val (.int .i64 x19), .val (.slice (some ⟨gl, 0, none⟩) 27 cap), .val (.pointer (some ⟨gl, 20, none⟩)), .val (.int .i64 x20), .val (.slice (some ⟨gl, 0, none⟩) 27 cap), .val (.pointer (some ⟨gl, 21, none⟩)), .val (.int .i64 x21), .val (.slice (some ⟨gl, 0, none⟩) 27 cap), .val (.pointer (some ⟨gl, 22, none⟩)), .val (.int .i64 x22), .val (.slice (some ⟨gl, 0, none⟩) 27 cap), .val (.slice (some ⟨gl, 23, none⟩) 3 (cap - 23)), .val (.pointer (some ⟨gl, 23, none⟩)), .val (.agg #[.int .i64 x23, .int .i64 x24, .int .i64 x25]), .val (.agg #[.int .i64 x0, .int .i64 x1, .int .i64 x2, .int .i64 x3, .int .i64 x4, .int .i64 x5, .int .i64 x6, .int .i64 x7, .int .i64 x8, .int .i64 x9, .int .i64 x10, .int .i64 x11, .int .i64 x12, .int .i64 x13, .int .i32 x14, .int .i32 x15, .int .i64 x16, .int .i64 x17, .int .i64 x18, .int .i64 x19, .int .i64 x20, .int .i64 x21, .int .i64 x22, .int .i64 x23, .int .i64 x24, .int .i64 x25])] (fun W => Below w2.heap.size w2 W) rfl (by kernel_rfl) (Below.refl _ _).drew ?_ ?_
    · intro vs W hG a1 ha1
      have e3 : a1.eval (.tmp 3) = .slice (some ⟨gl, 0, none⟩) 27 cap := eo ha1 (by kernel_rfl)
      have i12 := ei (d := 12) ha1 0 (by kernel_rfl) rfl rfl (by simp)
      have i13 := ei (d := 13) ha1 1 (by kernel_rfl) rfl rfl (by simp)
      have i14 := ei (d := 14) ha1 2 (by kernel_rfl) rfl rfl (by simp)
      have i15 := ei (d := 15) ha1 3 (by kernel_rfl) rfl rfl (by simp)
      have i16 := ei (d := 16) ha1 4 (by kernel_rfl) rfl rfl (by simp)
      have i17 := ei (d := 17) ha1 5 (by kernel_rfl) rfl rfl (by simp)
      have i18 := ei (d := 18) ha1 6 (by kernel_rfl) rfl rfl (by simp)
      have i19 := ei (d := 19) ha1 7 (by kernel_rfl) rfl rfl (by simp)
      have i20 := ei (d := 20) ha1 8 (by kernel_rfl) rfl rfl (by simp)
      have i21 := ei (d := 21) ha1 9 (by kernel_rfl) rfl rfl (by simp)
      have i22 := ei (d := 22) ha1 10 (by kernel_rfl) rfl rfl (by simp)
      have i23 := ei (d := 23) ha1 11 (by kernel_rfl) rfl rfl (by simp)
      have i24 := ei (d := 24) ha1 12 (by kernel_rfl) rfl rfl (by simp)
      have i25 := ei (d := 25) ha1 13 (by kernel_rfl) rfl rfl (by simp)
      have i26 := ei (d := 26) ha1 14 (by kernel_rfl) rfl rfl (by simp)
      have i27 := ei (d := 27) ha1 15 (by kernel_rfl) rfl rfl (by simp)
      have i28 := ei (d := 28) ha1 16 (by kernel_rfl) rfl rfl (by simp)
      have i29 := ei (d := 29) ha1 17 (by kernel_rfl) rfl rfl (by simp)
      have i30 := ei (d := 30) ha1 18 (by kernel_rfl) rfl rfl (by simp)
      have i31 := ei (d := 31) ha1 19 (by kernel_rfl) rfl rfl (by simp)
      have i32 := ei (d := 32) ha1 20 (by kernel_rfl) rfl rfl (by simp)
      have i33 := ei (d := 33) ha1 21 (by kernel_rfl) rfl rfl (by simp)
      have i34 := ei (d := 34) ha1 22 (by kernel_rfl) rfl rfl (by simp)
      have i35 := ei (d := 35) ha1 23 (by kernel_rfl) rfl rfl (by simp)
      have i36 := ei (d := 36) ha1 24 (by kernel_rfl) rfl rfl (by simp)
      have i37 := ei (d := 37) ha1 25 (by kernel_rfl) rfl rfl (by simp)
      have i38 := ei (d := 38) ha1 26 (by kernel_rfl) rfl rfl (by simp)
      have i39 := ei (d := 39) ha1 27 (by kernel_rfl) rfl rfl (by simp)
      have i40 := ei (d := 40) ha1 28 (by kernel_rfl) rfl rfl (by simp)
      have i41 := ei (d := 41) ha1 29 (by kernel_rfl) rfl rfl (by simp)
      have i42 := ei (d := 42) ha1 30 (by kernel_rfl) rfl rfl (by simp)
      have i43 := ei (d := 43) ha1 31 (by kernel_rfl) rfl rfl (by simp)
      have i44 := ei (d := 44) ha1 32 (by kernel_rfl) rfl rfl (by simp)
      have i45 := ei (d := 45) ha1 33 (by kernel_rfl) rfl rfl (by simp)
      have i46 := ei (d := 46) ha1 34 (by kernel_rfl) rfl rfl (by simp)
      have i47 := ei (d := 47) ha1 35 (by kernel_rfl) rfl rfl (by simp)
      have i48 := ei (d := 48) ha1 36 (by kernel_rfl) rfl rfl (by simp)
      have i49 := ei (d := 49) ha1 37 (by kernel_rfl) rfl rfl (by simp)
      have i50 := ei (d := 50) ha1 38 (by kernel_rfl) rfl rfl (by simp)
      have i51 := ei (d := 51) ha1 39 (by kernel_rfl) rfl rfl (by simp)
      have i52 := ei (d := 52) ha1 40 (by kernel_rfl) rfl rfl (by simp)
      have i53 := ei (d := 53) ha1 41 (by kernel_rfl) rfl rfl (by simp)
      have i54 := ei (d := 54) ha1 42 (by kernel_rfl) rfl rfl (by simp)
      have i55 := ei (d := 55) ha1 43 (by kernel_rfl) rfl rfl (by simp)
      have i56 := ei (d := 56) ha1 44 (by kernel_rfl) rfl rfl (by simp)
      have i57 := ei (d := 57) ha1 45 (by kernel_rfl) rfl rfl (by simp)
      have i58 := ei (d := 58) ha1 46 (by kernel_rfl) rfl rfl (by simp)
      have i59 := ei (d := 59) ha1 47 (by kernel_rfl) rfl rfl (by simp)
      have i60 := ei (d := 60) ha1 48 (by kernel_rfl) rfl rfl (by simp)
      have i61 := ei (d := 61) ha1 49 (by kernel_rfl) rfl rfl (by simp)
      have i62 := ei (d := 62) ha1 50 (by kernel_rfl) rfl rfl (by simp)
      have i63 := ei (d := 63) ha1 51 (by kernel_rfl) rfl rfl (by simp)
      have i64 := ei (d := 64) ha1 52 (by kernel_rfl) rfl rfl (by simp)
      have i65 := ei (d := 65) ha1 53 (by kernel_rfl) rfl rfl (by simp)
      have i66 := ei (d := 66) ha1 54 (by kernel_rfl) rfl rfl (by simp)
      have i67 := ei (d := 67) ha1 55 (by kernel_rfl) rfl rfl (by simp)
      have i68 := ei (d := 68) ha1 56 (by kernel_rfl) rfl rfl (by simp)
      have i69 := ei (d := 69) ha1 57 (by kernel_rfl) rfl rfl (by simp)
      have i70 := ei (d := 70) ha1 58 (by kernel_rfl) rfl rfl (by simp)
      have i71 := ei (d := 71) ha1 59 (by kernel_rfl) rfl rfl (by simp)
      have i72 := ei (d := 72) ha1 60 (by kernel_rfl) rfl rfl (by simp)
      have i73 := ei (d := 73) ha1 61 (by kernel_rfl) rfl rfl (by simp)
      have i74 := ei (d := 74) ha1 62 (by kernel_rfl) rfl rfl (by simp)
      clear ha1
      refine And.intro ?_ (And.intro ?_ (And.intro ?_ (And.intro ?_ (And.intro ?_ (And.intro ?_ (And.intro ?_ (And.intro ?_ (And.intro ?_ (And.intro ?_ (And.intro ?_ (And.intro ?_ (And.intro ?_ (And.intro ?_ (And.intro ?_ (And.intro ?_ (And.intro ?_ (And.intro ?_ (And.intro ?_ (And.intro ?_ (And.intro ?_ (And.intro ?_ (And.intro ?_ (And.intro ?_ (And.intro ?_ (And.intro ?_ (And.intro ?_ (And.intro ?_ (And.intro ?_ (And.intro ?_ (And.intro ?_ (And.intro ?_ (And.intro ?_ (And.intro ?_ (And.intro ?_ (And.intro ?_ (And.intro ?_ (And.intro ?_ (And.intro ?_ (And.intro ?_ (And.intro ?_ (And.intro ?_ (And.intro ?_ (And.intro ?_ (And.intro ?_ (And.intro ?_ (And.intro ?_ (And.intro ?_ (And.intro ?_ (And.intro ?_ (And.intro ?_ (And.intro ?_ (And.intro ?_ (And.intro ?_ (And.intro ?_ (And.intro ?_ (And.intro ?_ (And.intro ?_ (And.intro ?_ (And.intro ?_ (And.intro ?_ (And.intro ?_ (And.intro ?_ (And.intro ?_ (trivial))))))))))))))))))))))))))))))))))))))))))))))))))))))))))))))))
      · intro hp K hK
        refine g_no rfl ?_
        exact st_move (.inl rfl) (e3) (hK _ _ rfl hG (Below.refl _ _))
      · intro hp K hK
        refine g_no rfl ?_
        have e12 : a1.eval (.tmp 12) = _ := i12.trans (hp 0 (by kernel_rfl))
        exact st_index rfl (e12) (eval_const _) (ix50 gl 27 cap 0 (by decide) _) (hK _ _ rfl hG (Below.refl _ _))
      · intro hp K hK
        refine g_no rfl ?_
        have e13 : a1.eval (.tmp 13) = _ := i13.trans (hp 1 (by kernel_rfl))
        exact st_load rfl (e13) (ld_cell 3 (by kernel_rfl) (cw hG p0)) (hK _ _ rfl hG (Below.refl _ _))
      · intro hp K hK
        refine g_no rfl ?_
        exact st_move (.inl rfl) (e3) (hK _ _ rfl hG (Below.refl _ _))
      · intro hp K hK
        refine g_no rfl ?_
        have e15 : a1.eval (.tmp 15) = _ := i15.trans (hp 3 (by kernel_rfl))
        exact st_index rfl (e15) (eval_const _) (ix50 gl 27 cap 1 (by decide) _) (hK _ _ rfl hG (Below.refl _ _))
      · intro hp K hK
        refine g_no rfl ?_
        have e16 : a1.eval (.tmp 16) = _ := i16.trans (hp 4 (by kernel_rfl))
        exact st_load rfl (e16) (ld_cell 3 (by kernel_rfl) (cw hG p1)) (hK _ _ rfl hG (Below.refl _ _))
      · intro hp K hK
        refine g_no rfl ?_
        exact st_move (.inl rfl) (e3) (hK _ _ rfl hG (Below.refl _ _))
      · intro hp K hK
        refine g_no rfl ?_
        have e18 : a1.eval (.tmp 18) = _ := i18.trans (hp 6 (by kernel_rfl))
        exact st_index rfl (e18) (eval_const _) (ix50 gl 27 cap 2 (by decide) _) (hK _ _ rfl hG (Below.refl _ _))
      · intro hp K hK
        refine g_no rfl ?_
        have e19 : a1.eval (.tmp 19) = _ := i19.trans (hp 7 (by kernel_rfl))
        exact st_load rfl (e19) (ld_cell 3 (by kernel_rfl) (cw hG p2)) (hK _ _ rfl hG (Below.refl _ _))
      · intro hp K hK
        refine g_no rfl ?_
        exact st_move (.inl rfl) (e3) (hK _ _ rfl hG (Below.refl _ _))
      · intro hp K hK
        refine g_no rfl ?_
        have e21 : a1.eval (.tmp 21) = _ := i21.trans (hp 9 (by kernel_rfl))
        exact st_slice rfl (e21) rfl rfl (sl50 gl 27 cap 3 5 (by omega) (by decide) (by omega) _) (hK _ _ rfl hG (Below.refl _ _))
      · intro hp K hK
        refine g_no rfl ?_
        have e22 : a1.eval (.tmp 22) = _ := i22.trans (hp 10 (by kernel_rfl))
        exact st_arr rfl (e22) (arr52 _ _ _) (hK _ _ rfl hG (Below.refl _ _))
      · intro hp K hK
        refine g_no rfl ?_
        have e23 : a1.eval (.tmp 23) = _ := i23.trans (hp 11 (by kernel_rfl))
        exact st_load rfl (e23) (q0 _ hG) (hK _ _ rfl hG (Below.refl _ _))
      · intro hp K hK
        refine g_no rfl ?_
        exact st_move (.inl rfl) (e3) (hK _ _ rfl hG (Below.refl _ _))
      · intro hp K hK
        refine g_no rfl ?_
        have e25 : a1.eval (.tmp 25) = _ := i25.trans (hp 13 (by kernel_rfl))
        exact st_slice rfl (e25) rfl rfl (sl50 gl 27 cap 5 7 (by omega) (by decide) (by omega) _) (hK _ _ rfl hG (Below.refl _ _))
      · intro hp K hK
        refine g_no rfl ?_
        have e26 : a1.eval (.tmp 26) = _ := i26.trans (hp 14 (by kernel_rfl))
        exact st_arr rfl (e26) (arr52 _ _ _) (hK _ _ rfl hG (Below.refl _ _))
      · intro hp K hK
        refine g_no rfl ?_
        have e27 : a1.eval (.tmp 27) = _ := i27.trans (hp 15 (by kernel_rfl))
        exact st_load rfl (e27) (q1 _ hG) (hK _ _ rfl hG (Below.refl _ _))
      · intro hp K hK
        refine g_no rfl ?_
        exact st_move (.inl rfl) (e3) (hK _ _ rfl hG (Below.refl _ _))
      · intro hp K hK
        refine g_no rfl ?_
        have e29 : a1.eval (.tmp 29) = _ := i29.trans (hp 17 (by kernel_rfl))
        exact st_slice rfl (e29) rfl rfl (sl50 gl 27 cap 7 11 (by omega) (by decide) (by omega) _) (hK _ _ rfl hG (Below.refl _ _))
      · intro hp K hK
        refine g_no rfl ?_
        have e30 : a1.eval (.tmp 30) = _ := i30.trans (hp 18 (by kernel_rfl))
        exact st_arr rfl (e30) (arr53 _ _ _) (hK _ _ rfl hG (Below.refl _ _))
      · intro hp K hK
        refine g_no rfl ?_
        have e31 : a1.eval (.tmp 31) = _ := i31.trans (hp 19 (by kernel_rfl))
        exact st_load rfl (e31) (q2 _ hG) (hK _ _ rfl hG (Below.refl _ _))
      · intro hp K hK
        refine g_no rfl ?_
        exact st_move (.inl rfl) (e3) (hK _ _ rfl hG (Below.refl _ _))
      · intro hp K hK
        refine g_no rfl ?_
        have e33 : a1.eval (.tmp 33) = _ := i33.trans (hp 21 (by kernel_rfl))
        exact st_index rfl (e33) (eval_const _) (ix50 gl 27 cap 11 (by decide) _) (hK _ _ rfl hG (Below.refl _ _))
      · intro hp K hK
        refine g_no rfl ?_
        have e34 : a1.eval (.tmp 34) = _ := i34.trans (hp 22 (by kernel_rfl))
        exact st_load rfl (e34) (ld_cell 3 (by kernel_rfl) (cw hG p11)) (hK _ _ rfl hG (Below.refl _ _))
      · intro hp K hK
        refine g_no rfl ?_
        exact st_move (.inl rfl) (e3) (hK _ _ rfl hG (Below.refl _ _))
      · intro hp K hK
        refine g_no rfl ?_
        have e36 : a1.eval (.tmp 36) = _ := i36.trans (hp 24 (by kernel_rfl))
        exact st_index rfl (e36) (eval_const _) (ix50 gl 27 cap 12 (by decide) _) (hK _ _ rfl hG (Below.refl _ _))
      · intro hp K hK
        refine g_no rfl ?_
        have e37 : a1.eval (.tmp 37) = _ := i37.trans (hp 25 (by kernel_rfl))
        exact st_load rfl (e37) (ld_cell 3 (by kernel_rfl) (cw hG p12)) (hK _ _ rfl hG (Below.refl _ _))
      · intro hp K hK
        refine g_no rfl ?_
        exact st_move (.inl rfl) (e3) (hK _ _ rfl hG (Below.refl _ _))
      · intro hp K hK
        refine g_no rfl ?_
        have e39 : a1.eval (.tmp 39) = _ := i39.trans (hp 27 (by kernel_rfl))
        exact st_index rfl (e39) (eval_const _) (ix50 gl 27 cap 13 (by decide) _) (hK _ _ rfl hG (Below.refl _ _))
      · intro hp K hK
        refine g_no rfl ?_
        have e40 : a1.eval (.tmp 40) = _ := i40.trans (hp 28 (by kernel_rfl))
        exact st_load rfl (e40) (ld_cell 3 (by kernel_rfl) (cw hG p13)) (hK _ _ rfl hG (Below.refl _ _))
      · intro hp K hK
        refine g_no rfl ?_
        exact st_move (.inl rfl) (e3) (hK _ _ rfl hG (Below.refl _ _))
      · intro hp K hK
        refine g_no rfl ?_
        have e42 : a1.eval (.tmp 42) = _ := i42.trans (hp 30 (by kernel_rfl))
        exact st_index rfl (e42) (eval_const _) (ix50 gl 27 cap 14 (by decide) _) (hK _ _ rfl hG (Below.refl _ _))
      · intro hp K hK
        refine g_no rfl ?_
        have e43 : a1.eval (.tmp 43) = _ := i43.trans (hp 31 (by kernel_rfl))
        exact st_load rfl (e43) (ld_cell 3 (by kernel_rfl) (cw hG p14)) (hK _ _ rfl hG (Below.refl _ _))
      · intro hp K hK
        refine g_no rfl ?_
        have e44 : a1.eval (.tmp 44) = _ := i44.trans (hp 32 (by kernel_rfl))
        exact st_conv rfl (e44) (cvi w14 _) (hK _ _ rfl hG (Below.refl _ _))
      · intro hp K hK
        refine g_no rfl ?_
        exact st_move (.inl rfl) (e3) (hK _ _ rfl hG (Below.refl _ _))
      · intro hp K hK
        refine g_no rfl ?_
        have e46 : a1.eval (.tmp 46) = _ := i46.trans (hp 34 (by kernel_rfl))
        exact st_index rfl (e46) (eval_const _) (ix50 gl 27 cap 15 (by decide) _) (hK _ _ rfl hG (Below.refl _ _))
      · intro hp K hK
        refine g_no rfl ?_
        have e47 : a1.eval (.tmp 47) = _ := i47.trans (hp 35 (by kernel_rfl))
        exact st_load rfl (e47) (ld_cell 3 (by kernel_rfl) (cw hG p15)) (hK _ _ rfl hG (Below.refl _ _))
      · intro hp K hK
        refine g_no rfl ?_
        have e48 : a1.eval (.tmp 48) = _ := i48.trans (hp 36 (by kernel_rfl))
        exact st_conv rfl (e48) (cvi w15 _) (hK _ _ rfl hG (Below.refl _ _))
      · intro hp K hK
        refine g_no rfl ?_
        exact st_move (.inl rfl) (e3) (hK _ _ rfl hG (Below.refl _ _))
      · intro hp K hK
        refine g_no rfl ?_
        have e50 : a1.eval (.tmp 50) = _ := i50.trans (hp 38 (by kernel_rfl))
        exact st_index rfl (e50) (eval_const _) (ix50 gl 27 cap 16 (by decide) _) (hK _ _ rfl hG (Below.refl _ _))
      · intro hp K hK
        refine g_no rfl ?_
        have e51 : a1.eval (.tmp 51) = _ := i51.trans (hp 39 (by kernel_rfl))
        exact st_load rfl (e51) (ld_cell 3 (by kernel_rfl) (cw hG p16)) (hK _ _ rfl hG (Below.refl _ _))
      · intro hp K hK
        refine g_no rfl ?_
        exact st_move (.inl rfl) (e3) (hK _ _ rfl hG (Below.refl _ _))
      · intro hp K hK
        refine g_no rfl ?_
        have e53 : a1.eval (.tmp 53) = _ := i53.trans (hp 41 (by kernel_rfl))
        exact st_index rfl (e53) (eval_const _) (ix50 gl 27 cap 17 (by decide) _) (hK _ _ rfl hG (Below.refl _ _))
      · intro hp K hK
        refine g_no rfl ?_
        have e54 : a1.eval (.tmp 54) = _ := i54.trans (hp 42 (by kernel_rfl))
        exact st_load rfl (e54) (ld_cell 3 (by kernel_rfl) (cw hG p17)) (hK _ _ rfl hG (Below.refl _ _))
      · intro hp K hK
        refine g_no rfl ?_
        exact st_move (.inl rfl) (e3) (hK _ _ rfl hG (Below.refl _ _))
      · intro hp K hK
        refine g_no rfl ?_
        have e56 : a1.eval (.tmp 56) = _ := i56.trans (hp 44 (by kernel_rfl))
        exact st_index rfl (e56) (eval_const _) (ix50 gl 27 cap 18 (by decide) _) (hK _ _ rfl hG (Below.refl _ _))
      · intro hp K hK
        refine g_no rfl ?_
        have e57 : a1.eval (.tmp 57) = _ := i57.trans (hp 45 (by kernel_rfl))
        exact st_load rfl (e57) (ld_cell 3 (by kernel_rfl) (cw hG p18)) (hK _ _ rfl hG (Below.refl _ _))
      · intro hp K hK
        refine g_no rfl ?_
        exact st_move (.inl rfl) (e3) (hK _ _ rfl hG (Below.refl _ _))
      · intro hp K hK
        refine g_no rfl ?_
        have e59 : a1.eval (.tmp 59) = _ := i59.trans (hp 47 (by kernel_rfl))
        exact st_index rfl (e59) (eval_const _) (ix50 gl 27 cap 19 (by decide) _) (hK _ _ rfl hG (Below.refl _ _))
      · intro hp K hK
        refine g_no rfl ?_
        have e60 : a1.eval (.tmp 60) = _ := i60.trans (hp 48 (by kernel_rfl))
        exact st_load rfl (e60) (ld_cell 3 (by kernel_rfl) (cw hG p19)) (hK _ _ rfl hG (Below.refl _ _))
      · intro hp K hK
        refine g_no rfl ?_
        exact st_move (.inl rfl) (e3) (hK _ _ rfl hG (Below.refl _ _))
      · intro hp K hK
        refine g_no rfl ?_
        have e62 : a1.eval (.tmp 62) = _ := i62.trans (hp 50 (by kernel_rfl))
        exact st_index rfl (e62) (eval_const _) (ix50 gl 27 cap 20 (by decide) _) (hK _ _ rfl hG (Below.refl _ _))
      · intro hp K hK
        refine g_no rfl ?_
        have e63 : a1.eval (.tmp 63) = _ := i63.trans (hp 51 (by kernel_rfl))
        exact st_load rfl (e63) (ld_cell 3 (by kernel_rfl) (cw hG p20)) (hK _ _ rfl hG (Below.refl _ _))
      · intro hp K hK
        refine g_no rfl ?_
        exact st_move (.inl rfl) (e3) (hK _ _ rfl hG (Below.refl _ _))
      · intro hp K hK
        refine g_no rfl ?_
        have e65 : a1.eval (.tmp 65) = _ := i65.trans (hp 53 (by kernel_rfl))
        exact st_index rfl (e65) (eval_const _) (ix50 gl 27 cap 21 (by decide) _) (hK _ _ rfl hG (Below.refl _ _))
      · intro hp K hK
        refine g_no rfl ?_
        have e66 : a1.eval (.tmp 66) = _ := i66.trans (hp 54 (by kernel_rfl))
        exact st_load rfl (e66) (ld_cell 3 (by kernel_rfl) (cw hG p21)) (hK _ _ rfl hG (Below.refl _ _))
      · intro hp K hK
        refine g_no rfl ?_
        exact st_move (.inl rfl) (e3) (hK _ _ rfl hG (Below.refl _ _))
      · intro hp K hK
        refine g_no rfl ?_
        have e68 : a1.eval (.tmp 68) = _ := i68.trans (hp 56 (by kernel_rfl))
        exact st_index rfl (e68) (eval_const _) (ix50 gl 27 cap 22 (by decide) _) (hK _ _ rfl hG (Below.refl _ _))
      · intro hp K hK
        refine g_no rfl ?_
        have e69 : a1.eval (.tmp 69) = _ := i69.trans (hp 57 (by kernel_rfl))
        exact st_load rfl (e69) (ld_cell 3 (by kernel_rfl) (cw hG p22)) (hK _ _ rfl hG (Below.refl _ _))
      · intro hp K hK
        refine g_no rfl ?_
        exact st_move (.inl rfl) (e3) (hK _ _ rfl hG (Below.refl _ _))
      · intro hp K hK
        refine g_no rfl ?_
        have e71 : a1.eval (.tmp 71) = _ := i71.trans (hp 59 (by kernel_rfl))
        exact st_slice rfl (e71) rfl rfl (sl50 gl 27 cap 23 26 (by omega) (by decide) (by omega) _) (hK _ _ rfl hG (Below.refl _ _))
      · intro hp K hK
        refine g_no rfl ?_
        have e72 : a1.eval (.tmp 72) = _ := i72.trans (hp 60 (by kernel_rfl))
        exact st_arr rfl (e72) (arr22 _ _ _) (hK _ _ rfl hG (Below.refl _ _))
      · intro hp K hK
        refine g_no rfl ?_
        have e73 : a1.eval (.tmp 73) = _ := i73.trans (hp 61 (by kernel_rfl))
        exact st_load rfl (e73) (q3 _ hG) (hK _ _ rfl hG (Below.refl _ _))
      · intro hp K hK
        refine g_no rfl ?_
        have e14 : a1.eval (.tmp 14) = _ := i14.trans (hp 2 (by kernel_rfl))
        have e17 : a1.eval (.tmp 17) = _ := i17.trans (hp 5 (by kernel_rfl))
        have e20 : a1.eval (.tmp 20) = _ := i20.trans (hp 8 (by kernel_rfl))
        have e24 : a1.eval (.tmp 24) = _ := i24.trans (hp 12 (by kernel_rfl))
        have e28 : a1.eval (.tmp 28) = _ := i28.trans (hp 16 (by kernel_rfl))
        have e32 : a1.eval (.tmp 32) = _ := i32.trans (hp 20 (by kernel_rfl))
        have e35 : a1.eval (.tmp 35) = _ := i35.trans (hp 23 (by kernel_rfl))
        have e38 : a1.eval (.tmp 38) = _ := i38.trans (hp 26 (by kernel_rfl))
        have e41 : a1.eval (.tmp 41) = _ := i41.trans (hp 29 (by kernel_rfl))
        have e45 : a1.eval (.tmp 45) = _ := i45.trans (hp 33 (by kernel_rfl))
        have e49 : a1.eval (.tmp 49) = _ := i49.trans (hp 37 (by kernel_rfl))
        have e52 : a1.eval (.tmp 52) = _ := i52.trans (hp 40 (by kernel_rfl))
        have e55 : a1.eval (.tmp 55) = _ := i55.trans (hp 43 (by kernel_rfl))
        have e58 : a1.eval (.tmp 58) = _ := i58.trans (hp 46 (by kernel_rfl))
        have e61 : a1.eval (.tmp 61) = _ := i61.trans (hp 49 (by kernel_rfl))
        have e64 : a1.eval (.tmp 64) = _ := i64.trans (hp 52 (by kernel_rfl))
        have e67 : a1.eval (.tmp 67) = _ := i67.trans (hp 55 (by kernel_rfl))
        have e70 : a1.eval (.tmp 70) = _ := i70.trans (hp 58 (by kernel_rfl))
        have e74 : a1.eval (.tmp 74) = _ := i74.trans (hp 62 (by kernel_rfl))
        exact st_build rfl (by first | (simp only [List.map_toArray, List.map_cons, List.map_nil, eval_const, e14, e17, e20, e24, e28, e32, e35, e38, e41, e45, e49, e52, e55, e58, e61, e64, e67, e70, e74]; done) | (simp only [List.map_toArray, List.map_cons, List.map_nil, eval_const, e14, e17, e20, e24, e28, e32, e35, e38, e41, e45, e49, e52, e55, e58, e61, e64, e67, e70, e74]; rfl)) (by kernel_rfl) (hK _ _ rfl hG (Below.refl _ _))
    intro vs W hG hp a1 ha1
    have q63 : vs 63 = _ := hp 63 (by decide)
    clear hp
    simp only [fill, Act.put, List.append_eq, List.cons_append, List.nil_append, List.take_succ_cons, List.take_zero, List.setIfInBounds_toArray, List.set_cons_succ, List.set_cons_zero, Nat.reduceAdd, Nat.zero_add, q63] at ha1
    subst ha1
    simp only [List.append_eq, List.cons_append, List.nil_append, List.drop_succ_cons, List.drop_zero]
    clear q63
    have HB := Lib.hid hG
    have hgn2 : W.heap[w.heap.size]? = some (.cells #[.int .i64 0, .int .i64 0, .int .i64 0, .int .i64 0, .int .i64 0, .int .i64 0, .int .i64 0, .int .i64 0, .int .i64 0, .int .i64 0, .int .i64 0, .int .i64 0, .int .i64 0, .int .i64 0, .int .i32 0, .int .i32 0, .int .i64 0, .int .i64 0, .int .i64 0, .int .i64 0, .int .i64 0, .int .i64 0, .int .i64 0, .int .i64 0, .int .i64 0, .int .i64 0] 55 (0, 0)) := blk_below HGN2.out hG
    clear hG q0 q1 q2 q3
    refine wpList_store_mid rfl 55 (.tmp 2) (.tmp 75) rfl w.heap.size 0 #[.int .i64 x0, .int .i64 x1, .int .i64 x2, .int .i64 x3, .int .i64 x4, .int .i64 x5, .int .i64 x6, .int .i64 x7, .int .i64 x8, .int .i64 x9, .int .i64 x10, .int .i64 x11, .int .i64 x12, .int .i64 x13, .int .i32 x14, .int .i32 x15, .int .i64 x16, .int .i64 x17, .int .i64 x18, .int .i64 x19, .int .i64 x20, .int .i64 x21, .int .i64 x22, .int .i64 x23, .int .i64 x24, .int .i64 x25] (by kernel_rfl) (by kernel_rfl) (by have h := blk_there hgn2; exact h) (by kernel_rfl) (by kernel_rfl) ?_
    have hX1 := blk_puts (cs' := #[.int .i64 x0, .int .i64 x1, .int .i64 x2, .int .i64 x3, .int .i64 x4, .int .i64 x5, .int .i64 x6, .int .i64 x7, .int .i64 x8, .int .i64 x9, .int .i64 x10, .int .i64 x11, .int .i64 x12, .int .i64 x13, .int .i32 x14, .int .i32 x15, .int .i64 x16, .int .i64 x17, .int .i64 x18, .int .i64 x19, .int .i64 x20, .int .i64 x21, .int .i64 x22, .int .i64 x23, .int .i64 x24, .int .i64 x25]) hgn2 rfl
    have HX1 := Lib.hid hX1
    have hBs : Below w.heap.size w2 (W.setCells w.heap.size 0 #[.int .i64 x0, .int .i64 x1, .int .i64 x2, .int .i64 x3, .int .i64 x4, .int .i64 x5, .int .i64 x6, .int .i64 x7, .int .i64 x8, .int .i64 x9, .int .i64 x10, .int .i64 x11, .int .i64 x12, .int .i64 x13, .int .i32 x14, .int .i32 x15, .int .i64 x16, .int .i64 x17, .int .i64 x18, .int .i64 x19, .int .i64 x20, .int .i64 x21, .int .i64 x22, .int .i64 x23, .int .i64 x24, .int .i64 x25].toList) := below_setsL _ 0 0 (HB.out.mono (by have := HG2.out.size; omega)) (Nat.le_refl _)
    have HBs := Lib.hid hBs
    clear hX1 hBs hgn2
    generalize W.setCells w.heap.size 0 #[.int .i64 x0, .int .i64 x1, .int .i64 x2, .int .i64 x3, .int .i64 x4, .int .i64 x5, .int .i64 x6, .int .i64 x7, .int .i64 x8, .int .i64 x9, .int .i64 x10, .int .i64 x11, .int .i64 x12, .int .i64 x13, .int .i32 x14, .int .i32 x15, .int .i64 x16, .int .i64 x17, .int .i64 x18, .int .i64 x19, .int .i64 x20, .int .i64 x21, .int .i64 x22, .int .i64 x23, .int .i64 x24, .int .i64 x25].toList = V at HX1 HBs ⊢
    refine wpList_nil ?_
    refine HK1.out _ _ ?_; clear HK1
    go_wp2
    refine bodyPost_ret (results_c rfl _ _ (w.heap.size) 55 #[.int .i64 x0, .int .i64 x1, .int .i64 x2, .int .i64 x3, .int .i64 x4, .int .i64 x5, .int .i64 x6, .int .i64 x7, .int .i64 x8, .int .i64 x9, .int .i64 x10, .int .i64 x11, .int .i64 x12, .int .i64 x13, .int .i32 x14, .int .i32 x15, .int .i64 x16, .int .i64 x17, .int .i64 x18, .int .i64 x19, .int .i64 x20, .int .i64 x21, .int .i64 x22, .int .i64 x23, .int .i64 x24, .int .i64 x25] (0, 0) _ rfl HX1.out Try.underlying55 rfl (by kernel_rfl)) rfl ?_
    first | exact ⟨rfl, RD_step HR2.out (HBs.out.mono (by omega)) (HBs.out.block g hgw), grown_on HG2.out HBs.out⟩ | (rw [if_neg h26]; exact ⟨rfl, RD_step HR2.out (HBs.out.mono (by omega)) (HBs.out.block g hgw), grown_on HG2.out HBs.out⟩)

end Go.Proofs.Ytieoklpgnmbpjaa.Gr
