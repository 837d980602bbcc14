/- The writer: numbers are written. -/
import Derived.Test.YtieoklpgnmbpjaaE11
namespace Go.Proofs.Ytieoklpgnmbpjaa.Gr
open Go.RowKit Dr
open Go.Proofs.YtieoklpgnmbpjaaW.PrintWords (Kd Kd.C Kd.R Kd.M_step Kd.C_below Kd.C_get Kd.R_below Kd.R_reads Kd.R_reads' Kd.R_types Kd.R_step Kd.R_alloc Kd.R_drew Kd.R_lower add_field Kd.R_append Kd.R_bound Kd.R_move Kd.R_mono Kd.R_nil Kd.R_set Kd.R_ne Kd.R_over' Kd.R_typed Kd.C_nil Kd.R_slice Kd.R_append_rows Kd.R_form ReadsRow Kd.C_string)
set_option linter.unusedVariables false
set_option linter.unusedSimpArgs false
set_option maxRecDepth 100000
theorem ixn50 (ad : Addr) (n c i : Nat) (h : i < n) (W : World) : (Instr.indexAt 50 (.slice (some ad) n c) (.int .i64 (i : Int))).run Try.prog W = .ok (.pointer (some (ad.add i))) W := by
  have e : (sizeOf (Try.prog.elem 50)).run Try.prog W = .ok 1 W := by kernel_rfl
  rw [run_indexAt_slice W 50 ad n c .i64 i (by kernel_rfl), if_pos ⟨by omega, by omega⟩, e]
  simp only [Result.andThen_ok, Int.toNat_natCast, Nat.mul_one]
/-- Four bytes of the call's own. -/
def newB (cs : Array Value) (t : TypeId) (n : Nat) : DSpec (fun W W' => Below W.heap.size W W') := ⟨fun v W => ∃ gg, v = .slice (some ⟨gg, 0, none⟩) n n ∧ W.heap[gg]? = some (.cells cs t (0, 0)), fun _ _ _ ⟨gg, h1, h2⟩ hb => ⟨gg, h1, blk_below h2 hb⟩⟩
set_option maxHeartbeats 16000000 in
theorem put_is (b g : Nat) (A : Option Addr) (c : Nat) (l bs : List Int) (ok : Bool) (v : Value) (w : World) (hb : b ≤ g) (hbw : b ≤ w.heap.size) (hl : bs.length + 4 * l.length ≤ 1099511627776) (hS0 : WS b g w v ok bs) (hC : ∀ W', Wr b w W' → Kd.C (Kd.int .i64) W' A l.length l) :
    Calls Try.prog 13 #[.pointer (some ⟨g, 0, none⟩), .slice A l.length c] w fun e w' => e = .returned (.tuple #[]) ∧ Wr b w w' ∧ ∃ v', WS b g w' v' (ok && l.all in32) (bs ++ l.flatMap w32) := by
  have HC := Lib.hid hC
  have HS0 := Lib.hid hS0
  clear hC hS0
  go_enter Try.func13, Try.ntmps13
  go_wp2
  refine wp_loopS [5, 6, 9, 10, 11, 12, 13, 14, 15, 16, 17, 18, 19, 20, 21, 22, 23, 24, 25, 26, 27, 28, 29, 30, 31, 32, 33, 34, 35, 36, 37, 38, 39, 40, 41, 42, 43, 44, 45, 46, 47, 48, 49, 50] (fun sl W => ∃ i : Nat, sl 9 = .int .i64 (i : Int) ∧ i ≤ l.length ∧ ∃ u, (Wr b w W ∧ WS b g W u (ok && (l.take i).all in32) (bs ++ (l.take i).flatMap w32))) (fun sl W => Msr (l.length : Int) (sl 9)) ⟨0, rfl, Nat.zero_le _, v, Wr.refl _ _, by simpa using HS0.out⟩ ?_
  intro vs1 W1 a1 hb1' hI
  obtain ⟨i, hsl, hi, u, hS⟩ := hI
  simp only [setSlots, Act.put, List.setIfInBounds_toArray, List.set_cons_succ, List.set_cons_zero] at hb1'
  subst hb1'
  replace hsl : vs1 9 = .int .i64 (i : Int) := hsl
  rw [hsl]
  clear hsl
  have HS := Lib.hid hS
  clear hS
  by_cases hil : i < l.length
  rotate_left
  · have hd : decide ((i : Int) < (l.length : Int)) = false := decide_eq_false (by omega)
    obtain rfl : i = l.length := by omega
    rw [List.take_length] at HS
    go_wp2
    go_end0
    exact ⟨rfl, HS.out.1, u, HS.out.2⟩
  · have hd : decide ((i : Int) < (l.length : Int)) = true := decide_eq_true (by omega)
    have hinc : IntKind.i64.wrap ((i : Int) + 1) = (i : Int) + 1 := IntWalk.i64_in _ (by omega)
    obtain ⟨x, hx⟩ : ∃ x, l[i]? = some x := ⟨_, List.getElem?_eq_getElem hil⟩
    obtain ⟨ad, hAd, -⟩ := (HC.out _ HS.out.1).2.2 (by omega)
    subst hAd
    have hcell : W1.cell? (ad.add i) = some (.int .i64 x) := C_cell (HC.out _ HS.out.1) hx
    have hix : ∀ W, (Instr.indexAt 50 (.slice (some ad) l.length c) (.int .i64 (i : Int))).run Try.prog W = .ok (.pointer (some (ad.add i))) W := fun W => ixn50 ad l.length c i hil W
    apply wp_seq_k; intro K1 hK1; have HK1 := Lib.hid hK1; clear hK1
    go_wp2
    refine HK1.out _ _ ?_; clear HK1
    apply wp_seq_k; intro K2 hK2; have HK2 := Lib.hid hK2; clear hK2
    go_wp2
    refine HK2.out _ _ ?_; clear HK2
    apply wp_seq_k; intro K6 hK6; have HK6 := Lib.hid hK6; clear hK6
    apply wp_block
    apply wp_seq_k; intro K3 hK3; have HK3 := Lib.hid hK3; clear hK3
    go_wp2
    refine HK3.out _ _ ?_; clear HK3
    apply wp_seq_k; intro K3 hK3; have HK3 := Lib.hid hK3; clear hK3
    refine wp_listed (R := fun W W' => Below W.heap.size W W') 15 [.val (.pointer (some ⟨g, 0, none⟩)), .val (.pointer (some ⟨g, 0, none⟩)), .val (.pointer (some ⟨g, 0, none⟩)), .val (.pointer (some ⟨g, 1, none⟩)), .val (.bool (ok && (l.take i).all in32)), .val (.bool (ok && (l.take i).all in32)), .val ((bif ((ok && (l.take i).all in32) == true) then (.int .i64 x) else undef)), .val ((bif ((ok && (l.take i).all in32) == true) then (.bool (decide ((-2147483648) ≤ x))) else undef)), .val (.bool ((ok && (l.take i).all in32) && (decide ((-2147483648) ≤ x)))), .val (.bool ((ok && (l.take i).all in32) && (decide ((-2147483648) ≤ x)))), .val ((bif (((ok && (l.take i).all in32) && (decide ((-2147483648) ≤ x))) == true) then (.int .i64 x) else undef)), .val ((bif (((ok && (l.take i).all in32) && (decide ((-2147483648) ≤ x))) == true) then (.bool (decide (x < 2147483648))) else undef)), .val (.bool (((ok && (l.take i).all in32) && (decide ((-2147483648) ≤ x))) && (decide (x < 2147483648)))), .val (.pointer (some ⟨g, 0, none⟩)), .val (.pointer (some ⟨g, 1, none⟩))] (fun W => Wr b w W ∧ WS b g W u (ok && (l.take i).all in32) (bs ++ (l.take i).flatMap w32)) (by kernel_rfl) HS.out ?_ ?_
    · intro vs W hG a1 ha1
      have e0 : a1.eval (.tmp 0) = .pointer (some ⟨g, 0, none⟩) := eo ha1 (by kernel_rfl)
      have e5 : a1.eval (.tmp 5) = .int .i64 x := eo ha1 (by kernel_rfl)
      have i13 := ei (d := 13) ha1 0 (by kernel_rfl) rfl rfl (by simp)
      have i14 := ei (d := 14) ha1 1 (by kernel_rfl) rfl rfl (by simp)
      have i15 := ei (d := 15) ha1 2 (by kernel_rfl) rfl rfl (by simp)
      have i16 := ei (d := 16) ha1 3 (by kernel_rfl) rfl rfl (by simp)
      have i17 := ei (d := 17) ha1 4 (by kernel_rfl) rfl rfl (by simp)
      have i18 := ei (d := 18) ha1 5 (by kernel_rfl) rfl rfl (by simp)
      have i19 := ei (d := 19) ha1 6 (by kernel_rfl) rfl rfl (by simp)
      have i20 := ei (d := 20) ha1 7 (by kernel_rfl) rfl rfl (by simp)
      have i21 := ei (d := 21) ha1 8 (by kernel_rfl) rfl rfl (by simp)
      have i22 := ei (d := 22) ha1 9 (by kernel_rfl) rfl rfl (by simp)
      have i23 := ei (d := 23) ha1 10 (by kernel_rfl) rfl rfl (by simp)
      have i24 := ei (d := 24) ha1 11 (by kernel_rfl) rfl rfl (by simp)
      have i26 := ei (d := 26) ha1 13 (by kernel_rfl) rfl rfl (by simp)
      clear ha1
      refine And.intro ?_ (And.intro ?_ (And.intro ?_ (And.intro ?_ (And.intro ?_ (And.intro ?_ (And.intro ?_ (And.intro ?_ (And.intro ?_ (And.intro ?_ (And.intro ?_ (And.intro ?_ (And.intro ?_ (And.intro ?_ (And.intro ?_ (trivial)))))))))))))))
      · intro hp K hK
        refine g_no rfl ?_
        exact st_move (.inl rfl) (e0) (hK _ _ rfl hG (Below.refl _ _))
      · intro hp K hK
        refine g_no rfl ?_
        exact st_move (.inl rfl) (e0) (hK _ _ rfl hG (Below.refl _ _))
      · intro hp K hK
        refine g_no rfl ?_
        have e14 : a1.eval (.tmp 14) = _ := i14.trans (hp 1 (by kernel_rfl))
        exact st_nilCheck rfl (e14) (hK _ _ rfl hG (Below.refl _ _))
      · intro hp K hK
        refine g_no rfl ?_
        have e15 : a1.eval (.tmp 15) = _ := i15.trans (hp 2 (by kernel_rfl))
        exact st_field rfl (e15) (by kernel_rfl) (hK _ _ rfl hG (Below.refl _ _))
      · intro hp K hK
        refine g_no rfl ?_
        have e16 : a1.eval (.tmp 16) = _ := i16.trans (hp 3 (by kernel_rfl))
        exact st_load rfl (e16) (ld_cell 4 (by kernel_rfl) ((blk_cell hG.2.blk 1).trans rfl)) (hK _ _ rfl hG (Below.refl _ _))
      · intro hp K hK
        refine g_no rfl ?_
        have e17 : a1.eval (.tmp 17) = _ := i17.trans (hp 4 (by kernel_rfl))
        exact st_move (.inl rfl) (e17) (hK _ _ rfl hG (Below.refl _ _))
      · intro hp K hK
        refine g_is (j := 5) (want := true) (c := ok && (l.take i).all in32) rfl (yielded_of (d := 18) rfl rfl (i18.trans (hp 5 (by kernel_rfl)))) (fun ha1 => ?_) (fun ha1 => hK _ _ (cond_no ha1) hG (Below.refl _ _))
        exact st_move (.inl rfl) (e5) (hK _ _ (cond_yes ha1).symm hG (Below.refl _ _))
      · intro hp K hK
        refine g_is (j := 5) (want := true) (c := ok && (l.take i).all in32) rfl (yielded_of (d := 18) rfl rfl (i18.trans (hp 5 (by kernel_rfl)))) (fun ha1 => ?_) (fun ha1 => hK _ _ (cond_no ha1) hG (Below.refl _ _))
        have e19 : a1.eval (.tmp 19) = _ := i19.trans (hp 6 (by kernel_rfl))
        replace e19 := e19.trans (cond_yes ha1)
        exact st_bin rfl (e19) (eval_const _) b_geq (hK _ _ (cond_yes ha1).symm hG (Below.refl _ _))
      · intro hp K hK
        refine g_no rfl ?_
        have e18 : a1.eval (.tmp 18) = _ := i18.trans (hp 5 (by kernel_rfl))
        have e20 : a1.eval (.tmp 20) = _ := i20.trans (hp 7 (by kernel_rfl))
        exact st_pick rfl (e18) (by first | (rw [e20]; exact pick_and) | (rw [show a1.eval (Operand.tmp 20) = _ from eval_const _]; exact pick_and)) (hK _ _ rfl hG (Below.refl _ _))
      · intro hp K hK
        refine g_no rfl ?_
        have e21 : a1.eval (.tmp 21) = _ := i21.trans (hp 8 (by kernel_rfl))
        exact st_move (.inl rfl) (e21) (hK _ _ rfl hG (Below.refl _ _))
      · intro hp K hK
        refine g_is (j := 9) (want := true) (c := (ok && (l.take i).all in32) && (decide ((-2147483648) ≤ x))) rfl (yielded_of (d := 22) rfl rfl (i22.trans (hp 9 (by kernel_rfl)))) (fun ha1 => ?_) (fun ha1 => hK _ _ (cond_no ha1) hG (Below.refl _ _))
        exact st_move (.inl rfl) (e5) (hK _ _ (cond_yes ha1).symm hG (Below.refl _ _))
      · intro hp K hK
        refine g_is (j := 9) (want := true) (c := (ok && (l.take i).all in32) && (decide ((-2147483648) ≤ x))) rfl (yielded_of (d := 22) rfl rfl (i22.trans (hp 9 (by kernel_rfl)))) (fun ha1 => ?_) (fun ha1 => hK _ _ (cond_no ha1) hG (Below.refl _ _))
        have e23 : a1.eval (.tmp 23) = _ := i23.trans (hp 10 (by kernel_rfl))
        replace e23 := e23.trans (cond_yes ha1)
        exact st_bin rfl (e23) (eval_const _) b_lss (hK _ _ (cond_yes ha1).symm hG (Below.refl _ _))
      · intro hp K hK
        refine g_no rfl ?_
        have e22 : a1.eval (.tmp 22) = _ := i22.trans (hp 9 (by kernel_rfl))
        have e24 : a1.eval (.tmp 24) = _ := i24.trans (hp 11 (by kernel_rfl))
        exact st_pick rfl (e22) (by first | (rw [e24]; exact pick_and) | (rw [show a1.eval (Operand.tmp 24) = _ from eval_const _]; exact pick_and)) (hK _ _ rfl hG (Below.refl _ _))
      · intro hp K hK
        refine g_no rfl ?_
        have e13 : a1.eval (.tmp 13) = _ := i13.trans (hp 0 (by kernel_rfl))
        exact st_nilCheck rfl (e13) (hK _ _ rfl hG (Below.refl _ _))
      · intro hp K hK
        refine g_no rfl ?_
        have e26 : a1.eval (.tmp 26) = _ := i26.trans (hp 13 (by kernel_rfl))
        exact st_field rfl (e26) (by kernel_rfl) (hK _ _ rfl hG (Below.refl _ _))
    intro vs W hG hp a1 ha1
    have q12 : vs 12 = _ := hp 12 (by decide)
    have q14 : vs 14 = _ := hp 14 (by decide)
    clear hp
    simp only [fill, Act.put, List.append_eq, List.cons_append, List.nil_append, List.take_succ_cons, List.take_zero, List.setIfInBounds_toArray, List.set_cons_succ, List.set_cons_zero, Nat.reduceAdd, Nat.zero_add, q12, q14] at ha1
    subst ha1
    simp only [List.append_eq, List.cons_append, List.nil_append, List.drop_succ_cons, List.drop_zero]
    clear q12 q14
    clear hcell HS
    have HS := Lib.hid hG
    have f1 := blk_frozen hG.2.blk 1
    have c1 : W.cell? ⟨g, 1, none⟩ = some (.bool (ok && (l.take i).all in32)) := (blk_cell hG.2.blk 1).trans rfl
    clear hG
    go_wp2
    have hok : (((ok && (l.take i).all in32) && decide (-2147483648 ≤ x)) && decide (x < 2147483648)) = (ok && (l.take (i + 1)).all in32) := by
      rw [all_snoc in32 hx]
      unfold in32
      simp only [Bool.and_assoc]
    rw [hok]
    have hS4 : Wr b w (W.setCell ⟨g, 1, none⟩ (.bool (ok && (l.take (i + 1)).all in32))) ∧ WS b g (W.setCell ⟨g, 1, none⟩ (.bool (ok && (l.take (i + 1)).all in32))) u (ok && (l.take (i + 1)).all in32) (bs ++ (l.take i).flatMap w32) := ⟨HS.out.1.trans (Wr.set HS.out.2.blk rfl hb 1 _), HS.out.2.setok _⟩
    generalize W.setCell ⟨g, 1, none⟩ (.bool (ok && (l.take (i + 1)).all in32)) = V at hS4 ⊢
    clear HS hok f1 c1
    have HS := Lib.hid hS4
    clear hS4
    refine HK3.out _ _ ?_; clear HK3
    apply wp_seq_k; intro K3 hK3; have HK3 := Lib.hid hK3; clear hK3
    go_wp2
    refine HK3.out _ _ ?_; clear HK3
    obtain ⟨y, hy⟩ : ∃ y, x % 4294967296 = y := ⟨_, rfl⟩
    have hw : w32 x = [y % 256, y / 256 % 256, y / 65536 % 256, y / 16777216 % 256] := by rw [← hy]; rfl
    rw [hy]
    have HW := Lib.hid hw
    have hy2 : 0 ≤ y ∧ y < 4294967296 := by omega
    clear hy hw
    refine wp_listed (R := fun W W' => Below W.heap.size W W') 17 [.val (.pointer (some ⟨g, 0, none⟩)), .val (.pointer (some ⟨g, 0, none⟩)), .val (.pointer (some ⟨g, 0, none⟩)), .val (.pointer (some ⟨g, 0, none⟩)), .val (u), .val (.int .u32 y), .val (.int .u8 (y % 256)), .val (.int .u32 y), .val (.int .u32 (y / 256)), .val (.int .u8 (y / 256 % 256)), .val (.int .u32 y), .val (.int .u32 (y / 65536)), .val (.int .u8 (y / 65536 % 256)), .val (.int .u32 y), .val (.int .u32 (y / 16777216)), .val (.int .u8 (y / 16777216 % 256)), newB #[.int .u8 (y % 256), .int .u8 (y / 256 % 256), .int .u8 (y / 65536 % 256), .int .u8 (y / 16777216 % 256)] 5 4] (fun W => Wr b w W ∧ WS b g W u (ok && (l.take (i + 1)).all in32) (bs ++ (l.take i).flatMap w32)) (by kernel_rfl) HS.out ?_ ?_
    · intro vs W hG a1 ha1
      have e0 : a1.eval (.tmp 0) = .pointer (some ⟨g, 0, none⟩) := eo ha1 (by kernel_rfl)
      have e6 : a1.eval (.tmp 6) = .int .u32 y := eo ha1 (by kernel_rfl)
      have i31 := ei (d := 31) ha1 1 (by kernel_rfl) rfl rfl (by simp)
      have i32 := ei (d := 32) ha1 2 (by kernel_rfl) rfl rfl (by simp)
      have i33 := ei (d := 33) ha1 3 (by kernel_rfl) rfl rfl (by simp)
      have i35 := ei (d := 35) ha1 5 (by kernel_rfl) rfl rfl (by simp)
      have i36 := ei (d := 36) ha1 6 (by kernel_rfl) rfl rfl (by simp)
      have i37 := ei (d := 37) ha1 7 (by kernel_rfl) rfl rfl (by simp)
      have i38 := ei (d := 38) ha1 8 (by kernel_rfl) rfl rfl (by simp)
      have i39 := ei (d := 39) ha1 9 (by kernel_rfl) rfl rfl (by simp)
      have i40 := ei (d := 40) ha1 10 (by kernel_rfl) rfl rfl (by simp)
      have i41 := ei (d := 41) ha1 11 (by kernel_rfl) rfl rfl (by simp)
      have i42 := ei (d := 42) ha1 12 (by kernel_rfl) rfl rfl (by simp)
      have i43 := ei (d := 43) ha1 13 (by kernel_rfl) rfl rfl (by simp)
      have i44 := ei (d := 44) ha1 14 (by kernel_rfl) rfl rfl (by simp)
      have i45 := ei (d := 45) ha1 15 (by kernel_rfl) rfl rfl (by simp)
      clear ha1
      refine And.intro ?_ (And.intro ?_ (And.intro ?_ (And.intro ?_ (And.intro ?_ (And.intro ?_ (And.intro ?_ (And.intro ?_ (And.intro ?_ (And.intro ?_ (And.intro ?_ (And.intro ?_ (And.intro ?_ (And.intro ?_ (And.intro ?_ (And.intro ?_ (And.intro ?_ (trivial)))))))))))))))))
      · intro hp K hK
        refine g_no rfl ?_
        exact st_move (.inl rfl) (e0) (hK _ _ rfl hG (Below.refl _ _))
      · intro hp K hK
        refine g_no rfl ?_
        exact st_move (.inl rfl) (e0) (hK _ _ rfl hG (Below.refl _ _))
      · intro hp K hK
        refine g_no rfl ?_
        have e31 : a1.eval (.tmp 31) = _ := i31.trans (hp 1 (by kernel_rfl))
        exact st_nilCheck rfl (e31) (hK _ _ rfl hG (Below.refl _ _))
      · intro hp K hK
        refine g_no rfl ?_
        have e32 : a1.eval (.tmp 32) = _ := i32.trans (hp 2 (by kernel_rfl))
        exact st_field rfl (e32) (by kernel_rfl) (hK _ _ rfl hG (Below.refl _ _))
      · intro hp K hK
        refine g_no rfl ?_
        have e33 : a1.eval (.tmp 33) = _ := i33.trans (hp 3 (by kernel_rfl))
        exact st_load rfl (e33) (ld_cell 28 (by kernel_rfl) ((blk_cell hG.2.blk 0).trans rfl)) (hK _ _ rfl hG (Below.refl _ _))
      · intro hp K hK
        refine g_no rfl ?_
        exact st_move (.inl rfl) (e6) (hK _ _ rfl hG (Below.refl _ _))
      · intro hp K hK
        refine g_no rfl ?_
        have e35 : a1.eval (.tmp 35) = _ := i35.trans (hp 5 (by kernel_rfl))
        exact st_conv rfl (e35) (cv8 y _) (hK _ _ rfl hG (Below.refl _ _))
      · intro hp K hK
        refine g_no rfl ?_
        exact st_move (.inl rfl) (e6) (hK _ _ rfl hG (Below.refl _ _))
      · intro hp K hK
        refine g_no rfl ?_
        have e37 : a1.eval (.tmp 37) = _ := i37.trans (hp 7 (by kernel_rfl))
        exact st_bin rfl (e37) (eval_const _) (shr_u32 (n := 8) (by rw [show (2 : Int) ^ 8 = 256 by decide]) (by decide) _) (hK _ _ rfl hG (Below.refl _ _))
      · intro hp K hK
        refine g_no rfl ?_
        have e38 : a1.eval (.tmp 38) = _ := i38.trans (hp 8 (by kernel_rfl))
        exact st_conv rfl (e38) (cv8 _ _) (hK _ _ rfl hG (Below.refl _ _))
      · intro hp K hK
        refine g_no rfl ?_
        exact st_move (.inl rfl) (e6) (hK _ _ rfl hG (Below.refl _ _))
      · intro hp K hK
        refine g_no rfl ?_
        have e40 : a1.eval (.tmp 40) = _ := i40.trans (hp 10 (by kernel_rfl))
        exact st_bin rfl (e40) (eval_const _) (shr_u32 (n := 16) (by rw [show (2 : Int) ^ 16 = 65536 by decide]) (by decide) _) (hK _ _ rfl hG (Below.refl _ _))
      · intro hp K hK
        refine g_no rfl ?_
        have e41 : a1.eval (.tmp 41) = _ := i41.trans (hp 11 (by kernel_rfl))
        exact st_conv rfl (e41) (cv8 _ _) (hK _ _ rfl hG (Below.refl _ _))
      · intro hp K hK
        refine g_no rfl ?_
        exact st_move (.inl rfl) (e6) (hK _ _ rfl hG (Below.refl _ _))
      · intro hp K hK
        refine g_no rfl ?_
        have e43 : a1.eval (.tmp 43) = _ := i43.trans (hp 13 (by kernel_rfl))
        exact st_bin rfl (e43) (eval_const _) (shr_u32 (n := 24) (by rw [show (2 : Int) ^ 24 = 16777216 by decide]) (by decide) _) (hK _ _ rfl hG (Below.refl _ _))
      · intro hp K hK
        refine g_no rfl ?_
        have e44 : a1.eval (.tmp 44) = _ := i44.trans (hp 14 (by kernel_rfl))
        exact st_conv rfl (e44) (cv8 _ _) (hK _ _ rfl hG (Below.refl _ _))
      · intro hp K hK
        refine g_no rfl ?_
        have e36 : a1.eval (.tmp 36) = _ := i36.trans (hp 6 (by kernel_rfl))
        have e39 : a1.eval (.tmp 39) = _ := i39.trans (hp 9 (by kernel_rfl))
        have e42 : a1.eval (.tmp 42) = _ := i42.trans (hp 12 (by kernel_rfl))
        have e45 : a1.eval (.tmp 45) = _ := i45.trans (hp 15 (by kernel_rfl))
        exact st_buildSlice rfl (by first | (simp only [List.map_toArray, List.map_cons, List.map_nil, eval_const, e36, e39, e42, e45]; done) | (simp only [List.map_toArray, List.map_cons, List.map_nil, eval_const, e36, e39, e42, e45]; rfl)) (by kernel_rfl) (hK _ _ ⟨_, rfl, blk_new _ _⟩ ⟨hG.1.trans (Wr.of_below (below_alloc (Below.refl _ _) _) (Nat.le_trans hbw hG.1.bel.size)), hG.2.below (below_alloc (Below.refl _ _) _)⟩ (below_alloc (Below.refl _ _) _))
    intro vs W hG hp a1 ha1
    have q0 : vs 0 = _ := hp 0 (by decide)
    have q4 : vs 4 = _ := hp 4 (by decide)
    have q16 : ∃ gg, (vs 16) = .slice (some ⟨gg, 0, none⟩) 4 4 ∧ W.heap[gg]? = some (.cells #[.int .u8 (y % 256), .int .u8 (y / 256 % 256), .int .u8 (y / 65536 % 256), .int .u8 (y / 16777216 % 256)] 5 (0, 0)) := hp 16 (by decide)
    clear hp
    simp only [fill, Act.put, List.append_eq, List.cons_append, List.nil_append, List.take_succ_cons, List.take_zero, List.setIfInBounds_toArray, List.set_cons_succ, List.set_cons_zero, Nat.reduceAdd, Nat.zero_add, q0, q4] at ha1
    subst ha1
    simp only [List.append_eq, List.cons_append, List.nil_append, List.drop_succ_cons, List.drop_zero]
    clear q0 q4
    obtain ⟨gg, hv, hgg⟩ := q16
    rw [hv]
    clear hv HS
    have HS := Lib.hid hG
    have HGG := Lib.hid hgg
    have HX := Lib.hid hx
    clear hG hgg hx
    generalize vs 16 = z16 at *
    go_wp2_with ((with_reducible refine gate_builtin (b := .append) (xs := #[.tmp 34, .tmp 46]) rfl ?_); at_builtin; refine ap_append (w0 := W) b rfl (.tmp 34) (.tmp 46) rfl u (bs ++ (l.take i).flatMap w32) [y % 256, y / 256 % 256, y / 65536 % 256, y / 16777216 % 256] gg 4 rfl rfl HS.out.2.r (C_mk (xs := [y % 256, y / 256 % 256, y / 65536 % 256, y / 16777216 % 256]) HGG.out (by simp)) (by decide) (Below.refl _ _) (Nat.le_trans hbw HS.out.1.bel.size) (by rw [List.length_append, flat_len, List.length_take]; omega) ?_; intro v9 w3 ho3 hb3 hg3; obtain ⟨A9, n9, c9, rfl⟩ := R_slc ho3; have HS3 := Lib.hid (HS.out.2.setb hg3 ho3); have hk3 := (hg3.block _ (blk_lt HS.out.2.blk) (AP_ne HS.out.2.r HS.out.2.blk (by decide))).trans HS.out.2.blk; have HW3 := Lib.hid ((HS.out.1.trans (Wr.grown hb3 hg3 (AP_typed HS.out.2.r))).trans (Wr.set hk3 rfl hb 0 (.slice A9 n9 c9))); have c3 := (blk_cell hk3 0).trans (show _ = some u from rfl); have f3 := blk_frozen hk3 0; clear ho3 hb3 hg3 hk3)
    refine HK6.out _ _ ?_; clear HK6
    go_wp2
    exact ⟨loop_frame (by kernel_rfl), ⟨i + 1, by show Value.int .i64 _ = _; simp, by omega, _, HW3.out, by rw [flat_snoc w32 HX.out, HW.out, ← List.append_assoc]; exact HS3.out⟩, Msr.lt (by omega)⟩
end Go.Proofs.Ytieoklpgnmbpjaa.Gr
