/- The reader of networks: its three least functions. -/
import Derived.Test.YtieoklpgnmbpjaaOps
import Derived.Test.YtieoklpgnmbpjaaMem
import Derived.Test.YtieoklpgnmbpjaaWWords
import Derived.Test.YtieoklpgnmbpjaaWLast
import Derived.Test.YtieoklpgnmbpjaaProg
import Derived.WalkKit
import Derived.Carry
import Derived.Laws.Cover3
import Derived.Lib.EndianBits
namespace Go.Proofs.Ytieoklpgnmbpjaa.Gr
open Go.RowKit Dr
open Go.Proofs.YtieoklpgnmbpjaaW.PrintWords (Kd Kd.C Kd.R Kd.C_below Kd.C_get Kd.R_below Kd.R_reads Kd.R_reads' Kd.R_types Kd.R_step Kd.R_alloc Kd.R_drew Kd.R_lower add_field)
set_option linter.unusedVariables false
set_option linter.unusedSimpArgs false
set_option maxRecDepth 100000
theorem grown_refl (w : World) (r : Option Nat) : w.grownBy w r := ⟨rfl, rfl, rfl, Nat.le_refl _, fun _ _ _ => rfl⟩
theorem grown_trans {a b c : World} {r : Option Nat} (h : a.grownBy b r) (k : b.grownBy c r) : a.grownBy c r :=
  ⟨k.os.trans h.os, k.tape.trans h.tape, k.output.trans h.output, Nat.le_trans h.size k.size, fun i hi hr => (k.block i (Nat.lt_of_lt_of_le hi h.size) hr).trans (h.block i hi hr)⟩
theorem grown_set (w : World) (g j : Nat) (v : Value) : w.grownBy (w.setCell ⟨g, j, none⟩ v) (some g) :=
  ⟨rfl, rfl, rfl, by simp [World.setCell], fun k _ hr => Below.heap_setCell w ⟨g, j, none⟩ v k (fun e => hr (by rw [e]))⟩
theorem grown_below {w w' : World} (h : Below w.heap.size w w') (r : Option Nat) : w.grownBy w' r := ⟨h.os, h.tape, h.output, h.size, fun k hk _ => h.block k hk⟩
theorem C_same {α : Type} {d : Kd α} {w w' : World} {A : Option Addr} {n : Nat} {xs : List α} (h : d.C w A n xs) (hd : ∀ x cs, d.K w x cs → d.K w' x cs) (hb : ∀ a, A = some a → w'.heap[a.block]? = w.heap[a.block]?) : d.C w' A n xs := by
  refine ⟨h.1, h.2.1, fun hp => ?_⟩
  obtain ⟨ad, e, hc⟩ := h.2.2 hp
  refine ⟨ad, e, fun j p hj => ?_⟩
  obtain ⟨c, h1, h2, h3⟩ := hc j p hj
  refine ⟨c, h1, hd _ _ h2, fun i u hu => ?_⟩
  rw [← h3 i u hu]
  exact World.cell?_of_block (a := ad.add (j * d.sz + i)) (by rw [show (ad.add (j * d.sz + i)).block = ad.block from by unfold Addr.add; split <;> rfl]; exact hb ad e)
theorem C_int {k : IntKind} {w w' : World} {A : Option Addr} {n : Nat} {xs : List Int} (h : Kd.C (Kd.int k) w A n xs) (hb : ∀ a, A = some a → w'.heap[a.block]? = w.heap[a.block]?) : Kd.C (Kd.int k) w' A n xs := C_same h (fun _ _ h => h) hb
theorem C_drop {α : Type} {d : Kd α} {w : World} {ad : Addr} {n : Nat} {xs : List α} (h : d.C w (some ad) n xs) (k : Nat) : d.C w (some (ad.add (k * d.sz))) (n - k) (xs.drop k) := by
  refine ⟨by rw [List.length_drop, h.1], by have := h.2.1; omega, fun hp => ⟨_, rfl, fun j p hj => ?_⟩⟩
  obtain ⟨ad', e, hc⟩ := h.2.2 (by omega)
  obtain rfl := Option.some.inj e
  rw [List.getElem?_drop] at hj
  obtain ⟨c, h1, h2, h3⟩ := hc _ p hj
  refine ⟨c, h1, h2, fun i u hu => ?_⟩
  rw [Addr.add_add, ← h3 i u hu, Nat.add_mul, Nat.add_assoc]
theorem C_take {α : Type} {d : Kd α} {w : World} {ad : Addr} {n : Nat} {xs : List α} (h : d.C w (some ad) n xs) {k : Nat} (hk : k ≤ n) : d.C w (some ad) k (xs.take k) := by
  refine ⟨by rw [List.length_take, h.1]; omega, by have := h.2.1; omega, fun hp => ?_⟩
  obtain ⟨ad', e, hc⟩ := h.2.2 (by omega)
  refine ⟨ad', e, fun j p hj => hc j p ?_⟩
  rw [List.getElem?_take] at hj
  by_cases hjk : j < k
  · rwa [if_pos hjk] at hj
  · rw [if_neg hjk] at hj; cases hj
/-- The reader's block: what is left of the bytes, which lie below b, and what is wrong. -/
def RD (W : World) (b g : Nat) (s : List Int × Int) : Prop :=
  ∃ ad c, W.heap[g]? = some (.cells #[.slice (some ad) s.1.length c, .int .i64 s.2] 64 (0, 0)) ∧ s.1.length ≤ c ∧ ad.block < b ∧ Kd.C (Kd.int .u8) W (some ad) s.1.length s.1
theorem RD_step {W W' : World} {b g : Nat} {s : List Int × Int} (h : RD W b g s) (hb : Below b W W') (hg : W'.heap[g]? = W.heap[g]?) : RD W' b g s := by
  obtain ⟨ad, c, h1, h2, h3, h4⟩ := h
  exact ⟨ad, c, hg.trans h1, h2, h3, C_int h4 (fun a ha => by cases ha; exact hb.block _ h3)⟩
theorem grown_low {W W' : World} {b g : Nat} (h : W.grownBy W' (some g)) (hb : b ≤ g) (hs : b ≤ W.heap.size) : Below b W W' := ⟨h.os, h.tape, h.output, h.size, fun k hk => h.block k (by omega) (fun e => by injection e with e; omega)⟩
def fails (x : Int) (e : Int) : Int := if e = 0 then x else e
theorem RD_set {W : World} {b g : Nat} {s : List Int × Int} (h : RD W b g s) (hb : b ≤ g) (x : Int) : RD (W.setCell ⟨g, 1, none⟩ (.int .i64 x)) b g (s.1, x) := by
  obtain ⟨ad, c, h1, h2, h3, h4⟩ := h
  exact ⟨ad, c, blk_put h1 1 _ rfl, h2, h3, C_int h4 (fun a ha => by cases ha; exact Below.heap_setCell _ _ _ _ (by show ad.block ≠ g; omega))⟩
set_option maxHeartbeats 4000000 in
theorem fails_is (b g : Nat) (s : List Int × Int) (x : Int) (w : World) (hb : b ≤ g) (h : RD w b g s) :
    Calls Try.prog 24 #[.pointer (some ⟨g, 0, none⟩), .int .i64 x] w fun e w' => e = .returned (.tuple #[]) ∧ RD w' b g (s.1, fails x s.2) ∧ w.grownBy w' (some g) := by
  have H := Lib.hid h
  obtain ⟨ad, c, h, -⟩ := h
  have c1 : w.cell? ⟨g, 1, none⟩ = some (.int .i64 s.2) := (blk_cell h 1).trans rfl
  have f1 := blk_frozen h 1
  clear h
  by_cases hs : s.2 = 0
  · rw [hs] at c1
    go_enter Try.func24, Try.ntmps24
    go_wp2
    go_end0
    unfold fails
    rw [if_pos hs]
    exact ⟨rfl, RD_set H.out hb x, grown_set _ _ _ _⟩
  · have hb : (s.2 == 0) = false := by simpa using hs
    go_enter Try.func24, Try.ntmps24
    go_wp2
    go_end0
    unfold fails
    rw [if_neg hs]
    exact ⟨rfl, H.out, grown_refl _ _⟩
theorem sz5 (w : World) : (sizeOf (Try.prog.elem 28)).run Try.prog w = .ok 1 w := by kernel_rfl
theorem sl_h {ad : Addr} {n c h : Nat} (hn : h ≤ c) (w : World) : (Instr.sliceAt 28 (.slice (some ad) n c) none (some (.int .i64 (h : Int))) none).run Try.prog w = .ok (.slice (some ad) h c) w := by
  rw [run_sliceAt_slice w 28 _ _ _ _ (by kernel_rfl), run_slice_h w 28 _ _ _ (by kernel_rfl) .i64 (h : Int) (by omega) (by omega), sz5]
  simp [go_sem]
theorem sl_l {ad : Addr} {n c h : Nat} (hn : h ≤ n) (hc : n ≤ c) (w : World) : (Instr.sliceAt 28 (.slice (some ad) n c) (some (.int .i64 (h : Int))) none none).run Try.prog w = .ok (.slice (some (if c = h then ad else ad.add h)) (n - h) (c - h)) w := by
  rw [run_sliceAt_slice w 28 _ _ _ _ (by kernel_rfl), run_slice_l w 28 _ _ _ (by kernel_rfl) .i64 (h : Int) (by omega) (by omega), sz5]
  by_cases e : c = h
  · simp [go_sem, e]
  · simp [go_sem, e]
/-- What is taken, and what is left. -/
def take (n : Nat) (s : List Int × Int) : Option (List Int) × (List Int × Int) := if s.2 ≠ 0 ∨ s.1.length < n then (none, (s.1, fails 3 s.2)) else (some (s.1.take n), (s.1.drop n, s.2))
theorem C_tail {W : World} {ad : Addr} {n c h : Nat} {xs : List Int} (hn : h ≤ n) (hc : n ≤ c) (hC : Kd.C (Kd.int .u8) W (some ad) n xs) : Kd.C (Kd.int .u8) W (some (if c = h then ad else ad.add h)) (n - h) (xs.drop h) := by
  by_cases e : c = h
  · rw [if_pos e]
    obtain rfl : n = h := by omega
    have := hC.1
    refine ⟨by rw [List.length_drop]; omega, by omega, fun hp => by omega⟩
  · rw [if_neg e]
    have := C_drop hC h
    rwa [show h * (Kd.int IntKind.u8).sz = h from Nat.mul_one h] at this
set_option maxHeartbeats 8000000 in
theorem take_is (b g : Nat) (s : List Int × Int) (n : Nat) (w : World) (hb : b ≤ g) (h : RD w b g s) :
    Calls Try.prog 25 #[.pointer (some ⟨g, 0, none⟩), .int .i64 (n : Int)] w fun e w' =>
      (match (take n s).1 with
        | none => e = .returned (.slice none 0 0)
        | some xs => ∃ ad c, e = .returned (.slice (some ad) xs.length c) ∧ xs.length ≤ c ∧ ad.block < b ∧ Kd.C (Kd.int .u8) w' (some ad) xs.length xs) ∧ RD w' b g (take n s).2 ∧ w.grownBy w' (some g) := by
  have H := Lib.hid h
  obtain ⟨ad, c, h, hc, hab, hC⟩ := h
  have c0 : w.cell? ⟨g, 0, none⟩ = some (.slice (some ad) s.1.length c) := (blk_cell h 0).trans rfl
  have c1 : w.cell? ⟨g, 1, none⟩ = some (.int .i64 s.2) := (blk_cell h 1).trans rfl
  have f0 := blk_frozen h 0
  have HH := Lib.hid h
  have HC := Lib.hid hC
  clear h hC
  by_cases hs : s.2 ≠ 0 ∨ s.1.length < n
  · have et : take n s = (none, (s.1, fails 3 s.2)) := by unfold take; rw [if_pos hs]
    rw [et]
    by_cases h2 : s.2 = 0
    · have hd : decide ((s.1.length : Int) < (n : Int)) = true := by simp; omega
      rw [h2] at c1
      go_enter Try.func25, Try.ntmps25
      go_wp2_with (go_at_call 24; refine (fails_is b g s 3 _ hb H.out).mono ?_; rintro e w' ⟨rfl, hR, hg⟩)
      go_wp2
      go_ret
      exact ⟨rfl, hR, hg⟩
    · have hd : (s.2 != 0) = true := by simpa using h2
      go_enter Try.func25, Try.ntmps25
      go_wp2_with (go_at_call 24; refine (fails_is b g s 3 _ hb H.out).mono ?_; rintro e w' ⟨rfl, hR, hg⟩)
      go_wp2
      go_ret
      exact ⟨rfl, hR, hg⟩
  · have hz : s.2 = 0 := Decidable.byContradiction fun h => hs (.inl h)
    have hl : n ≤ s.1.length := Nat.le_of_not_lt fun h => hs (.inr h)
    have et : take n s = (some (s.1.take n), (s.1.drop n, s.2)) := by unfold take; rw [if_neg hs]
    have hd : decide ((s.1.length : Int) < (n : Int)) = false := by simp; omega
    have hs1 := fun w => sl_h (ad := ad) (n := s.1.length) (c := c) (h := n) (by omega) w
    have hs2 := fun w => sl_l (ad := ad) (n := s.1.length) (c := c) (h := n) hl hc w
    have hbl : (if c = n then ad else ad.add n).block = ad.block := by split; rfl; (unfold Addr.add; split <;> rfl)
    have htl := C_tail hl hc HC.out
    obtain ⟨ad', had⟩ : ∃ ad', (if c = n then ad else ad.add n) = ad' := ⟨_, rfl⟩
    rw [had] at hs2 hbl htl
    clear had
    have HT := Lib.hid htl
    clear htl
    rw [et]
    rw [hz] at c1
    go_enter Try.func25, Try.ntmps25
    go_wp2
    go_ret
    have hlt : (s.1.take n).length = n := by rw [List.length_take]; omega
    have hld : (s.1.drop n).length = s.1.length - n := List.length_drop ..
    refine ⟨⟨ad, c, (show Ending.returned (.slice (some ad) n c) = _ by rw [hlt]), by omega, hab, ?_⟩, ⟨ad', c - n, blk_put HH.out 0 _ (by rw [hld, hz]; rfl), by rw [hld]; omega, by rw [hbl]; exact hab, ?_⟩, grown_set _ _ _ _⟩
    · rw [hlt]
      exact C_int (C_take HC.out hl) (fun a ha => by cases ha; exact Below.heap_setCell _ _ _ _ (by show ad.block ≠ g; omega))
    · rw [hld]
      exact C_int HT.out (fun a ha => by cases ha; exact Below.heap_setCell _ _ _ _ (by rw [hbl]; show ad.block ≠ g; omega))
def okB (l : List Int) : Prop := ∀ x ∈ l, 0 ≤ x ∧ x < 256
/-- Thirty-two bits as a number with its sign. -/
def sx (n : Int) : Int := if n < 2147483648 then n else n - 4294967296
def le4 : List Int → Int
  | a :: b :: c :: d :: _ => sx (a + 256 * b + 65536 * c + 16777216 * d)
  | _ => 0
def num (s : List Int × Int) : Int × (List Int × Int) := if s.2 ≠ 0 ∨ s.1.length < 4 then (0, (s.1, fails 3 s.2)) else (le4 s.1, (s.1.drop 4, s.2))
theorem C_cell {k : IntKind} {w : World} {ad : Addr} {n : Nat} {xs : List Int} (h : Kd.C (Kd.int k) w (some ad) n xs) {i : Nat} {x : Int} (hx : xs[i]? = some x) : w.cell? (ad.add i) = some (.int k x) := by
  have hi : i < xs.length := (List.getElem?_eq_some_iff.1 hx).1
  obtain ⟨ad', e, hc⟩ := h.2.2 (by have := h.1; omega)
  obtain rfl := Option.some.inj e
  obtain ⟨c, h1, h2, h3⟩ := hc i x hx
  obtain rfl : c = [.int k x] := h2
  have := h3 0 _ rfl
  rwa [show i * (Kd.int k).sz + 0 = i from Nat.mul_one i] at this
theorem four_of {l : List Int} (h : 4 ≤ l.length) : ∃ a b c d r, l = a :: b :: c :: d :: r := by
  match l, h with
  | [], h => exact absurd h (by decide)
  | [_], h => exact absurd h (by simp)
  | [_, _], h => exact absurd h (by simp)
  | [_, _, _], h => exact absurd h (by simp)
  | a :: b :: c :: d :: r, _ => exact ⟨a, b, c, d, r, rfl⟩
theorem eq_nil (W : World) : (binOp .eql 28 (.slice none 0 0) (.slice none 0 0)).run Try.prog W = .ok (.bool true) W := by kernel_rfl
theorem eq_some (ad : Addr) (n c : Nat) (W : World) : (binOp .eql 28 (.slice (some ad) n c) (.slice none 0 0)).run Try.prog W = .ok (.bool false) W := by kernel_rfl
theorem cv_u32 {k : IntKind} {t : TypeId} {x : Int} (h : ∀ W, (convert t 60 (.int k x)).run Try.prog W = .ok (.int .u32 (IntKind.u32.wrap x)) W) (h0 : 0 ≤ x) (h1 : x < 4294967296) (W : World) : (convert t 60 (.int k x)).run Try.prog W = .ok (.int .u32 x) W := by
  rw [h, IntWalk.u32_in _ (by omega)]
theorem sh_u32 {x y : Int} {p q : Operand} {n : Nat} (h : IntKind.u32.wrap (x * 2 ^ n) = y) (hn : n < 33) (W : World) : (do eqGuard .shl 60 p q (.int .u32 x) (.int .u64 (n : Int)); binOp .shl 60 (.int .u32 x) (.int .u64 (n : Int)) : Sem Value).run Try.prog W = .ok (.int .u32 y) W := by
  subst h
  simp [eqGuard, binOp, go_sem, Nat.min_eq_left (show n ≤ 32 by omega)]
theorem or_u32 {x y r : Int} {p q : Operand} (h : bits .or .u32 x y = r) (W : World) : (do eqGuard .or 60 p q (.int .u32 x) (.int .u32 y); binOp .or 60 (.int .u32 x) (.int .u32 y) : Sem Value).run Try.prog W = .ok (.int .u32 r) W := by
  subst h
  simp [eqGuard, binOp, go_sem]
end Go.Proofs.Ytieoklpgnmbpjaa.Gr
