/- The law TensorSizes, walked; for every shape. No condition beyond those in its statements. -/
import Derived.Test.YtfcimgdogkpbcaaT6
import Derived.Deep.RegionHeld3
import Derived.Tactics2
namespace Go.Proofs.Ytfcimgdogkpbcaa.T1
open Go.RowKit
set_option linter.unusedVariables false
set_option maxRecDepth 100000

/-- The box of a shape, in a world behind the one that a call began in. -/
structure Hs (a b c : Int) (w W : World) : Prop where
  b0 : W.heap[w.heap.size]? = some (box3 a b c)
  bel : Below w.heap.size w W
theorem Hs.step {a b c : Int} {w W W' : World} (J : Hs a b c w W) (hb : Below W.heap.size W W') : Hs a b c w W' := ⟨blk_below J.b0 hb, below_step J.bel hb⟩
theorem Hs.start (a b c : Int) (w : World) : Hs a b c w (w.alloc (box3 a b c)) := ⟨blk_new w _, below_alloc (Below.refl _ _) _⟩
theorem Hs.drew {a b c : Int} {w W : World} (J : Hs a b c w W) : Hs a b c w W.drew := ⟨J.b0, J.bel.drew⟩
theorem Hs.c0 {a b c : Int} {w W : World} (J : Hs a b c w W) : W.cell? ⟨w.heap.size, 0, none⟩ = some (.int .i64 a) := (blk_cell J.b0 0).trans rfl
theorem Hs.c1 {a b c : Int} {w W : World} (J : Hs a b c w W) : W.cell? ⟨w.heap.size, 1, none⟩ = some (.int .i64 b) := (blk_cell J.b0 1).trans rfl
theorem Hs.c2 {a b c : Int} {w W : World} (J : Hs a b c w W) : W.cell? ⟨w.heap.size, 2, none⟩ = some (.int .i64 c) := (blk_cell J.b0 2).trans rfl

set_option maxHeartbeats 4000000 in
theorem sizes_calls (a b c : Int) (w : World) : Calls Try.prog 3 #[.agg #[.int .i64 a, .int .i64 b, .int .i64 c]] w fun e w' => e = .returned (.bool true) ∧ Below w.heap.size w w' := by
  have J := Hs.start a b c w
  go_enter Try.func3, Try.ntmps3
  go_wp2_with (fail)
  go_region_held3 (fun W => W.cell? ⟨w.heap.size, 0, none⟩ = some (.int .i64 a) ∧ W.cell? ⟨w.heap.size, 1, none⟩ = some (.int .i64 b) ∧ W.cell? ⟨w.heap.size, 2, none⟩ = some (.int .i64 c) ∧ Hs a b c w W) (first | exact ⟨J.c0, J.c1, J.c2, J⟩ | exact ⟨J.drew.c0, J.drew.c1, J.drew.c2, J.drew⟩ | exact J | exact J.drew | go_keep)
    (first
      | (go_at_call 11; refine (good_is a b c _).mono ?_; rintro e w' ⟨rfl, hb⟩; have J2 : Hs a b c w w' := (by first | exact Hs.step J hb | exact Hs.step (Hs.drew J) hb); clear J hb; have J := J2; clear J2)
      | (go_at_call 12; refine (rgood_is a b c _).mono ?_; rintro e w' ⟨rfl, hb⟩; have J2 : Hs a b c w w' := (by first | exact Hs.step J hb | exact Hs.step (Hs.drew J) hb); clear J hb; have J := J2; clear J2)
      | (go_at_call 13; refine (sz_is a b c _).mono ?_; rintro e w' ⟨rfl, hb⟩; have J2 : Hs a b c w w' := (by first | exact Hs.step J hb | exact Hs.step (Hs.drew J) hb); clear J hb; have J := J2; clear J2)
      | (go_at_call 14; refine (rsize_is a b c _).mono ?_; rintro e w' ⟨rfl, hb⟩; have J2 : Hs a b c w w' := (by first | exact Hs.step J hb | exact Hs.step (Hs.drew J) hb); clear J hb; have J := J2; clear J2)
      | (go_at_call 15; refine (lives_is _).mono ?_; rintro e w' ⟨rfl, hb⟩; have J2 : Hs a b c w w' := (by first | exact Hs.step J hb | exact Hs.step (Hs.drew J) hb); clear J hb; have J := J2; clear J2))
  go_wp2
  go_ret
  exact ⟨rfl, J.bel⟩
end Go.Proofs.Ytfcimgdogkpbcaa.T1
