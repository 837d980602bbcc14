/- d3D: a plain function with the same answers as the program's, and the proof of it, as a program has written them. -/
import Derived.Test.YtihecimbhhlhaaaRsG1
import Derived.Test.YtihecimbhhlhaaaRsPintleref03Of
import Derived.Test.YtihecimbhhlhaaaRsG4
import Derived.Test.YtihecimbhhlhaaaRsPintleref03Encode
import Derived.Test.YtihecimbhhlhaaaRsMc
namespace Go.Proofs.Ytihecimbhhlhaaa.PRs
open Go.RowKit Go.Proofs.YtihecimbhhlhaaaW.PrintWords Go.Proofs.YtihecimbhhlhaaaW.PrintLast Go.Proofs.YtihecimbhhlhaaaW.PrintMore
set_option linter.unusedVariables false
set_option linter.unusedSimpArgs false
/-! ### d3D: function 15 -/
mutual
def d3D.l0 : Nat → Int → Int → Option (Int × Int × Int × Int × Int × Bool)
 | 0, _, _ => none
 | k + 1, x0, x4 => if x4 ≤ 48 then ((d3O.f k x4).bind fun bt436 => (if bt436.2.2.2.2.2.2.2 = true then (d3D.j1 k x0 x4 ((Int.tmod x0 128) != bt436.1) bt436.1 bt436.2.1 bt436.2.2.1 bt436.2.2.2.1 bt436.2.2.2.2.1 bt436.2.2.2.2.2.1 bt436.2.2.2.2.2.2.1) else (d3D.j1 k x0 x4 false bt436.1 bt436.2.1 bt436.2.2.1 bt436.2.2.2.1 bt436.2.2.2.2.1 bt436.2.2.2.2.2.1 bt436.2.2.2.2.2.2.1))) else (some (0, 0, 0, 0, 0, false))
def d3D.j1 : Nat → Int → Int → Bool → Int → Int → Int → Int → Bool → Bool → Bool → Option (Int × Int × Int × Int × Int × Bool)
 | 0, _, _, _, _, _, _, _, _, _, _ => none
 | k + 1, x0, x4, x26, x445000, x445001, x445002, x445003, x445004, x445005, x445006 => if x26 = true then (d3D.l0 k x0 (wrap64 (x4 + 1))) else (if x445004 = true then (d3D.j2 k x0 x4 x445000 x445001 x445002 x445003 x445004 x445005 x445006 x4 ((Int.tdiv x0 128) % 32) 0 0 0) else (d3D.j2 k x0 x4 x445000 x445001 x445002 x445003 x445004 x445005 x445006 x4 0 0 0 0))
def d3D.j2 : Nat → Int → Int → Int → Int → Int → Int → Bool → Bool → Bool → Int → Int → Int → Int → Int → Option (Int × Int × Int × Int × Int × Bool)
 | 0, _, _, _, _, _, _, _, _, _, _, _, _, _, _ => none
 | k + 1, x0, x4, x445000, x445001, x445002, x445003, x445004, x445005, x445006, x446000, x446001, x446002, x446003, x446004 => if x445005 = true then (d3D.j3 k x0 x4 x445000 x445001 x445002 x445003 x445004 x445005 x445006 x446000 x446001 ((Int.tdiv x0 32768) % 32) x446003 x446004) else (d3D.j3 k x0 x4 x445000 x445001 x445002 x445003 x445004 x445005 x445006 x446000 x446001 x446002 x446003 x446004)
def d3D.j3 : Nat → Int → Int → Int → Int → Int → Int → Bool → Bool → Bool → Int → Int → Int → Int → Int → Option (Int × Int × Int × Int × Int × Bool)
 | 0, _, _, _, _, _, _, _, _, _, _, _, _, _, _ => none
 | k + 1, x0, x4, x445000, x445001, x445002, x445003, x445004, x445005, x445006, x446000, x446001, x446002, x446003, x446004 => if x445006 = true then (d3D.j4 k x0 x4 x445000 x445001 x445002 x445003 x445004 x445005 x445006 x446000 x446001 x446002 ((Int.tdiv x0 1048576) % 32) x446004) else (d3D.j4 k x0 x4 x445000 x445001 x445002 x445003 x445004 x445005 x445006 x446000 x446001 x446002 x446003 x446004)
def d3D.j4 : Nat → Int → Int → Int → Int → Int → Int → Bool → Bool → Bool → Int → Int → Int → Int → Int → Option (Int × Int × Int × Int × Int × Bool)
 | 0, _, _, _, _, _, _, _, _, _, _, _, _, _, _ => none
 | k + 1, x0, x4, x445000, x445001, x445002, x445003, x445004, x445005, x445006, x446000, x446001, x446002, x446003, x446004 => if x445003 > 0 then (d3D.j5 k x0 x4 (decide (x445003 < 6)) x445000 x445001 x445002 x445003 x445004 x445005 x445006 x446000 x446001 x446002 x446003 x446004) else (d3D.j5 k x0 x4 false x445000 x445001 x445002 x445003 x445004 x445005 x445006 x446000 x446001 x446002 x446003 x446004)
def d3D.j5 : Nat → Int → Int → Bool → Int → Int → Int → Int → Bool → Bool → Bool → Int → Int → Int → Int → Int → Option (Int × Int × Int × Int × Int × Bool)
 | 0, _, _, _, _, _, _, _, _, _, _, _, _, _, _, _ => none
 | k + 1, x0, x4, x57, x445000, x445001, x445002, x445003, x445004, x445005, x445006, x446000, x446001, x446002, x446003, x446004 => if x57 = true then ((d2G.f k x445003 x0).bind fun t446 => (d3D.j6 k x0 x4 x445000 x445001 x445002 x445003 x445004 x445005 x445006 x446000 x446001 x446002 x446003 t446)) else (d3D.j6 k x0 x4 x445000 x445001 x445002 x445003 x445004 x445005 x445006 x446000 x446001 x446002 x446003 x446004)
def d3D.j6 : Nat → Int → Int → Int → Int → Int → Int → Bool → Bool → Bool → Int → Int → Int → Int → Int → Option (Int × Int × Int × Int × Int × Bool)
 | 0, _, _, _, _, _, _, _, _, _, _, _, _, _, _ => none
 | k + 1, x0, x4, x445000, x445001, x445002, x445003, x445004, x445005, x445006, x446000, x446001, x446002, x446003, x446004 => if x445003 = 6 then ((d3E.f k x446000 x446001 x446002 x446003 ((Int.tdiv x0 1048576) % 32)).bind fun bt447 => (if bt447.2 = true then (if bt447.1 = x0 then (some (x446000, x446001, x446002, x446003, (Int.tdiv x0 1048576) % 32, true)) else (d3D.l0 k x0 (wrap64 (x4 + 1)))) else (d3D.l0 k x0 (wrap64 (x4 + 1))))) else ((d3E.f k x446000 x446001 x446002 x446003 x446004).bind fun bt449 => (if bt449.2 = true then (if bt449.1 = x0 then (some (x446000, x446001, x446002, x446003, x446004, true)) else (d3D.l0 k x0 (wrap64 (x4 + 1)))) else (d3D.l0 k x0 (wrap64 (x4 + 1)))))
end
def d3D.f (k : Nat) (a0 : Int) : Option (Int × Int × Int × Int × Int × Bool) := d3D.l0 k a0 1
theorem d3D.mono_l : ∀ k, (∀ y0 y1, LeO (d3D.l0 k y0 y1) (d3D.l0 (k + 1) y0 y1)) ∧ (∀ y0 y1 y2 y3 y4 y5 y6 y7 y8 y9, LeO (d3D.j1 k y0 y1 y2 y3 y4 y5 y6 y7 y8 y9) (d3D.j1 (k + 1) y0 y1 y2 y3 y4 y5 y6 y7 y8 y9)) ∧ (∀ y0 y1 y2 y3 y4 y5 y6 y7 y8 y9 y10 y11 y12 y13, LeO (d3D.j2 k y0 y1 y2 y3 y4 y5 y6 y7 y8 y9 y10 y11 y12 y13) (d3D.j2 (k + 1) y0 y1 y2 y3 y4 y5 y6 y7 y8 y9 y10 y11 y12 y13)) ∧ (∀ y0 y1 y2 y3 y4 y5 y6 y7 y8 y9 y10 y11 y12 y13, LeO (d3D.j3 k y0 y1 y2 y3 y4 y5 y6 y7 y8 y9 y10 y11 y12 y13) (d3D.j3 (k + 1) y0 y1 y2 y3 y4 y5 y6 y7 y8 y9 y10 y11 y12 y13)) ∧ (∀ y0 y1 y2 y3 y4 y5 y6 y7 y8 y9 y10 y11 y12 y13, LeO (d3D.j4 k y0 y1 y2 y3 y4 y5 y6 y7 y8 y9 y10 y11 y12 y13) (d3D.j4 (k + 1) y0 y1 y2 y3 y4 y5 y6 y7 y8 y9 y10 y11 y12 y13)) ∧ (∀ y0 y1 y2 y3 y4 y5 y6 y7 y8 y9 y10 y11 y12 y13 y14, LeO (d3D.j5 k y0 y1 y2 y3 y4 y5 y6 y7 y8 y9 y10 y11 y12 y13 y14) (d3D.j5 (k + 1) y0 y1 y2 y3 y4 y5 y6 y7 y8 y9 y10 y11 y12 y13 y14)) ∧ (∀ y0 y1 y2 y3 y4 y5 y6 y7 y8 y9 y10 y11 y12 y13, LeO (d3D.j6 k y0 y1 y2 y3 y4 y5 y6 y7 y8 y9 y10 y11 y12 y13) (d3D.j6 (k + 1) y0 y1 y2 y3 y4 y5 y6 y7 y8 y9 y10 y11 y12 y13))
 | 0 => ⟨fun _ _ r h => by simp [d3D.l0] at h, fun _ _ _ _ _ _ _ _ _ _ r h => by simp [d3D.j1] at h, fun _ _ _ _ _ _ _ _ _ _ _ _ _ _ r h => by simp [d3D.j2] at h, fun _ _ _ _ _ _ _ _ _ _ _ _ _ _ r h => by simp [d3D.j3] at h, fun _ _ _ _ _ _ _ _ _ _ _ _ _ _ r h => by simp [d3D.j4] at h, fun _ _ _ _ _ _ _ _ _ _ _ _ _ _ _ r h => by simp [d3D.j5] at h, fun _ _ _ _ _ _ _ _ _ _ _ _ _ _ r h => by simp [d3D.j6] at h⟩
 | k + 1 => by
  obtain ⟨ih0, ih1, ih2, ih3, ih4, ih5, ih6⟩ := d3D.mono_l k
  refine ⟨?_, ?_, ?_, ?_, ?_, ?_, ?_⟩
  · intro y0 y1
    unfold d3D.l0
    repeat' first
    | (with_reducible exact ih0 _ _)
    | (with_reducible exact ih1 _ _ _ _ _ _ _ _ _ _)
    | (with_reducible exact ih2 _ _ _ _ _ _ _ _ _ _ _ _ _ _)
    | (with_reducible exact ih3 _ _ _ _ _ _ _ _ _ _ _ _ _ _)
    | (with_reducible exact ih4 _ _ _ _ _ _ _ _ _ _ _ _ _ _)
    | (with_reducible exact ih5 _ _ _ _ _ _ _ _ _ _ _ _ _ _ _)
    | (with_reducible exact ih6 _ _ _ _ _ _ _ _ _ _ _ _ _ _)
    | (with_reducible exact d2G.mono _ _ _)
    | (with_reducible exact d3E.mono _ _ _ _ _ _)
    | (with_reducible exact d3O.mono _ _)
    | (with_reducible exact LeO.refl _)
    | (with_reducible exact LeO.none _)
    | (with_reducible refine LeO.ite ?_ ?_)
    | (with_reducible refine LeO.bind ?_ (fun _ => ?_))
    | exact ih0 _ _
    | exact ih1 _ _ _ _ _ _ _ _ _ _
    | exact ih2 _ _ _ _ _ _ _ _ _ _ _ _ _ _
    | exact ih3 _ _ _ _ _ _ _ _ _ _ _ _ _ _
    | exact ih4 _ _ _ _ _ _ _ _ _ _ _ _ _ _
    | exact ih5 _ _ _ _ _ _ _ _ _ _ _ _ _ _ _
    | exact ih6 _ _ _ _ _ _ _ _ _ _ _ _ _ _
    | exact d2G.mono _ _ _
    | exact d3E.mono _ _ _ _ _ _
    | exact d3O.mono _ _
    | exact LeO.none _
    | refine LeO.ite ?_ ?_
    | refine LeO.bind ?_ (fun _ => ?_)
  · intro y0 y1 y2 y3 y4 y5 y6 y7 y8 y9
    unfold d3D.j1
    repeat' first
    | (with_reducible exact ih0 _ _)
    | (with_reducible exact ih1 _ _ _ _ _ _ _ _ _ _)
    | (with_reducible exact ih2 _ _ _ _ _ _ _ _ _ _ _ _ _ _)
    | (with_reducible exact ih3 _ _ _ _ _ _ _ _ _ _ _ _ _ _)
    | (with_reducible exact ih4 _ _ _ _ _ _ _ _ _ _ _ _ _ _)
    | (with_reducible exact ih5 _ _ _ _ _ _ _ _ _ _ _ _ _ _ _)
    | (with_reducible exact ih6 _ _ _ _ _ _ _ _ _ _ _ _ _ _)
    | (with_reducible exact d2G.mono _ _ _)
    | (with_reducible exact d3E.mono _ _ _ _ _ _)
    | (with_reducible exact d3O.mono _ _)
    | (with_reducible exact LeO.refl _)
    | (with_reducible exact LeO.none _)
    | (with_reducible refine LeO.ite ?_ ?_)
    | (with_reducible refine LeO.bind ?_ (fun _ => ?_))
    | exact ih0 _ _
    | exact ih1 _ _ _ _ _ _ _ _ _ _
    | exact ih2 _ _ _ _ _ _ _ _ _ _ _ _ _ _
    | exact ih3 _ _ _ _ _ _ _ _ _ _ _ _ _ _
    | exact ih4 _ _ _ _ _ _ _ _ _ _ _ _ _ _
    | exact ih5 _ _ _ _ _ _ _ _ _ _ _ _ _ _ _
    | exact ih6 _ _ _ _ _ _ _ _ _ _ _ _ _ _
    | exact d2G.mono _ _ _
    | exact d3E.mono _ _ _ _ _ _
    | exact d3O.mono _ _
    | exact LeO.none _
    | refine LeO.ite ?_ ?_
    | refine LeO.bind ?_ (fun _ => ?_)
  · intro y0 y1 y2 y3 y4 y5 y6 y7 y8 y9 y10 y11 y12 y13
    unfold d3D.j2
    repeat' first
    | (with_reducible exact ih0 _ _)
    | (with_reducible exact ih1 _ _ _ _ _ _ _ _ _ _)
    | (with_reducible exact ih2 _ _ _ _ _ _ _ _ _ _ _ _ _ _)
    | (with_reducible exact ih3 _ _ _ _ _ _ _ _ _ _ _ _ _ _)
    | (with_reducible exact ih4 _ _ _ _ _ _ _ _ _ _ _ _ _ _)
    | (with_reducible exact ih5 _ _ _ _ _ _ _ _ _ _ _ _ _ _ _)
    | (with_reducible exact ih6 _ _ _ _ _ _ _ _ _ _ _ _ _ _)
    | (with_reducible exact d2G.mono _ _ _)
    | (with_reducible exact d3E.mono _ _ _ _ _ _)
    | (with_reducible exact d3O.mono _ _)
    | (with_reducible exact LeO.refl _)
    | (with_reducible exact LeO.none _)
    | (with_reducible refine LeO.ite ?_ ?_)
    | (with_reducible refine LeO.bind ?_ (fun _ => ?_))
    | exact ih0 _ _
    | exact ih1 _ _ _ _ _ _ _ _ _ _
    | exact ih2 _ _ _ _ _ _ _ _ _ _ _ _ _ _
    | exact ih3 _ _ _ _ _ _ _ _ _ _ _ _ _ _
    | exact ih4 _ _ _ _ _ _ _ _ _ _ _ _ _ _
    | exact ih5 _ _ _ _ _ _ _ _ _ _ _ _ _ _ _
    | exact ih6 _ _ _ _ _ _ _ _ _ _ _ _ _ _
    | exact d2G.mono _ _ _
    | exact d3E.mono _ _ _ _ _ _
    | exact d3O.mono _ _
    | exact LeO.none _
    | refine LeO.ite ?_ ?_
    | refine LeO.bind ?_ (fun _ => ?_)
  · intro y0 y1 y2 y3 y4 y5 y6 y7 y8 y9 y10 y11 y12 y13
    unfold d3D.j3
    repeat' first
    | (with_reducible exact ih0 _ _)
    | (with_reducible exact ih1 _ _ _ _ _ _ _ _ _ _)
    | (with_reducible exact ih2 _ _ _ _ _ _ _ _ _ _ _ _ _ _)
    | (with_reducible exact ih3 _ _ _ _ _ _ _ _ _ _ _ _ _ _)
    | (with_reducible exact ih4 _ _ _ _ _ _ _ _ _ _ _ _ _ _)
    | (with_reducible exact ih5 _ _ _ _ _ _ _ _ _ _ _ _ _ _ _)
    | (with_reducible exact ih6 _ _ _ _ _ _ _ _ _ _ _ _ _ _)
    | (with_reducible exact d2G.mono _ _ _)
    | (with_reducible exact d3E.mono _ _ _ _ _ _)
    | (with_reducible exact d3O.mono _ _)
    | (with_reducible exact LeO.refl _)
    | (with_reducible exact LeO.none _)
    | (with_reducible refine LeO.ite ?_ ?_)
    | (with_reducible refine LeO.bind ?_ (fun _ => ?_))
    | exact ih0 _ _
    | exact ih1 _ _ _ _ _ _ _ _ _ _
    | exact ih2 _ _ _ _ _ _ _ _ _ _ _ _ _ _
    | exact ih3 _ _ _ _ _ _ _ _ _ _ _ _ _ _
    | exact ih4 _ _ _ _ _ _ _ _ _ _ _ _ _ _
    | exact ih5 _ _ _ _ _ _ _ _ _ _ _ _ _ _ _
    | exact ih6 _ _ _ _ _ _ _ _ _ _ _ _ _ _
    | exact d2G.mono _ _ _
    | exact d3E.mono _ _ _ _ _ _
    | exact d3O.mono _ _
    | exact LeO.none _
    | refine LeO.ite ?_ ?_
    | refine LeO.bind ?_ (fun _ => ?_)
  · intro y0 y1 y2 y3 y4 y5 y6 y7 y8 y9 y10 y11 y12 y13
    unfold d3D.j4
    repeat' first
    | (with_reducible exact ih0 _ _)
    | (with_reducible exact ih1 _ _ _ _ _ _ _ _ _ _)
    | (with_reducible exact ih2 _ _ _ _ _ _ _ _ _ _ _ _ _ _)
    | (with_reducible exact ih3 _ _ _ _ _ _ _ _ _ _ _ _ _ _)
    | (with_reducible exact ih4 _ _ _ _ _ _ _ _ _ _ _ _ _ _)
    | (with_reducible exact ih5 _ _ _ _ _ _ _ _ _ _ _ _ _ _ _)
    | (with_reducible exact ih6 _ _ _ _ _ _ _ _ _ _ _ _ _ _)
    | (with_reducible exact d2G.mono _ _ _)
    | (with_reducible exact d3E.mono _ _ _ _ _ _)
    | (with_reducible exact d3O.mono _ _)
    | (with_reducible exact LeO.refl _)
    | (with_reducible exact LeO.none _)
    | (with_reducible refine LeO.ite ?_ ?_)
    | (with_reducible refine LeO.bind ?_ (fun _ => ?_))
    | exact ih0 _ _
    | exact ih1 _ _ _ _ _ _ _ _ _ _
    | exact ih2 _ _ _ _ _ _ _ _ _ _ _ _ _ _
    | exact ih3 _ _ _ _ _ _ _ _ _ _ _ _ _ _
    | exact ih4 _ _ _ _ _ _ _ _ _ _ _ _ _ _
    | exact ih5 _ _ _ _ _ _ _ _ _ _ _ _ _ _ _
    | exact ih6 _ _ _ _ _ _ _ _ _ _ _ _ _ _
    | exact d2G.mono _ _ _
    | exact d3E.mono _ _ _ _ _ _
    | exact d3O.mono _ _
    | exact LeO.none _
    | refine LeO.ite ?_ ?_
    | refine LeO.bind ?_ (fun _ => ?_)
  · intro y0 y1 y2 y3 y4 y5 y6 y7 y8 y9 y10 y11 y12 y13 y14
    unfold d3D.j5
    repeat' first
    | (with_reducible exact ih0 _ _)
    | (with_reducible exact ih1 _ _ _ _ _ _ _ _ _ _)
    | (with_reducible exact ih2 _ _ _ _ _ _ _ _ _ _ _ _ _ _)
    | (with_reducible exact ih3 _ _ _ _ _ _ _ _ _ _ _ _ _ _)
    | (with_reducible exact ih4 _ _ _ _ _ _ _ _ _ _ _ _ _ _)
    | (with_reducible exact ih5 _ _ _ _ _ _ _ _ _ _ _ _ _ _ _)
    | (with_reducible exact ih6 _ _ _ _ _ _ _ _ _ _ _ _ _ _)
    | (with_reducible exact d2G.mono _ _ _)
    | (with_reducible exact d3E.mono _ _ _ _ _ _)
    | (with_reducible exact d3O.mono _ _)
    | (with_reducible exact LeO.refl _)
    | (with_reducible exact LeO.none _)
    | (with_reducible refine LeO.ite ?_ ?_)
    | (with_reducible refine LeO.bind ?_ (fun _ => ?_))
    | exact ih0 _ _
    | exact ih1 _ _ _ _ _ _ _ _ _ _
    | exact ih2 _ _ _ _ _ _ _ _ _ _ _ _ _ _
    | exact ih3 _ _ _ _ _ _ _ _ _ _ _ _ _ _
    | exact ih4 _ _ _ _ _ _ _ _ _ _ _ _ _ _
    | exact ih5 _ _ _ _ _ _ _ _ _ _ _ _ _ _ _
    | exact ih6 _ _ _ _ _ _ _ _ _ _ _ _ _ _
    | exact d2G.mono _ _ _
    | exact d3E.mono _ _ _ _ _ _
    | exact d3O.mono _ _
    | exact LeO.none _
    | refine LeO.ite ?_ ?_
    | refine LeO.bind ?_ (fun _ => ?_)
  · intro y0 y1 y2 y3 y4 y5 y6 y7 y8 y9 y10 y11 y12 y13
    unfold d3D.j6
    repeat' first
    | (with_reducible exact ih0 _ _)
    | (with_reducible exact ih1 _ _ _ _ _ _ _ _ _ _)
    | (with_reducible exact ih2 _ _ _ _ _ _ _ _ _ _ _ _ _ _)
    | (with_reducible exact ih3 _ _ _ _ _ _ _ _ _ _ _ _ _ _)
    | (with_reducible exact ih4 _ _ _ _ _ _ _ _ _ _ _ _ _ _)
    | (with_reducible exact ih5 _ _ _ _ _ _ _ _ _ _ _ _ _ _ _)
    | (with_reducible exact ih6 _ _ _ _ _ _ _ _ _ _ _ _ _ _)
    | (with_reducible exact d2G.mono _ _ _)
    | (with_reducible exact d3E.mono _ _ _ _ _ _)
    | (with_reducible exact d3O.mono _ _)
    | (with_reducible exact LeO.refl _)
    | (with_reducible exact LeO.none _)
    | (with_reducible refine LeO.ite ?_ ?_)
    | (with_reducible refine LeO.bind ?_ (fun _ => ?_))
    | exact ih0 _ _
    | exact ih1 _ _ _ _ _ _ _ _ _ _
    | exact ih2 _ _ _ _ _ _ _ _ _ _ _ _ _ _
    | exact ih3 _ _ _ _ _ _ _ _ _ _ _ _ _ _
    | exact ih4 _ _ _ _ _ _ _ _ _ _ _ _ _ _
    | exact ih5 _ _ _ _ _ _ _ _ _ _ _ _ _ _ _
    | exact ih6 _ _ _ _ _ _ _ _ _ _ _ _ _ _
    | exact d2G.mono _ _ _
    | exact d3E.mono _ _ _ _ _ _
    | exact d3O.mono _ _
    | exact LeO.none _
    | refine LeO.ite ?_ ?_
    | refine LeO.bind ?_ (fun _ => ?_)
set_option maxHeartbeats 8000000 in
set_option maxRecDepth 100000 in
theorem d3D.calls (k : Nat) (a0 : Int) (r1 : Int) (r2 : Int) (r3 : Int) (r4 : Int) (r5 : Int) (r6 : Bool) (w : World) (h : d3D.f k a0 = some (r1, r2, r3, r4, r5, r6)) :
 Calls Try.prog 15 #[.int .u32 a0] w fun e w' => e = .returned (.tuple #[.agg #[.int .i64 r1, .int .i64 r2, .int .i64 r3, .int .i64 r4, .int .i32 r5], .bool r6]) ∧ Below w.heap.size w w' := by
 have hu32 := Try.underlying32
 have hu69 := Try.underlying69
 have HB := Aside0.mk (Below.refl w.heap.size w)
 have H : (d3D.l0 k a0 1) = some (r1, r2, r3, r4, r5, r6) := h
 clear h
 have H' := Aside0.mk H
 clear H
 go_enter Try.func15, Try.ntmps15
 go_wp2_with (first | ((with_reducible refine gate_dst (N := 2) rfl ?_); refine box_event ?hg (N := 2) ?hd (cs := #[.int .i64 0, .int .i64 0, .int .i64 0, .int .i64 0, .int .i32 0]) (t := 32) ?hr ?_; (case hd => rfl); (case hg => rfl); (case hr => exact m_14); intro gb435 hg w2 hbox hb; have n0_ := Aside0.mk (below_step (m_0) hb); have n1_ := Aside0.mk (hbox); have n2_ := Aside0.mk ((m_21 : w.heap.size ≤ gb435)); have n3_ := Aside0.mk ((m_21 : w.heap.size ≤ gb435)); clear HB; have HB := n0_; have BK435 := n1_; have GW435 := n2_; have GE435 := n3_; clear n0_ n1_ n2_ n3_; clear hb hbox hg))
 go_loopg [4] k (fun kq v4 w' => ∃ (x4_1 : Int) (x436000_1 : Int) (x436001_1 : Int) (x436002_1 : Int) (x436003_1 : Int) (x436004_1 : Int), v4 = .int .i64 x4_1 ∧ Aside0 (d3D.l0 kq a0 x4_1 = some (r1, r2, r3, r4, r5, r6)) ∧ Aside0 (kq ≤ k) ∧ Aside0 (w'.heap[gb435]? = some (.cells #[.int .i64 x436000_1, .int .i64 x436001_1, .int .i64 x436002_1, .int .i64 x436003_1, .int .i32 x436004_1] 32 (0, 0))) ∧ Aside0 (Below w.heap.size w w'))
 case atStart => exact ⟨(1), (0), (0), (0), (0), (0), (m_5), H', ⟨Nat.le_refl _⟩, ⟨m_16⟩, ⟨m_38⟩⟩
 case round =>
  clear H'
  obtain ⟨x4_1, x436000_1, x436001_1, x436002_1, x436003_1, x436004_1, rfl, HA, HK1, BK435, HB⟩ := hrel
  cases gk with
  | zero => exact absurd HA.out (by simp [d3D.l0])
  | succ k1 =>
   have H := HA.out
   clear HA
   simp only [d3D.l0] at H
   by_cases c3 : x4_1 ≤ 48
   · rw [if_pos c3] at H
     have c3b0 : decide (x4_1 ≤ 48) = true := decide_eq_true c3
     clear c3
     replace H := Option.bind_eq_some_iff.mp H
     obtain ⟨⟨t436, t437, t438, t439, t440, t441, t442, t443⟩, A40, H⟩ := H
     replace H : (if t443 = true then (d3D.j1 k1 a0 x4_1 ((Int.tmod a0 128) != t436) t436 t437 t438 t439 t440 t441 t442) else (d3D.j1 k1 a0 x4_1 false t436 t437 t438 t439 t440 t441 t442)) = some (r1, r2, r3, r4, r5, r6) := H
     have A4 := Aside0.mk A40
     clear A40
     have HC5 := Aside0.mk H
     clear H
     go_upto_region 5 with (first | ((with_reducible refine gate_callee (f := 29) rfl ?_); refine goesL_ (some 16) rfl rfl Try.func29 (by kernel_rfl) rfl #[.int .i64 x4_1] rfl (m_8) ?_; (with_reducible refine (d3O.calls k1 x4_1 t436 t437 t438 t439 t440 t441 t442 t443 _ A4.out).mono ?_); rintro e w6 ⟨rfl, hb⟩; refine ⟨_, rfl, ?_⟩; have n0_ := Aside0.mk (blk_below (g := gb435) (o := .cells #[.int .i64 x436000_1, .int .i64 x436001_1, .int .i64 x436002_1, .int .i64 x436003_1, .int .i32 x436004_1] 32 (0, 0)) (m_16) hb); have n1_ := Aside0.mk (below_step (m_38) hb); clear BK435; clear HB; have BK435 := n0_; have HB := n1_; clear n0_ n1_; (try clear hb); (try clear hb2); (try clear hk); (try clear hi)) | ((with_reducible refine gate_dst (N := 5) rfl ?_); refine box_event ?hg (N := 5) ?hd (cs := #[.int .u32 0, .int .u32 0, .int .u32 0, .int .i64 0, .bool false, .bool false, .bool false]) (t := 69) ?hr ?_; (case hd => rfl); (case hg => rfl); (case hr => exact m_14); intro gb444 hg w7 hbox hb; have n0_ := Aside0.mk (blk_below (g := gb435) (o := .cells #[.int .i64 x436000_1, .int .i64 x436001_1, .int .i64 x436002_1, .int .i64 x436003_1, .int .i32 x436004_1] 32 (0, 0)) (m_16) hb); have n1_ := Aside0.mk (below_step (m_38) hb); have n2_ := Aside0.mk (hbox); have n3_ := Aside0.mk ((by rw [hg]; exact (below_size (m_38)) : w.heap.size ≤ gb444)); have n4_ := Aside0.mk ((by rw [hg]; exact (below_size (m_38)) : w.heap.size ≤ gb444)); have n5_ := Aside0.mk ((by rw [hg]; exact Nat.ne_of_lt (blk_lt (g := gb435) (o := .cells #[.int .i64 x436000_1, .int .i64 x436001_1, .int .i64 x436002_1, .int .i64 x436003_1, .int .i32 x436004_1] 32 (0, 0)) (m_16)) : gb435 ≠ gb444)); have n6_ := Aside0.mk ((by rw [hg]; exact Nat.ne_of_gt (blk_lt (g := gb435) (o := .cells #[.int .i64 x436000_1, .int .i64 x436001_1, .int .i64 x436002_1, .int .i64 x436003_1, .int .i32 x436004_1] 32 (0, 0)) (m_16)) : gb444 ≠ gb435)); clear BK435; clear HB; have BK435 := n0_; have HB := n1_; have BK444 := n2_; have GW444 := n3_; have GE444 := n4_; have NB435_444 := n5_; have NB444_435 := n6_; clear n0_ n1_ n2_ n3_ n4_ n5_ n6_; clear hb hbox hg; have hnb8 := NB444_435.out; have hnc8 := NB435_444.out; obtain ⟨hcz9_0, hcz9_1, hcz9_2, hcz9_3, hcz9_4, hcz9_5, hcz9_6, hfz9_0, hfz9_1, hfz9_2, hfz9_3, hfz9_4, hfz9_5, hfz9_6⟩ := cz7 (w := w7) BK444.out))
     (try simp only [Act.put, List.setIfInBounds_toArray, List.set_cons_zero, List.set_cons_succ])
     go_cut [26] (fun v26 wc => ∃ (kq : Nat) (x26_4 : Bool), v26 = .bool x26_4 ∧ Aside0 (d3D.j1 kq a0 x4_1 x26_4 t436 t437 t438 t439 t440 t441 t442 = some (r1, r2, r3, r4, r5, r6)) ∧ Aside0 (kq ≤ k1) ∧ Aside0 (wc.heap[gb435]? = some (.cells #[.int .i64 x436000_1, .int .i64 x436001_1, .int .i64 x436002_1, .int .i64 x436003_1, .int .i32 x436004_1] 32 (0, 0))) ∧ Aside0 (wc.heap[gb444]? = some (.cells #[.int .u32 t436, .int .u32 t437, .int .u32 t438, .int .i64 t439, .bool t440, .bool t441, .bool t442] 69 (0, 0))) ∧ Aside0 (Below w.heap.size w wc))
     case first =>
      have H := HC5.out
      clear HC5
      by_cases c10 : t443 = true
      · subst c10
        have H1 : (d3D.j1 k1 a0 x4_1 ((Int.tmod a0 128) != t436) t436 t437 t438 t439 t440 t441 t442) = some (r1, r2, r3, r4, r5, r6) := by rw [if_pos rfl] at H; exact H
        clear H
        have H := H1
        clear H1
        have H' := Aside0.mk H
        clear H
        have hnb11 := NB444_435.out
        have hnc11 := NB435_444.out
        obtain ⟨hcz12_0, hcz12_1, hcz12_2, hcz12_3, hcz12_4, hcz12_5, hcz12_6, hfz12_0, hfz12_1, hfz12_2, hfz12_3, hfz12_4, hfz12_5, hfz12_6⟩ := cz7 (w := w7) BK444.out
        go_wp2
        go_meet
        case rel => exact ⟨_, (((Int.tmod a0 128) != t436)), (m_5), H', ⟨m_57⟩, ⟨by (with_reducible repeat (first | refine blk_drewN ?_ _ | refine blk_drew ?_ | refine blk_alloc ?_ _)); refine blk_far ?_ NB435_444.out _; (with_reducible repeat (first | refine blk_drewN ?_ _ | refine blk_drew ?_ | refine blk_alloc ?_ _)); refine blk_far ?_ NB435_444.out _; (with_reducible repeat (first | refine blk_drewN ?_ _ | refine blk_drew ?_ | refine blk_alloc ?_ _)); refine blk_far ?_ NB435_444.out _; (with_reducible repeat (first | refine blk_drewN ?_ _ | refine blk_drew ?_ | refine blk_alloc ?_ _)); refine blk_far ?_ NB435_444.out _; (with_reducible repeat (first | refine blk_drewN ?_ _ | refine blk_drew ?_ | refine blk_alloc ?_ _)); refine blk_far ?_ NB435_444.out _; (with_reducible repeat (first | refine blk_drewN ?_ _ | refine blk_drew ?_ | refine blk_alloc ?_ _)); refine blk_far ?_ NB435_444.out _; (with_reducible repeat (first | refine blk_drewN ?_ _ | refine blk_drew ?_ | refine blk_alloc ?_ _)); refine blk_far ?_ NB435_444.out _; (with_reducible repeat (first | refine blk_drewN ?_ _ | refine blk_drew ?_ | refine blk_alloc ?_ _)); exact BK435.out⟩, ⟨q_3⟩, ⟨m_35⟩⟩
      · replace c10 := Bool.eq_false_iff.mpr c10
        subst c10
        have H1 : (d3D.j1 k1 a0 x4_1 false t436 t437 t438 t439 t440 t441 t442) = some (r1, r2, r3, r4, r5, r6) := by rw [if_neg (show ¬ (false = true) by decide)] at H; exact H
        clear H
        have H := H1
        clear H1
        have H' := Aside0.mk H
        clear H
        go_wp2
        go_meet
        case rel => exact ⟨_, (false), (m_5), H', ⟨m_57⟩, ⟨by (with_reducible repeat (first | refine blk_drewN ?_ _ | refine blk_drew ?_ | refine blk_alloc ?_ _)); refine blk_far ?_ NB435_444.out _; (with_reducible repeat (first | refine blk_drewN ?_ _ | refine blk_drew ?_ | refine blk_alloc ?_ _)); refine blk_far ?_ NB435_444.out _; (with_reducible repeat (first | refine blk_drewN ?_ _ | refine blk_drew ?_ | refine blk_alloc ?_ _)); refine blk_far ?_ NB435_444.out _; (with_reducible repeat (first | refine blk_drewN ?_ _ | refine blk_drew ?_ | refine blk_alloc ?_ _)); refine blk_far ?_ NB435_444.out _; (with_reducible repeat (first | refine blk_drewN ?_ _ | refine blk_drew ?_ | refine blk_alloc ?_ _)); refine blk_far ?_ NB435_444.out _; (with_reducible repeat (first | refine blk_drewN ?_ _ | refine blk_drew ?_ | refine blk_alloc ?_ _)); refine blk_far ?_ NB435_444.out _; (with_reducible repeat (first | refine blk_drewN ?_ _ | refine blk_drew ?_ | refine blk_alloc ?_ _)); refine blk_far ?_ NB435_444.out _; (with_reducible repeat (first | refine blk_drewN ?_ _ | refine blk_drew ?_ | refine blk_alloc ?_ _)); exact BK435.out⟩, ⟨q_3⟩, ⟨m_35⟩⟩
     case rest =>
      clear HC5
      obtain ⟨kq, x26_4, rfl, HA, HJ4, BK435, BK444, HB⟩ := hcut
      cases kq with
      | zero => exact absurd HA.out (by simp [d3D.j1])
      | succ kj4 =>
       have H := HA.out
       clear HA
       simp only [d3D.j1] at H
       by_cases c13 : x26_4 = true
       · subst c13
         have H1 : (d3D.l0 kj4 a0 (wrap64 (x4_1 + 1))) = some (r1, r2, r3, r4, r5, r6) := by rw [if_pos rfl] at H; exact H
         clear H
         have H := H1
         clear H1
         have H' := Aside0.mk H
         clear H
         go_wp2
         go_roundg kj4
         case measure => have := HK1.out; have := HJ4.out; omega
         case rel => exact ⟨(wrap64 (x4_1 + 1)), (x436000_1), (x436001_1), (x436002_1), (x436003_1), (x436004_1), (m_5), H', ⟨by have := HK1.out; have := HJ4.out; omega⟩, ⟨m_16⟩, ⟨m_35⟩⟩
       · replace c13 := Bool.eq_false_iff.mpr c13
         subst c13
         have H1 : (if t440 = true then (d3D.j2 kj4 a0 x4_1 t436 t437 t438 t439 t440 t441 t442 x4_1 ((Int.tdiv a0 128) % 32) 0 0 0) else (d3D.j2 kj4 a0 x4_1 t436 t437 t438 t439 t440 t441 t442 x4_1 0 0 0 0)) = some (r1, r2, r3, r4, r5, r6) := by rw [if_neg (show ¬ (false = true) by decide)] at H; exact H
         clear H
         have H := H1
         clear H1
         have HC14 := Aside0.mk H
         clear H
         go_upto_if 30 with (first | ((with_reducible refine gate_dst (N := 7) rfl ?_); refine box_event ?hg (N := 7) ?hd (cs := #[.int .i64 0, .int .i64 0, .int .i64 0, .int .i64 0, .int .i32 0]) (t := 32) ?hr ?_; (case hd => rfl); (case hg => rfl); (case hr => exact m_14); intro gb445 hg w15 hbox hb; have n0_ := Aside0.mk (blk_below (g := gb435) (o := .cells #[.int .i64 x436000_1, .int .i64 x436001_1, .int .i64 x436002_1, .int .i64 x436003_1, .int .i32 x436004_1] 32 (0, 0)) (m_16) hb); have n1_ := Aside0.mk (blk_below (g := gb444) (o := .cells #[.int .u32 t436, .int .u32 t437, .int .u32 t438, .int .i64 t439, .bool t440, .bool t441, .bool t442] 69 (0, 0)) (m_29) hb); have n2_ := Aside0.mk (below_step (m_35) hb); have n3_ := Aside0.mk (hbox); have n4_ := Aside0.mk ((by rw [hg]; exact (below_size (m_35)) : w.heap.size ≤ gb445)); have n5_ := Aside0.mk ((by rw [hg]; exact (below_size (m_35)) : w.heap.size ≤ gb445)); have n6_ := Aside0.mk ((by rw [hg]; exact Nat.ne_of_lt (blk_lt (g := gb435) (o := .cells #[.int .i64 x436000_1, .int .i64 x436001_1, .int .i64 x436002_1, .int .i64 x436003_1, .int .i32 x436004_1] 32 (0, 0)) (m_16)) : gb435 ≠ gb445)); have n7_ := Aside0.mk ((by rw [hg]; exact Nat.ne_of_gt (blk_lt (g := gb435) (o := .cells #[.int .i64 x436000_1, .int .i64 x436001_1, .int .i64 x436002_1, .int .i64 x436003_1, .int .i32 x436004_1] 32 (0, 0)) (m_16)) : gb445 ≠ gb435)); have n8_ := Aside0.mk ((by rw [hg]; exact Nat.ne_of_lt (blk_lt (g := gb444) (o := .cells #[.int .u32 t436, .int .u32 t437, .int .u32 t438, .int .i64 t439, .bool t440, .bool t441, .bool t442] 69 (0, 0)) (m_29)) : gb444 ≠ gb445)); have n9_ := Aside0.mk ((by rw [hg]; exact Nat.ne_of_gt (blk_lt (g := gb444) (o := .cells #[.int .u32 t436, .int .u32 t437, .int .u32 t438, .int .i64 t439, .bool t440, .bool t441, .bool t442] 69 (0, 0)) (m_29)) : gb445 ≠ gb444)); clear BK435; clear BK444; clear HB; have BK435 := n0_; have BK444 := n1_; have HB := n2_; have BK445 := n3_; have GW445 := n4_; have GE445 := n5_; have NB435_445 := n6_; have NB445_435 := n7_; have NB444_445 := n8_; have NB445_444 := n9_; clear n0_ n1_ n2_ n3_ n4_ n5_ n6_ n7_ n8_ n9_; clear hb hbox hg; have hnb16 := NB445_435.out; have hnc16 := NB435_445.out; have hnb17 := NB445_444.out; have hnc17 := NB444_445.out; obtain ⟨hcz18_0, hcz18_1, hcz18_2, hcz18_3, hcz18_4, hfz18_0, hfz18_1, hfz18_2, hfz18_3, hfz18_4⟩ := cz5 (w := w15) BK445.out; have hnb19 := NB444_435.out; have hnc19 := NB435_444.out; obtain ⟨hcz20_0, hcz20_1, hcz20_2, hcz20_3, hcz20_4, hcz20_5, hcz20_6, hfz20_0, hfz20_1, hfz20_2, hfz20_3, hfz20_4, hfz20_5, hfz20_6⟩ := cz7 (w := w15) BK444.out))
         (try simp only [Act.put, List.setIfInBounds_toArray, List.set_cons_zero, List.set_cons_succ])
         go_cut [] (fun wc => ∃ (kq : Nat) (x446001_13 : Int), Aside0 (d3D.j2 kq a0 x4_1 t436 t437 t438 t439 t440 t441 t442 x4_1 x446001_13 0 0 0 = some (r1, r2, r3, r4, r5, r6)) ∧ Aside0 (kq ≤ kj4) ∧ Aside0 (wc.heap[gb435]? = some (.cells #[.int .i64 x436000_1, .int .i64 x436001_1, .int .i64 x436002_1, .int .i64 x436003_1, .int .i32 x436004_1] 32 (0, 0))) ∧ Aside0 (wc.heap[gb444]? = some (.cells #[.int .u32 t436, .int .u32 t437, .int .u32 t438, .int .i64 t439, .bool t440, .bool t441, .bool t442] 69 (0, 0))) ∧ Aside0 (wc.heap[gb445]? = some (.cells #[.int .i64 x4_1, .int .i64 x446001_13, .int .i64 0, .int .i64 0, .int .i32 0] 32 (0, 0))) ∧ Aside0 (Below w.heap.size w wc))
         case first =>
          have H := HC14.out
          clear HC14
          by_cases c21 : t440 = true
          · subst c21
            have H1 : (d3D.j2 kj4 a0 x4_1 t436 t437 t438 t439 true t441 t442 x4_1 ((Int.tdiv a0 128) % 32) 0 0 0) = some (r1, r2, r3, r4, r5, r6) := by rw [if_pos rfl] at H; exact H
            clear H
            have H := H1
            clear H1
            have H' := Aside0.mk H
            clear H
            have hnb22 := NB445_435.out
            have hnc22 := NB435_445.out
            have hnb23 := NB445_444.out
            have hnc23 := NB444_445.out
            obtain ⟨hcz24_0, hcz24_1, hcz24_2, hcz24_3, hcz24_4, hfz24_0, hfz24_1, hfz24_2, hfz24_3, hfz24_4⟩ := cz5 (w := w15) BK445.out
            go_wp2
            go_meet
            case rel => exact ⟨_, ((Int.tdiv a0 128) % 32), H', ⟨by have := HK1.out; have := HJ4.out; first | omega | exact Nat.le_refl _⟩, ⟨by (with_reducible repeat (first | refine blk_drewN ?_ _ | refine blk_drew ?_ | refine blk_alloc ?_ _)); refine blk_far ?_ NB435_445.out _; (with_reducible repeat (first | refine blk_drewN ?_ _ | refine blk_drew ?_ | refine blk_alloc ?_ _)); refine blk_far ?_ NB435_445.out _; (with_reducible repeat (first | refine blk_drewN ?_ _ | refine blk_drew ?_ | refine blk_alloc ?_ _)); refine blk_far ?_ NB435_445.out _; (with_reducible repeat (first | refine blk_drewN ?_ _ | refine blk_drew ?_ | refine blk_alloc ?_ _)); refine blk_far ?_ NB435_445.out _; (with_reducible repeat (first | refine blk_drewN ?_ _ | refine blk_drew ?_ | refine blk_alloc ?_ _)); refine blk_far ?_ NB435_445.out _; (with_reducible repeat (first | refine blk_drewN ?_ _ | refine blk_drew ?_ | refine blk_alloc ?_ _)); refine blk_far ?_ NB435_445.out _; (with_reducible repeat (first | refine blk_drewN ?_ _ | refine blk_drew ?_ | refine blk_alloc ?_ _)); exact BK435.out⟩, ⟨by (with_reducible repeat (first | refine blk_drewN ?_ _ | refine blk_drew ?_ | refine blk_alloc ?_ _)); refine blk_far ?_ NB444_445.out _; (with_reducible repeat (first | refine blk_drewN ?_ _ | refine blk_drew ?_ | refine blk_alloc ?_ _)); refine blk_far ?_ NB444_445.out _; (with_reducible repeat (first | refine blk_drewN ?_ _ | refine blk_drew ?_ | refine blk_alloc ?_ _)); refine blk_far ?_ NB444_445.out _; (with_reducible repeat (first | refine blk_drewN ?_ _ | refine blk_drew ?_ | refine blk_alloc ?_ _)); refine blk_far ?_ NB444_445.out _; (with_reducible repeat (first | refine blk_drewN ?_ _ | refine blk_drew ?_ | refine blk_alloc ?_ _)); refine blk_far ?_ NB444_445.out _; (with_reducible repeat (first | refine blk_drewN ?_ _ | refine blk_drew ?_ | refine blk_alloc ?_ _)); refine blk_far ?_ NB444_445.out _; (with_reducible repeat (first | refine blk_drewN ?_ _ | refine blk_drew ?_ | refine blk_alloc ?_ _)); exact BK444.out⟩, ⟨q_4⟩, ⟨m_7⟩⟩
          · replace c21 := Bool.eq_false_iff.mpr c21
            subst c21
            have H1 : (d3D.j2 kj4 a0 x4_1 t436 t437 t438 t439 false t441 t442 x4_1 0 0 0 0) = some (r1, r2, r3, r4, r5, r6) := by rw [if_neg (show ¬ (false = true) by decide)] at H; exact H
            clear H
            have H := H1
            clear H1
            have H' := Aside0.mk H
            clear H
            go_wp2
            go_meet
            case rel => exact ⟨_, (0), H', ⟨by have := HK1.out; have := HJ4.out; first | omega | exact Nat.le_refl _⟩, ⟨by (with_reducible repeat (first | refine blk_drewN ?_ _ | refine blk_drew ?_ | refine blk_alloc ?_ _)); refine blk_far ?_ NB435_445.out _; (with_reducible repeat (first | refine blk_drewN ?_ _ | refine blk_drew ?_ | refine blk_alloc ?_ _)); refine blk_far ?_ NB435_445.out _; (with_reducible repeat (first | refine blk_drewN ?_ _ | refine blk_drew ?_ | refine blk_alloc ?_ _)); refine blk_far ?_ NB435_445.out _; (with_reducible repeat (first | refine blk_drewN ?_ _ | refine blk_drew ?_ | refine blk_alloc ?_ _)); refine blk_far ?_ NB435_445.out _; (with_reducible repeat (first | refine blk_drewN ?_ _ | refine blk_drew ?_ | refine blk_alloc ?_ _)); refine blk_far ?_ NB435_445.out _; (with_reducible repeat (first | refine blk_drewN ?_ _ | refine blk_drew ?_ | refine blk_alloc ?_ _)); exact BK435.out⟩, ⟨by (with_reducible repeat (first | refine blk_drewN ?_ _ | refine blk_drew ?_ | refine blk_alloc ?_ _)); refine blk_far ?_ NB444_445.out _; (with_reducible repeat (first | refine blk_drewN ?_ _ | refine blk_drew ?_ | refine blk_alloc ?_ _)); refine blk_far ?_ NB444_445.out _; (with_reducible repeat (first | refine blk_drewN ?_ _ | refine blk_drew ?_ | refine blk_alloc ?_ _)); refine blk_far ?_ NB444_445.out _; (with_reducible repeat (first | refine blk_drewN ?_ _ | refine blk_drew ?_ | refine blk_alloc ?_ _)); refine blk_far ?_ NB444_445.out _; (with_reducible repeat (first | refine blk_drewN ?_ _ | refine blk_drew ?_ | refine blk_alloc ?_ _)); refine blk_far ?_ NB444_445.out _; (with_reducible repeat (first | refine blk_drewN ?_ _ | refine blk_drew ?_ | refine blk_alloc ?_ _)); exact BK444.out⟩, ⟨q_5⟩, ⟨m_7⟩⟩
         case rest =>
          clear HC14
          obtain ⟨kq, x446001_13, HA, HJ13, BK435, BK444, BK445, HB⟩ := hcut
          cases kq with
          | zero => exact absurd HA.out (by simp [d3D.j2])
          | succ kj13 =>
           have H := HA.out
           clear HA
           simp only [d3D.j2] at H
           have HC25 := Aside0.mk H
           clear H
           have hnb26 := NB444_435.out
           have hnc26 := NB435_444.out
           have hnb27 := NB444_445.out
           have hnc27 := NB445_444.out
           obtain ⟨hcz28_0, hcz28_1, hcz28_2, hcz28_3, hcz28_4, hcz28_5, hcz28_6, hfz28_0, hfz28_1, hfz28_2, hfz28_3, hfz28_4, hfz28_5, hfz28_6⟩ := cz7 (w := wc) BK444.out
           go_upto_if 37 with (fail)
           go_cut [] (fun wc => ∃ (kq : Nat) (x446002_24 : Int), Aside0 (d3D.j3 kq a0 x4_1 t436 t437 t438 t439 t440 t441 t442 x4_1 x446001_13 x446002_24 0 0 = some (r1, r2, r3, r4, r5, r6)) ∧ Aside0 (kq ≤ kj13) ∧ Aside0 (wc.heap[gb435]? = some (.cells #[.int .i64 x436000_1, .int .i64 x436001_1, .int .i64 x436002_1, .int .i64 x436003_1, .int .i32 x436004_1] 32 (0, 0))) ∧ Aside0 (wc.heap[gb444]? = some (.cells #[.int .u32 t436, .int .u32 t437, .int .u32 t438, .int .i64 t439, .bool t440, .bool t441, .bool t442] 69 (0, 0))) ∧ Aside0 (wc.heap[gb445]? = some (.cells #[.int .i64 x4_1, .int .i64 x446001_13, .int .i64 x446002_24, .int .i64 0, .int .i32 0] 32 (0, 0))) ∧ Aside0 (Below w.heap.size w wc))
           case first =>
            have H := HC25.out
            clear HC25
            by_cases c29 : t441 = true
            · subst c29
              have H1 : (d3D.j3 kj13 a0 x4_1 t436 t437 t438 t439 t440 true t442 x4_1 x446001_13 ((Int.tdiv a0 32768) % 32) 0 0) = some (r1, r2, r3, r4, r5, r6) := by rw [if_pos rfl] at H; exact H
              clear H
              have H := H1
              clear H1
              have H' := Aside0.mk H
              clear H
              have hnb30 := NB445_435.out
              have hnc30 := NB435_445.out
              have hnb31 := NB445_444.out
              have hnc31 := NB444_445.out
              obtain ⟨hcz32_0, hcz32_1, hcz32_2, hcz32_3, hcz32_4, hfz32_0, hfz32_1, hfz32_2, hfz32_3, hfz32_4⟩ := cz5 (w := wc) BK445.out
              go_wp2
              go_meet
              case rel => exact ⟨_, ((Int.tdiv a0 32768) % 32), H', ⟨by have := HK1.out; have := HJ4.out; have := HJ13.out; first | omega | exact Nat.le_refl _⟩, ⟨m_30⟩, ⟨m_31⟩, ⟨by (with_reducible repeat (first | refine blk_drewN ?_ _ | refine blk_drew ?_ | refine blk_alloc ?_ _)); refine blk_put (cs := #[.int .i64 x4_1, .int .i64 x446001_13, .int .i64 0, .int .i64 0, .int .i32 0]) ?_ 2 _ rfl; (with_reducible repeat (first | refine blk_drewN ?_ _ | refine blk_drew ?_ | refine blk_alloc ?_ _)); exact BK445.out⟩, ⟨m_7⟩⟩
            · replace c29 := Bool.eq_false_iff.mpr c29
              subst c29
              have H1 : (d3D.j3 kj13 a0 x4_1 t436 t437 t438 t439 t440 false t442 x4_1 x446001_13 0 0 0) = some (r1, r2, r3, r4, r5, r6) := by rw [if_neg (show ¬ (false = true) by decide)] at H; exact H
              clear H
              have H := H1
              clear H1
              have H' := Aside0.mk H
              clear H
              go_wp2
              go_meet
              case rel => exact ⟨_, (0), H', ⟨by have := HK1.out; have := HJ4.out; have := HJ13.out; first | omega | exact Nat.le_refl _⟩, ⟨m_16⟩, ⟨m_29⟩, ⟨m_36⟩, ⟨m_7⟩⟩
           case rest =>
            clear HC25
            obtain ⟨kq, x446002_24, HA, HJ24, BK435, BK444, BK445, HB⟩ := hcut
            cases kq with
            | zero => exact absurd HA.out (by simp [d3D.j3])
            | succ kj24 =>
             have H := HA.out
             clear HA
             simp only [d3D.j3] at H
             have HC33 := Aside0.mk H
             clear H
             have hnb34 := NB444_435.out
             have hnc34 := NB435_444.out
             have hnb35 := NB444_445.out
             have hnc35 := NB445_444.out
             obtain ⟨hcz36_0, hcz36_1, hcz36_2, hcz36_3, hcz36_4, hcz36_5, hcz36_6, hfz36_0, hfz36_1, hfz36_2, hfz36_3, hfz36_4, hfz36_5, hfz36_6⟩ := cz7 (w := wc) BK444.out
             go_upto_if 44 with (fail)
             go_cut [] (fun wc => ∃ (kq : Nat) (x446003_32 : Int), Aside0 (d3D.j4 kq a0 x4_1 t436 t437 t438 t439 t440 t441 t442 x4_1 x446001_13 x446002_24 x446003_32 0 = some (r1, r2, r3, r4, r5, r6)) ∧ Aside0 (kq ≤ kj24) ∧ Aside0 (wc.heap[gb435]? = some (.cells #[.int .i64 x436000_1, .int .i64 x436001_1, .int .i64 x436002_1, .int .i64 x436003_1, .int .i32 x436004_1] 32 (0, 0))) ∧ Aside0 (wc.heap[gb444]? = some (.cells #[.int .u32 t436, .int .u32 t437, .int .u32 t438, .int .i64 t439, .bool t440, .bool t441, .bool t442] 69 (0, 0))) ∧ Aside0 (wc.heap[gb445]? = some (.cells #[.int .i64 x4_1, .int .i64 x446001_13, .int .i64 x446002_24, .int .i64 x446003_32, .int .i32 0] 32 (0, 0))) ∧ Aside0 (Below w.heap.size w wc))
             case first =>
              have H := HC33.out
              clear HC33
              by_cases c37 : t442 = true
              · subst c37
                have H1 : (d3D.j4 kj24 a0 x4_1 t436 t437 t438 t439 t440 t441 true x4_1 x446001_13 x446002_24 ((Int.tdiv a0 1048576) % 32) 0) = some (r1, r2, r3, r4, r5, r6) := by rw [if_pos rfl] at H; exact H
                clear H
                have H := H1
                clear H1
                have H' := Aside0.mk H
                clear H
                have hnb38 := NB445_435.out
                have hnc38 := NB435_445.out
                have hnb39 := NB445_444.out
                have hnc39 := NB444_445.out
                obtain ⟨hcz40_0, hcz40_1, hcz40_2, hcz40_3, hcz40_4, hfz40_0, hfz40_1, hfz40_2, hfz40_3, hfz40_4⟩ := cz5 (w := wc) BK445.out
                go_wp2
                go_meet
                case rel => exact ⟨_, ((Int.tdiv a0 1048576) % 32), H', ⟨by have := HK1.out; have := HJ4.out; have := HJ13.out; have := HJ24.out; first | omega | exact Nat.le_refl _⟩, ⟨m_30⟩, ⟨m_31⟩, ⟨by (with_reducible repeat (first | refine blk_drewN ?_ _ | refine blk_drew ?_ | refine blk_alloc ?_ _)); refine blk_put (cs := #[.int .i64 x4_1, .int .i64 x446001_13, .int .i64 x446002_24, .int .i64 0, .int .i32 0]) ?_ 3 _ rfl; (with_reducible repeat (first | refine blk_drewN ?_ _ | refine blk_drew ?_ | refine blk_alloc ?_ _)); exact BK445.out⟩, ⟨m_7⟩⟩
              · replace c37 := Bool.eq_false_iff.mpr c37
                subst c37
                have H1 : (d3D.j4 kj24 a0 x4_1 t436 t437 t438 t439 t440 t441 false x4_1 x446001_13 x446002_24 0 0) = some (r1, r2, r3, r4, r5, r6) := by rw [if_neg (show ¬ (false = true) by decide)] at H; exact H
                clear H
                have H := H1
                clear H1
                have H' := Aside0.mk H
                clear H
                go_wp2
                go_meet
                case rel => exact ⟨_, (0), H', ⟨by have := HK1.out; have := HJ4.out; have := HJ13.out; have := HJ24.out; first | omega | exact Nat.le_refl _⟩, ⟨m_16⟩, ⟨m_29⟩, ⟨m_36⟩, ⟨m_7⟩⟩
             case rest =>
              clear HC33
              obtain ⟨kq, x446003_32, HA, HJ32, BK435, BK444, BK445, HB⟩ := hcut
              cases kq with
              | zero => exact absurd HA.out (by simp [d3D.j4])
              | succ kj32 =>
               have H := HA.out
               clear HA
               simp only [d3D.j4] at H
               have HC41 := Aside0.mk H
               clear H
               go_upto_region 13 with (fail)
               go_cut [57] (fun v57 wc => ∃ (kq : Nat) (x57_40 : Bool), v57 = .bool x57_40 ∧ Aside0 (d3D.j5 kq a0 x4_1 x57_40 t436 t437 t438 t439 t440 t441 t442 x4_1 x446001_13 x446002_24 x446003_32 0 = some (r1, r2, r3, r4, r5, r6)) ∧ Aside0 (kq ≤ kj32) ∧ Aside0 (wc.heap[gb435]? = some (.cells #[.int .i64 x436000_1, .int .i64 x436001_1, .int .i64 x436002_1, .int .i64 x436003_1, .int .i32 x436004_1] 32 (0, 0))) ∧ Aside0 (wc.heap[gb444]? = some (.cells #[.int .u32 t436, .int .u32 t437, .int .u32 t438, .int .i64 t439, .bool t440, .bool t441, .bool t442] 69 (0, 0))) ∧ Aside0 (wc.heap[gb445]? = some (.cells #[.int .i64 x4_1, .int .i64 x446001_13, .int .i64 x446002_24, .int .i64 x446003_32, .int .i32 0] 32 (0, 0))) ∧ Aside0 (Below w.heap.size w wc))
               case first =>
                have H := HC41.out
                clear HC41
                by_cases c42 : t439 > 0
                · rw [if_pos c42] at H
                  have c42b0 : decide (0 < t439) = true := decide_eq_true c42
                  clear c42
                  (first | rw [c42b0] | (simp only [i64_w, i32_w]; rw [c42b0]) | skip)
                  have H' := Aside0.mk H
                  clear H
                  have hnb43 := NB444_435.out
                  have hnc43 := NB435_444.out
                  have hnb44 := NB444_445.out
                  have hnc44 := NB445_444.out
                  obtain ⟨hcz45_0, hcz45_1, hcz45_2, hcz45_3, hcz45_4, hcz45_5, hcz45_6, hfz45_0, hfz45_1, hfz45_2, hfz45_3, hfz45_4, hfz45_5, hfz45_6⟩ := cz7 (w := wc) BK444.out
                  go_wp2
                  go_meet
                  case rel => exact ⟨_, (decide (t439 < 6)), (m_5), H', ⟨by have := HK1.out; have := HJ4.out; have := HJ13.out; have := HJ24.out; have := HJ32.out; first | omega | exact Nat.le_refl _⟩, ⟨m_16⟩, ⟨m_29⟩, ⟨m_36⟩, ⟨m_7⟩⟩
                · rw [if_neg c42] at H
                  have c42b0 : decide (0 < t439) = false := decide_eq_false c42
                  clear c42
                  (first | rw [c42b0] | (simp only [i64_w, i32_w]; rw [c42b0]) | skip)
                  have H' := Aside0.mk H
                  clear H
                  have hnb46 := NB444_435.out
                  have hnc46 := NB435_444.out
                  have hnb47 := NB444_445.out
                  have hnc47 := NB445_444.out
                  obtain ⟨hcz48_0, hcz48_1, hcz48_2, hcz48_3, hcz48_4, hcz48_5, hcz48_6, hfz48_0, hfz48_1, hfz48_2, hfz48_3, hfz48_4, hfz48_5, hfz48_6⟩ := cz7 (w := wc) BK444.out
                  go_wp2
                  go_meet
                  case rel => exact ⟨_, (false), (m_5), H', ⟨by have := HK1.out; have := HJ4.out; have := HJ13.out; have := HJ24.out; have := HJ32.out; first | omega | exact Nat.le_refl _⟩, ⟨m_16⟩, ⟨m_29⟩, ⟨m_36⟩, ⟨m_7⟩⟩
               case rest =>
                clear HC41
                obtain ⟨kq, x57_40, rfl, HA, HJ40, BK435, BK444, BK445, HB⟩ := hcut
                cases kq with
                | zero => exact absurd HA.out (by simp [d3D.j5])
                | succ kj40 =>
                 have H := HA.out
                 clear HA
                 simp only [d3D.j5] at H
                 have HC49 := Aside0.mk H
                 clear H
                 go_upto_if 57 with (fail)
                 go_cut [] (fun wc => ∃ (kq : Nat) (x446004_48 : Int), Aside0 (d3D.j6 kq a0 x4_1 t436 t437 t438 t439 t440 t441 t442 x4_1 x446001_13 x446002_24 x446003_32 x446004_48 = some (r1, r2, r3, r4, r5, r6)) ∧ Aside0 (kq ≤ kj40) ∧ Aside0 (wc.heap[gb435]? = some (.cells #[.int .i64 x436000_1, .int .i64 x436001_1, .int .i64 x436002_1, .int .i64 x436003_1, .int .i32 x436004_1] 32 (0, 0))) ∧ Aside0 (wc.heap[gb444]? = some (.cells #[.int .u32 t436, .int .u32 t437, .int .u32 t438, .int .i64 t439, .bool t440, .bool t441, .bool t442] 69 (0, 0))) ∧ Aside0 (wc.heap[gb445]? = some (.cells #[.int .i64 x4_1, .int .i64 x446001_13, .int .i64 x446002_24, .int .i64 x446003_32, .int .i32 x446004_48] 32 (0, 0))) ∧ Aside0 (Below w.heap.size w wc))
                 case first =>
                  have H := HC49.out
                  clear HC49
                  by_cases c50 : x57_40 = true
                  · subst c50
                    have H1 : ((d2G.f kj40 t439 a0).bind fun t446 => (d3D.j6 kj40 a0 x4_1 t436 t437 t438 t439 t440 t441 t442 x4_1 x446001_13 x446002_24 x446003_32 t446)) = some (r1, r2, r3, r4, r5, r6) := by rw [if_pos rfl] at H; exact H
                    clear H
                    have H := H1
                    clear H1
                    replace H := Option.bind_eq_some_iff.mp H
                    obtain ⟨t446, A510, H⟩ := H
                    replace H : (d3D.j6 kj40 a0 x4_1 t436 t437 t438 t439 t440 t441 t442 x4_1 x446001_13 x446002_24 x446003_32 t446) = some (r1, r2, r3, r4, r5, r6) := H
                    have A51 := Aside0.mk A510
                    clear A510
                    have H' := Aside0.mk H
                    clear H
                    have hnb52 := NB444_435.out
                    have hnc52 := NB435_444.out
                    have hnb53 := NB444_445.out
                    have hnc53 := NB445_444.out
                    obtain ⟨hcz54_0, hcz54_1, hcz54_2, hcz54_3, hcz54_4, hcz54_5, hcz54_6, hfz54_0, hfz54_1, hfz54_2, hfz54_3, hfz54_4, hfz54_5, hfz54_6⟩ := cz7 (w := wc) BK444.out
                    go_wp2_with (first | ((with_reducible refine gate_callee (f := 30) rfl ?_); refine goesL_ (some 61) rfl rfl Try.func30 (by kernel_rfl) rfl #[.int .i64 t439, .int .u32 a0] rfl (m_8) ?_; (with_reducible refine (d2G.calls kj40 t439 a0 t446 _ A51.out).mono ?_); rintro e w55 ⟨rfl, hb⟩; refine ⟨_, rfl, ?_⟩; have n0_ := Aside0.mk (blk_below (g := gb435) (o := .cells #[.int .i64 x436000_1, .int .i64 x436001_1, .int .i64 x436002_1, .int .i64 x436003_1, .int .i32 x436004_1] 32 (0, 0)) (m_16) hb); have n1_ := Aside0.mk (blk_below (g := gb444) (o := .cells #[.int .u32 t436, .int .u32 t437, .int .u32 t438, .int .i64 t439, .bool t440, .bool t441, .bool t442] 69 (0, 0)) (m_29) hb); have n2_ := Aside0.mk (blk_below (g := gb445) (o := .cells #[.int .i64 x4_1, .int .i64 x446001_13, .int .i64 x446002_24, .int .i64 x446003_32, .int .i32 0] 32 (0, 0)) (m_36) hb); have n3_ := Aside0.mk (below_step (m_7) hb); clear BK435; clear BK444; clear BK445; clear HB; have BK435 := n0_; have BK444 := n1_; have BK445 := n2_; have HB := n3_; clear n0_ n1_ n2_ n3_; (try clear hb); (try clear hb2); (try clear hk); (try clear hi); have hnb56 := NB445_435.out; have hnc56 := NB435_445.out; obtain ⟨hcz57_0, hcz57_1, hcz57_2, hcz57_3, hcz57_4, hfz57_0, hfz57_1, hfz57_2, hfz57_3, hfz57_4⟩ := cz5 (w := w55) BK445.out))
                    go_meet
                    case rel => exact ⟨_, (t446), H', ⟨by have := HK1.out; have := HJ4.out; have := HJ13.out; have := HJ24.out; have := HJ32.out; have := HJ40.out; first | omega | exact Nat.le_refl _⟩, ⟨m_30⟩, ⟨m_31⟩, ⟨by (with_reducible repeat (first | refine blk_drewN ?_ _ | refine blk_drew ?_ | refine blk_alloc ?_ _)); refine blk_put (cs := #[.int .i64 x4_1, .int .i64 x446001_13, .int .i64 x446002_24, .int .i64 x446003_32, .int .i32 0]) ?_ 4 _ rfl; (with_reducible repeat (first | refine blk_drewN ?_ _ | refine blk_drew ?_ | refine blk_alloc ?_ _)); exact BK445.out⟩, ⟨m_7⟩⟩
                  · replace c50 := Bool.eq_false_iff.mpr c50
                    subst c50
                    have H1 : (d3D.j6 kj40 a0 x4_1 t436 t437 t438 t439 t440 t441 t442 x4_1 x446001_13 x446002_24 x446003_32 0) = some (r1, r2, r3, r4, r5, r6) := by rw [if_neg (show ¬ (false = true) by decide)] at H; exact H
                    clear H
                    have H := H1
                    clear H1
                    have H' := Aside0.mk H
                    clear H
                    go_wp2
                    go_meet
                    case rel => exact ⟨_, (0), H', ⟨by have := HK1.out; have := HJ4.out; have := HJ13.out; have := HJ24.out; have := HJ32.out; have := HJ40.out; first | omega | exact Nat.le_refl _⟩, ⟨m_16⟩, ⟨m_29⟩, ⟨m_36⟩, ⟨m_7⟩⟩
                 case rest =>
                  clear HC49
                  obtain ⟨kq, x446004_48, HA, HJ48, BK435, BK444, BK445, HB⟩ := hcut
                  cases kq with
                  | zero => exact absurd HA.out (by simp [d3D.j6])
                  | succ kj48 =>
                   have H := HA.out
                   clear HA
                   simp only [d3D.j6] at H
                   by_cases c58 : t439 = 6
                   · rw [if_pos c58] at H
                     have c58b0 : (t439 == 6) = true := beq_iff_eq.mpr c58
                     have c58b1 : (t439 != 6) = false := bne_eq_false_iff_eq.mpr c58
                     clear c58
                     replace H := Option.bind_eq_some_iff.mp H
                     obtain ⟨⟨t447, t448⟩, A590, H⟩ := H
                     replace H : (if t448 = true then (if t447 = a0 then (some (x4_1, x446001_13, x446002_24, x446003_32, (Int.tdiv a0 1048576) % 32, true)) else (d3D.l0 kj48 a0 (wrap64 (x4_1 + 1)))) else (d3D.l0 kj48 a0 (wrap64 (x4_1 + 1)))) = some (r1, r2, r3, r4, r5, r6) := H
                     have A59 := Aside0.mk A590
                     clear A590
                     by_cases c60 : t448 = true
                     · subst c60
                       have H1 : (if t447 = a0 then (some (x4_1, x446001_13, x446002_24, x446003_32, (Int.tdiv a0 1048576) % 32, true)) else (d3D.l0 kj48 a0 (wrap64 (x4_1 + 1)))) = some (r1, r2, r3, r4, r5, r6) := by rw [if_pos rfl] at H; exact H
                       clear H
                       have H := H1
                       clear H1
                       by_cases c61 : t447 = a0
                       · rw [if_pos c61] at H
                         have c61b0 : (t447 == a0) = true := beq_iff_eq.mpr c61
                         have c61b1 : (t447 != a0) = false := bne_eq_false_iff_eq.mpr c61
                         clear c61
                         simp only [Option.some.injEq, Prod.mk.injEq] at H
                         obtain ⟨rfl, rfl, rfl, rfl, rfl, rfl⟩ := H
                         have hnb62 := NB444_435.out
                         have hnc62 := NB435_444.out
                         have hnb63 := NB444_445.out
                         have hnc63 := NB445_444.out
                         obtain ⟨hcz64_0, hcz64_1, hcz64_2, hcz64_3, hcz64_4, hcz64_5, hcz64_6, hfz64_0, hfz64_1, hfz64_2, hfz64_3, hfz64_4, hfz64_5, hfz64_6⟩ := cz7 (w := wc) BK444.out
                         have hnb65 := NB445_435.out
                         have hnc65 := NB435_445.out
                         obtain ⟨hcz66_0, hcz66_1, hcz66_2, hcz66_3, hcz66_4, hfz66_0, hfz66_1, hfz66_2, hfz66_3, hfz66_4⟩ := cz5 (w := wc) BK445.out
                         go_wp2_with (first | ((with_reducible refine gate_callee (f := 31) rfl ?_); refine goesL_ (some 73) rfl rfl Try.func31 (by kernel_rfl) rfl #[.agg #[.int .i64 x4_1, .int .i64 x446001_13, .int .i64 x446002_24, .int .i64 x446003_32, .int .i32 ((Int.tdiv a0 1048576) % 32)]] rfl (m_8) ?_; (with_reducible refine (d3E.calls kj48 x4_1 x446001_13 x446002_24 x446003_32 ((Int.tdiv a0 1048576) % 32) t447 true _ A59.out).mono ?_); rintro e w67 ⟨rfl, hb⟩; refine ⟨_, rfl, ?_⟩; have n0_ := Aside0.mk (blk_below (g := gb435) (o := .cells #[.int .i64 x436000_1, .int .i64 x436001_1, .int .i64 x436002_1, .int .i64 x436003_1, .int .i32 x436004_1] 32 (0, 0)) (m_30) hb); have n1_ := Aside0.mk (blk_below (g := gb444) (o := .cells #[.int .u32 t436, .int .u32 t437, .int .u32 t438, .int .i64 t439, .bool t440, .bool t441, .bool t442] 69 (0, 0)) (m_31) hb); have n2_ := Aside0.mk (blk_below (g := gb445) (o := .cells #[.int .i64 x4_1, .int .i64 x446001_13, .int .i64 x446002_24, .int .i64 x446003_32, .int .i32 ((Int.tdiv a0 1048576) % 32)] 32 (0, 0)) (m_42) hb); have n3_ := Aside0.mk (below_step (m_7) hb); clear BK435; clear BK444; clear BK445; clear HB; have BK435 := n0_; have BK444 := n1_; have BK445 := n2_; have HB := n3_; clear n0_ n1_ n2_ n3_; (try clear hb); (try clear hb2); (try clear hk); (try clear hi); obtain ⟨hcz68_0, hcz68_1, hcz68_2, hcz68_3, hcz68_4, hfz68_0, hfz68_1, hfz68_2, hfz68_3, hfz68_4⟩ := cz5 (w := w67) BK445.out; obtain ⟨hcz69_0, hcz69_1, hcz69_2, hcz69_3, hcz69_4, hfz69_0, hfz69_1, hfz69_2, hfz69_3, hfz69_4⟩ := cz5 (w := w67) BK435.out))
                         refine bodyPost_ret (results_ct rfl _ _ gb435 32 #[.int .i64 x4_1, .int .i64 x446001_13, .int .i64 x446002_24, .int .i64 x446003_32, .int .i32 ((Int.tdiv a0 1048576) % 32)] (0, 0) _ rfl (q_6) Try.underlying32 rfl (by kernel_rfl)) rfl ?_
                         exact ⟨m_3, m_7⟩
                       · rw [if_neg c61] at H
                         have c61b0 : (t447 == a0) = false := beq_eq_false_iff_ne.mpr c61
                         have c61b1 : (t447 != a0) = true := bne_iff_ne.mpr c61
                         have H' := Aside0.mk H
                         clear H
                         have hnb70 := NB444_435.out
                         have hnc70 := NB435_444.out
                         have hnb71 := NB444_445.out
                         have hnc71 := NB445_444.out
                         obtain ⟨hcz72_0, hcz72_1, hcz72_2, hcz72_3, hcz72_4, hcz72_5, hcz72_6, hfz72_0, hfz72_1, hfz72_2, hfz72_3, hfz72_4, hfz72_5, hfz72_6⟩ := cz7 (w := wc) BK444.out
                         have hnb73 := NB445_435.out
                         have hnc73 := NB435_445.out
                         obtain ⟨hcz74_0, hcz74_1, hcz74_2, hcz74_3, hcz74_4, hfz74_0, hfz74_1, hfz74_2, hfz74_3, hfz74_4⟩ := cz5 (w := wc) BK445.out
                         go_wp2_with (first | ((with_reducible refine gate_callee (f := 31) rfl ?_); refine goesL_ (some 73) rfl rfl Try.func31 (by kernel_rfl) rfl #[.agg #[.int .i64 x4_1, .int .i64 x446001_13, .int .i64 x446002_24, .int .i64 x446003_32, .int .i32 ((Int.tdiv a0 1048576) % 32)]] rfl (m_8) ?_; (with_reducible refine (d3E.calls kj48 x4_1 x446001_13 x446002_24 x446003_32 ((Int.tdiv a0 1048576) % 32) t447 true _ A59.out).mono ?_); rintro e w75 ⟨rfl, hb⟩; refine ⟨_, rfl, ?_⟩; have n0_ := Aside0.mk (blk_below (g := gb435) (o := .cells #[.int .i64 x436000_1, .int .i64 x436001_1, .int .i64 x436002_1, .int .i64 x436003_1, .int .i32 x436004_1] 32 (0, 0)) (m_30) hb); have n1_ := Aside0.mk (blk_below (g := gb444) (o := .cells #[.int .u32 t436, .int .u32 t437, .int .u32 t438, .int .i64 t439, .bool t440, .bool t441, .bool t442] 69 (0, 0)) (m_31) hb); have n2_ := Aside0.mk (blk_below (g := gb445) (o := .cells #[.int .i64 x4_1, .int .i64 x446001_13, .int .i64 x446002_24, .int .i64 x446003_32, .int .i32 ((Int.tdiv a0 1048576) % 32)] 32 (0, 0)) (m_42) hb); have n3_ := Aside0.mk (below_step (m_7) hb); clear BK435; clear BK444; clear BK445; clear HB; have BK435 := n0_; have BK444 := n1_; have BK445 := n2_; have HB := n3_; clear n0_ n1_ n2_ n3_; (try clear hb); (try clear hb2); (try clear hk); (try clear hi)))
                         go_roundg kj48
                         case measure => have := HK1.out; have := HJ4.out; have := HJ13.out; have := HJ24.out; have := HJ32.out; have := HJ40.out; have := HJ48.out; omega
                         case rel => exact ⟨(wrap64 (x4_1 + 1)), (x436000_1), (x436001_1), (x436002_1), (x436003_1), (x436004_1), (m_5), H', ⟨m_52⟩, ⟨m_16⟩, ⟨m_7⟩⟩
                     · replace c60 := Bool.eq_false_iff.mpr c60
                       subst c60
                       have H1 : (d3D.l0 kj48 a0 (wrap64 (x4_1 + 1))) = some (r1, r2, r3, r4, r5, r6) := by rw [if_neg (show ¬ (false = true) by decide)] at H; exact H
                       clear H
                       have H := H1
                       clear H1
                       have H' := Aside0.mk H
                       clear H
                       have hnb76 := NB444_435.out
                       have hnc76 := NB435_444.out
                       have hnb77 := NB444_445.out
                       have hnc77 := NB445_444.out
                       obtain ⟨hcz78_0, hcz78_1, hcz78_2, hcz78_3, hcz78_4, hcz78_5, hcz78_6, hfz78_0, hfz78_1, hfz78_2, hfz78_3, hfz78_4, hfz78_5, hfz78_6⟩ := cz7 (w := wc) BK444.out
                       have hnb79 := NB445_435.out
                       have hnc79 := NB435_445.out
                       obtain ⟨hcz80_0, hcz80_1, hcz80_2, hcz80_3, hcz80_4, hfz80_0, hfz80_1, hfz80_2, hfz80_3, hfz80_4⟩ := cz5 (w := wc) BK445.out
                       go_wp2_with (first | ((with_reducible refine gate_callee (f := 31) rfl ?_); refine goesL_ (some 73) rfl rfl Try.func31 (by kernel_rfl) rfl #[.agg #[.int .i64 x4_1, .int .i64 x446001_13, .int .i64 x446002_24, .int .i64 x446003_32, .int .i32 ((Int.tdiv a0 1048576) % 32)]] rfl (m_8) ?_; (with_reducible refine (d3E.calls kj48 x4_1 x446001_13 x446002_24 x446003_32 ((Int.tdiv a0 1048576) % 32) t447 false _ A59.out).mono ?_); rintro e w81 ⟨rfl, hb⟩; refine ⟨_, rfl, ?_⟩; have n0_ := Aside0.mk (blk_below (g := gb435) (o := .cells #[.int .i64 x436000_1, .int .i64 x436001_1, .int .i64 x436002_1, .int .i64 x436003_1, .int .i32 x436004_1] 32 (0, 0)) (m_30) hb); have n1_ := Aside0.mk (blk_below (g := gb444) (o := .cells #[.int .u32 t436, .int .u32 t437, .int .u32 t438, .int .i64 t439, .bool t440, .bool t441, .bool t442] 69 (0, 0)) (m_31) hb); have n2_ := Aside0.mk (blk_below (g := gb445) (o := .cells #[.int .i64 x4_1, .int .i64 x446001_13, .int .i64 x446002_24, .int .i64 x446003_32, .int .i32 ((Int.tdiv a0 1048576) % 32)] 32 (0, 0)) (m_42) hb); have n3_ := Aside0.mk (below_step (m_7) hb); clear BK435; clear BK444; clear BK445; clear HB; have BK435 := n0_; have BK444 := n1_; have BK445 := n2_; have HB := n3_; clear n0_ n1_ n2_ n3_; (try clear hb); (try clear hb2); (try clear hk); (try clear hi)))
                       go_roundg kj48
                       case measure => have := HK1.out; have := HJ4.out; have := HJ13.out; have := HJ24.out; have := HJ32.out; have := HJ40.out; have := HJ48.out; omega
                       case rel => exact ⟨(wrap64 (x4_1 + 1)), (x436000_1), (x436001_1), (x436002_1), (x436003_1), (x436004_1), (m_5), H', ⟨m_52⟩, ⟨m_16⟩, ⟨m_7⟩⟩
                   · rw [if_neg c58] at H
                     have c58b0 : (t439 == 6) = false := beq_eq_false_iff_ne.mpr c58
                     have c58b1 : (t439 != 6) = true := bne_iff_ne.mpr c58
                     replace H := Option.bind_eq_some_iff.mp H
                     obtain ⟨⟨t449, t450⟩, A820, H⟩ := H
                     replace H : (if t450 = true then (if t449 = a0 then (some (x4_1, x446001_13, x446002_24, x446003_32, x446004_48, true)) else (d3D.l0 kj48 a0 (wrap64 (x4_1 + 1)))) else (d3D.l0 kj48 a0 (wrap64 (x4_1 + 1)))) = some (r1, r2, r3, r4, r5, r6) := H
                     have A82 := Aside0.mk A820
                     clear A820
                     by_cases c83 : t450 = true
                     · subst c83
                       have H1 : (if t449 = a0 then (some (x4_1, x446001_13, x446002_24, x446003_32, x446004_48, true)) else (d3D.l0 kj48 a0 (wrap64 (x4_1 + 1)))) = some (r1, r2, r3, r4, r5, r6) := by rw [if_pos rfl] at H; exact H
                       clear H
                       have H := H1
                       clear H1
                       by_cases c84 : t449 = a0
                       · rw [if_pos c84] at H
                         have c84b0 : (t449 == a0) = true := beq_iff_eq.mpr c84
                         have c84b1 : (t449 != a0) = false := bne_eq_false_iff_eq.mpr c84
                         clear c84
                         simp only [Option.some.injEq, Prod.mk.injEq] at H
                         obtain ⟨rfl, rfl, rfl, rfl, rfl, rfl⟩ := H
                         have hnb85 := NB444_435.out
                         have hnc85 := NB435_444.out
                         have hnb86 := NB444_445.out
                         have hnc86 := NB445_444.out
                         obtain ⟨hcz87_0, hcz87_1, hcz87_2, hcz87_3, hcz87_4, hcz87_5, hcz87_6, hfz87_0, hfz87_1, hfz87_2, hfz87_3, hfz87_4, hfz87_5, hfz87_6⟩ := cz7 (w := wc) BK444.out
                         have hnb88 := NB445_435.out
                         have hnc88 := NB435_445.out
                         obtain ⟨hcz89_0, hcz89_1, hcz89_2, hcz89_3, hcz89_4, hfz89_0, hfz89_1, hfz89_2, hfz89_3, hfz89_4⟩ := cz5 (w := wc) BK445.out
                         go_wp2_with (first | ((with_reducible refine gate_callee (f := 31) rfl ?_); refine goesL_ (some 73) rfl rfl Try.func31 (by kernel_rfl) rfl #[.agg #[.int .i64 x4_1, .int .i64 x446001_13, .int .i64 x446002_24, .int .i64 x446003_32, .int .i32 x446004_48]] rfl (m_8) ?_; (with_reducible refine (d3E.calls kj48 x4_1 x446001_13 x446002_24 x446003_32 x446004_48 t449 true _ A82.out).mono ?_); rintro e w90 ⟨rfl, hb⟩; refine ⟨_, rfl, ?_⟩; have n0_ := Aside0.mk (blk_below (g := gb435) (o := .cells #[.int .i64 x436000_1, .int .i64 x436001_1, .int .i64 x436002_1, .int .i64 x436003_1, .int .i32 x436004_1] 32 (0, 0)) (m_16) hb); have n1_ := Aside0.mk (blk_below (g := gb444) (o := .cells #[.int .u32 t436, .int .u32 t437, .int .u32 t438, .int .i64 t439, .bool t440, .bool t441, .bool t442] 69 (0, 0)) (m_29) hb); have n2_ := Aside0.mk (blk_below (g := gb445) (o := .cells #[.int .i64 x4_1, .int .i64 x446001_13, .int .i64 x446002_24, .int .i64 x446003_32, .int .i32 x446004_48] 32 (0, 0)) (m_36) hb); have n3_ := Aside0.mk (below_step (m_7) hb); clear BK435; clear BK444; clear BK445; clear HB; have BK435 := n0_; have BK444 := n1_; have BK445 := n2_; have HB := n3_; clear n0_ n1_ n2_ n3_; (try clear hb); (try clear hb2); (try clear hk); (try clear hi); obtain ⟨hcz91_0, hcz91_1, hcz91_2, hcz91_3, hcz91_4, hfz91_0, hfz91_1, hfz91_2, hfz91_3, hfz91_4⟩ := cz5 (w := w90) BK445.out; obtain ⟨hcz92_0, hcz92_1, hcz92_2, hcz92_3, hcz92_4, hfz92_0, hfz92_1, hfz92_2, hfz92_3, hfz92_4⟩ := cz5 (w := w90) BK435.out))
                         refine bodyPost_ret (results_ct rfl _ _ gb435 32 #[.int .i64 x4_1, .int .i64 x446001_13, .int .i64 x446002_24, .int .i64 x446003_32, .int .i32 x446004_48] (0, 0) _ rfl (q_6) Try.underlying32 rfl (by kernel_rfl)) rfl ?_
                         exact ⟨m_3, m_7⟩
                       · rw [if_neg c84] at H
                         have c84b0 : (t449 == a0) = false := beq_eq_false_iff_ne.mpr c84
                         have c84b1 : (t449 != a0) = true := bne_iff_ne.mpr c84
                         have H' := Aside0.mk H
                         clear H
                         have hnb93 := NB444_435.out
                         have hnc93 := NB435_444.out
                         have hnb94 := NB444_445.out
                         have hnc94 := NB445_444.out
                         obtain ⟨hcz95_0, hcz95_1, hcz95_2, hcz95_3, hcz95_4, hcz95_5, hcz95_6, hfz95_0, hfz95_1, hfz95_2, hfz95_3, hfz95_4, hfz95_5, hfz95_6⟩ := cz7 (w := wc) BK444.out
                         have hnb96 := NB445_435.out
                         have hnc96 := NB435_445.out
                         obtain ⟨hcz97_0, hcz97_1, hcz97_2, hcz97_3, hcz97_4, hfz97_0, hfz97_1, hfz97_2, hfz97_3, hfz97_4⟩ := cz5 (w := wc) BK445.out
                         go_wp2_with (first | ((with_reducible refine gate_callee (f := 31) rfl ?_); refine goesL_ (some 73) rfl rfl Try.func31 (by kernel_rfl) rfl #[.agg #[.int .i64 x4_1, .int .i64 x446001_13, .int .i64 x446002_24, .int .i64 x446003_32, .int .i32 x446004_48]] rfl (m_8) ?_; (with_reducible refine (d3E.calls kj48 x4_1 x446001_13 x446002_24 x446003_32 x446004_48 t449 true _ A82.out).mono ?_); rintro e w98 ⟨rfl, hb⟩; refine ⟨_, rfl, ?_⟩; have n0_ := Aside0.mk (blk_below (g := gb435) (o := .cells #[.int .i64 x436000_1, .int .i64 x436001_1, .int .i64 x436002_1, .int .i64 x436003_1, .int .i32 x436004_1] 32 (0, 0)) (m_16) hb); have n1_ := Aside0.mk (blk_below (g := gb444) (o := .cells #[.int .u32 t436, .int .u32 t437, .int .u32 t438, .int .i64 t439, .bool t440, .bool t441, .bool t442] 69 (0, 0)) (m_29) hb); have n2_ := Aside0.mk (blk_below (g := gb445) (o := .cells #[.int .i64 x4_1, .int .i64 x446001_13, .int .i64 x446002_24, .int .i64 x446003_32, .int .i32 x446004_48] 32 (0, 0)) (m_36) hb); have n3_ := Aside0.mk (below_step (m_7) hb); clear BK435; clear BK444; clear BK445; clear HB; have BK435 := n0_; have BK444 := n1_; have BK445 := n2_; have HB := n3_; clear n0_ n1_ n2_ n3_; (try clear hb); (try clear hb2); (try clear hk); (try clear hi)))
                         go_roundg kj48
                         case measure => have := HK1.out; have := HJ4.out; have := HJ13.out; have := HJ24.out; have := HJ32.out; have := HJ40.out; have := HJ48.out; omega
                         case rel => exact ⟨(wrap64 (x4_1 + 1)), (x436000_1), (x436001_1), (x436002_1), (x436003_1), (x436004_1), (m_5), H', ⟨m_52⟩, ⟨m_16⟩, ⟨m_7⟩⟩
                     · replace c83 := Bool.eq_false_iff.mpr c83
                       subst c83
                       have H1 : (d3D.l0 kj48 a0 (wrap64 (x4_1 + 1))) = some (r1, r2, r3, r4, r5, r6) := by rw [if_neg (show ¬ (false = true) by decide)] at H; exact H
                       clear H
                       have H := H1
                       clear H1
                       have H' := Aside0.mk H
                       clear H
                       have hnb99 := NB444_435.out
                       have hnc99 := NB435_444.out
                       have hnb100 := NB444_445.out
                       have hnc100 := NB445_444.out
                       obtain ⟨hcz101_0, hcz101_1, hcz101_2, hcz101_3, hcz101_4, hcz101_5, hcz101_6, hfz101_0, hfz101_1, hfz101_2, hfz101_3, hfz101_4, hfz101_5, hfz101_6⟩ := cz7 (w := wc) BK444.out
                       have hnb102 := NB445_435.out
                       have hnc102 := NB435_445.out
                       obtain ⟨hcz103_0, hcz103_1, hcz103_2, hcz103_3, hcz103_4, hfz103_0, hfz103_1, hfz103_2, hfz103_3, hfz103_4⟩ := cz5 (w := wc) BK445.out
                       go_wp2_with (first | ((with_reducible refine gate_callee (f := 31) rfl ?_); refine goesL_ (some 73) rfl rfl Try.func31 (by kernel_rfl) rfl #[.agg #[.int .i64 x4_1, .int .i64 x446001_13, .int .i64 x446002_24, .int .i64 x446003_32, .int .i32 x446004_48]] rfl (m_8) ?_; (with_reducible refine (d3E.calls kj48 x4_1 x446001_13 x446002_24 x446003_32 x446004_48 t449 false _ A82.out).mono ?_); rintro e w104 ⟨rfl, hb⟩; refine ⟨_, rfl, ?_⟩; have n0_ := Aside0.mk (blk_below (g := gb435) (o := .cells #[.int .i64 x436000_1, .int .i64 x436001_1, .int .i64 x436002_1, .int .i64 x436003_1, .int .i32 x436004_1] 32 (0, 0)) (m_16) hb); have n1_ := Aside0.mk (blk_below (g := gb444) (o := .cells #[.int .u32 t436, .int .u32 t437, .int .u32 t438, .int .i64 t439, .bool t440, .bool t441, .bool t442] 69 (0, 0)) (m_29) hb); have n2_ := Aside0.mk (blk_below (g := gb445) (o := .cells #[.int .i64 x4_1, .int .i64 x446001_13, .int .i64 x446002_24, .int .i64 x446003_32, .int .i32 x446004_48] 32 (0, 0)) (m_36) hb); have n3_ := Aside0.mk (below_step (m_7) hb); clear BK435; clear BK444; clear BK445; clear HB; have BK435 := n0_; have BK444 := n1_; have BK445 := n2_; have HB := n3_; clear n0_ n1_ n2_ n3_; (try clear hb); (try clear hb2); (try clear hk); (try clear hi)))
                       go_roundg kj48
                       case measure => have := HK1.out; have := HJ4.out; have := HJ13.out; have := HJ24.out; have := HJ32.out; have := HJ40.out; have := HJ48.out; omega
                       case rel => exact ⟨(wrap64 (x4_1 + 1)), (x436000_1), (x436001_1), (x436002_1), (x436003_1), (x436004_1), (m_5), H', ⟨m_52⟩, ⟨m_16⟩, ⟨m_7⟩⟩
   · rw [if_neg c3] at H
     have c3b0 : decide (x4_1 ≤ 48) = false := decide_eq_false c3
     clear c3
     simp only [Option.some.injEq, Prod.mk.injEq] at H
     obtain ⟨rfl, rfl, rfl, rfl, rfl, rfl⟩ := H
     obtain ⟨hcz105_0, hcz105_1, hcz105_2, hcz105_3, hcz105_4, hfz105_0, hfz105_1, hfz105_2, hfz105_3, hfz105_4⟩ := cz5 (w := wr) BK435.out
     go_wp2
     refine bodyPost_ret (results_ct rfl _ _ gb435 32 #[.int .i64 0, .int .i64 0, .int .i64 0, .int .i64 0, .int .i32 0] (0, 0) _ rfl (q_6) Try.underlying32 rfl (by kernel_rfl)) rfl ?_
     exact ⟨m_3, m_38⟩
end Go.Proofs.Ytihecimbhhlhaaa.PRs
