/- pintlelaw12_lives: a plain function with the same answers as the program's, and the proof of it, as a program has written them. -/
import Derived.Test.YteglbikbnlebpaaPsBase
import Derived.Test.YteglbikbnlebpaaPsShapes
import Derived.Test.YteglbikbnlebpaaPsPseudoSet
import Derived.Test.YteglbikbnlebpaaPsPintleref12Same
namespace Go.Proofs.Yteglbikbnlebpaa.PPs
open Go.RowKit Go.Proofs.YteglbikbnlebpaaW.PrintWords Go.Proofs.YteglbikbnlebpaaW.PrintLast Go.Proofs.YteglbikbnlebpaaW.PrintMore
attribute [local go_sem] max2_int min2_int max_two min_two max_three min_three max_four min_four   -- for this text's walks alone
set_option linter.unusedVariables false
set_option linter.unusedSimpArgs false

attribute [local go_sem high] eqA38
/-! ### pintlelaw12_lives: function 9 -/
def pintlelaw12_lives.f (k : Nat)  : Option (Bool) := (pseudo_Set.f k 5 2048).bind fun t204 => ((pintleref12_Same.f k t204 (([(⟨42, 5, 0, 0, 4096⟩ : S38), (⟨19, 5, 5, 0, (-2048)⟩ : S38)] : List (S38)))).bind fun t210 => (some t210))
theorem pintlelaw12_lives.mono : ∀ k, LeO (pintlelaw12_lives.f k ) (pintlelaw12_lives.f (k + 1) ) := by
  intro  k
  unfold pintlelaw12_lives.f
  repeat' first
      | (with_reducible exact pintleref12_Same.mono _ _ _)
      | (with_reducible exact pseudo_Set.mono _ _ _)
      | (with_reducible exact LeO.refl _)
      | (with_reducible exact LeO.none _)
      | (with_reducible refine LeO.ite ?_ ?_)
      | (with_reducible refine LeO.bind ?_ (fun _ => ?_))
      | exact pintleref12_Same.mono _ _ _
      | exact pseudo_Set.mono _ _ _
      | exact LeO.none _
      | refine LeO.ite ?_ ?_
      | refine LeO.bind ?_ (fun _ => ?_)
set_option maxHeartbeats 8000000 in
set_option maxRecDepth 100000 in
theorem pintlelaw12_lives.calls (k : Nat)  (r : Bool) (w : World) (h : pintlelaw12_lives.f k  = some r) :
    Calls Try.prog 9 #[] w fun e w' => e = .returned (.bool r) ∧ Below w.heap.size w w' := by
  have hu38 := Try.underlying38
  have HB := Aside0.mk (Below.refl w.heap.size w)
  have H : ((pseudo_Set.f k 5 2048).bind fun t204 => ((pintleref12_Same.f k t204 (([(⟨42, 5, 0, 0, 4096⟩ : S38), (⟨19, 5, 5, 0, (-2048)⟩ : S38)] : List (S38)))).bind fun t210 => (some t210))) = some r := h
  clear h
  replace H := Option.bind_eq_some_iff.mp H
  obtain ⟨t204, A10, H⟩ := H
  replace H : ((pintleref12_Same.f k t204 (([(⟨42, 5, 0, 0, 4096⟩ : S38), (⟨19, 5, 5, 0, (-2048)⟩ : S38)] : List (S38)))).bind fun t210 => (some t210)) = some r := H
  have A1 := Aside0.mk A10
  clear A10
  obtain ⟨y207, hy207⟩ : ∃ y_ : List (S38), y_ = (([(⟨42, 5, 0, 0, 4096⟩ : S38), (⟨19, 5, 5, 0, (-2048)⟩ : S38)] : List (S38))) := ⟨_, rfl⟩
  replace H : ((pintleref12_Same.f k t204 y207).bind fun t210 => (some t210)) = some r := by first | (rw [hy207]; with_reducible exact H) | (have H2_ := (Option.bind_some _ _).symm.trans H; rw [hy207]; with_reducible exact H2_) | (have H2_ := (Option.bind_some _ _).symm.trans H; with_reducible exact H2_) | with_reducible exact H | (rw [hy207]; exact H) | exact H
  have Ny207 := Aside0.mk hy207
  clear hy207
  replace H := Option.bind_eq_some_iff.mp H
  obtain ⟨t210, A20, H⟩ := H
  replace H : (some t210) = some r := H
  have A2 := Aside0.mk A20
  clear A20
  obtain rfl := Option.some.inj H
  go_enter Try.func9, Try.ntmps9
  go_wp2_with (first | ((with_reducible refine gate_callee (f := 4) rfl ?_); refine goesL_ (some 1) rfl rfl Try.func4 (by kernel_rfl) rfl #[.int .i64 5, .int .i32 2048] rfl (by (try simp only [List.map_toArray, List.map_cons, List.map_nil]); first | done | rfl | (simp only [List.length_drop, List.length_take]; rfl)) ?_; (with_reducible refine (pseudo_Set.calls k 5 2048 t204 _ A1.out).mono ?_); rintro e w3 ⟨v205, rfl, ho0, hb⟩; refine ⟨_, rfl, ?_⟩; have n0_ := Aside0.mk (Kd.R_lower ho0 (below_size (by repeat (first | (with_reducible first | exact HB.out | apply below_alloc | apply pw_below_drewN | apply below_drew1) | exact HB.out)))); have n1_ := Aside0.mk (below_step (by repeat (first | (with_reducible first | exact HB.out | apply below_alloc | apply pw_below_drewN | apply below_drew1) | exact HB.out)) hb); clear HB; have HO206 := n0_; have HB := n1_; clear n0_ n1_; (try clear hb); (try clear hb2); (try clear hk); (try clear hi); (try clear ho0)) | ((with_reducible refine gate_dst (N := 4) rfl ?_); refine Kd.R_lit k38 _ 38 ?hg (N := 4) ?hd (xs := ([(⟨42, 5, 0, 0, 4096⟩ : S38), (⟨19, 5, 5, 0, (-2048)⟩ : S38)] : List (S38))) (inner := [.int .i64 42, .int .i64 5, .int .i64 0, .int .i64 0, .int .i32 4096, .int .i64 19, .int .i64 5, .int .i64 5, .int .i64 0, .int .i32 (-2048)]) (ok := fun _ => True) (okp := fun _ => True) ?hr ?hp (fun _ hk => hk) trivial (Below.refl _ _) (Nat.le_refl _) (by simp) ?_; (case hd => rfl); (case hg => rfl); (case hr => first | (go_simp; done) | (go_simp; rfl)); (case hp => exact (Reps.c5 (show Kd.M k38 _ _ _ (⟨42, 5, 0, 0, 4096⟩ : S38) [.int .i64 42, .int .i64 5, .int .i64 0, .int .i64 0, .int .i32 4096] from (k38_mkM _ _ _ (⟨42, 5, 0, 0, 4096⟩ : S38) )) (Reps.c5 (show Kd.M k38 _ _ _ (⟨19, 5, 5, 0, (-2048)⟩ : S38) [.int .i64 19, .int .i64 5, .int .i64 5, .int .i64 0, .int .i32 (-2048)] from (k38_mkM _ _ _ (⟨19, 5, 5, 0, (-2048)⟩ : S38) )) (Reps.none _ _)))); intro v208 w4 ho5 hb hg_ hnew_; clear hg_ hnew_; (first | rw [← Ny207.out] at ho5 | (simp only [Int.reduceToNat] at ho5; rw [← Ny207.out] at ho5)); have n0_ := Aside0.mk (Kd.R_elder' (by (with_reducible repeat (first | apply Kd.R_alloc | apply Kd.R_drewN | apply Kd.R_drew)); exact HO206.out) (Kd.R_base ho5) hb); have n1_ := Aside0.mk (Kd.R_lower (Kd.R_new' ho5 (Kd.R_lt (by (with_reducible repeat (first | apply Kd.R_alloc | apply Kd.R_drewN | apply Kd.R_drew)); exact HO206.out))) (below_size (by repeat (first | (with_reducible first | exact HB.out | apply below_alloc | apply pw_below_drewN | apply below_drew1) | exact HB.out)))); have n2_ := Aside0.mk (below_step (by repeat (first | (with_reducible first | exact HB.out | apply below_alloc | apply pw_below_drewN | apply below_drew1) | exact HB.out)) hb); clear HO206; clear HB; have HO206 := n0_; have HO209 := n1_; have HB := n2_; clear n0_ n1_ n2_; clear hb ho5; obtain ⟨Ao6, co6, eo6⟩ := Kd.R_slice HO206.out; subst eo6; obtain ⟨Ao7, co7, eo7⟩ := Kd.R_slice HO209.out; subst eo7) | ((with_reducible refine gate_callee (f := 14) rfl ?_); refine goesL_ (some 5) rfl rfl Try.func14 (by kernel_rfl) rfl #[.slice Ao6 t204.length co6, .slice Ao7 y207.length co7] rfl (by (try simp only [List.map_toArray, List.map_cons, List.map_nil]); first | done | rfl | (simp only [List.length_drop, List.length_take]; rfl)) ?_; (with_reducible refine (pintleref12_Same.calls k _ _ t204 _ _ y207 t210 _ ?side1 ?side2 ?side3 ?side4 A2.out).mono ?_); (case side1 => repeat (first | exact (Kd.R_reads' HO206.out).2.2 | (with_reducible refine Kd.C_alloc ?_ _) | (with_reducible refine Kd.C_drewN ?_ _) | (with_reducible refine Kd.C_drew ?_))); (case side2 => exact (Kd.R_reads' HO206.out).2.1); (case side3 => repeat (first | exact (Kd.R_reads' HO209.out).2.2 | (with_reducible refine Kd.C_alloc ?_ _) | (with_reducible refine Kd.C_drewN ?_ _) | (with_reducible refine Kd.C_drew ?_))); (case side4 => exact (Kd.R_reads' HO209.out).2.1); rintro e w' ⟨rfl, ⟨nd, rfl⟩⟩; refine ⟨_, rfl, ?_⟩))
  go_ret
  exact ⟨by first | rfl | (simp [errW_none, errW_some] <;> rfl) | (simp [*, errW_none, errW_some] <;> rfl), by repeat (first | (with_reducible first | exact HB.out | apply below_alloc | apply pw_below_drewN | apply below_drew1) | exact HB.out)⟩

-- NOT PRINTED: function 3 (pintlelaw12_PseudoDoes)
end Go.Proofs.Yteglbikbnlebpaa.PPs
