/- pintleref03_Decode: a plain function with the same answers as the program's, and the proof of it, as a program has written them. -/
import Derived.Test.YtmjiimajbaeicaaInBase
import Derived.Test.YtmjiimajbaeicaaInPintleref03Of
import Derived.Test.YtmjiimajbaeicaaInPintleref02Bits
import Derived.Test.YtmjiimajbaeicaaInPintleref03Encode
namespace Go.Proofs.Ytmjiimajbaeicaa.PInst
open Go.RowKit Go.Proofs.YtmjiimajbaeicaaW.PrintWords Go.Proofs.YtmjiimajbaeicaaW.PrintLast Go.Proofs.YtmjiimajbaeicaaW.PrintMore
attribute [local go_sem] max2_int min2_int max_two min_two max_three min_three max_four min_four   -- for this text's walks alone
set_option linter.unusedVariables false
set_option linter.unusedSimpArgs false


/-! ### pintleref03_Decode: function 10 -/
mutual
def pintleref03_Decode.l0 : Nat → Int → Int → Option (Int × Int × Int × Int × Int × Bool)
  | 0, _, _ => none
  | k + 1, x0, x4 => if x4 ≤ 48 then ((pintleref03_Of.f k x4).bind fun bt284 => (if bt284.2.2.2.2.2.2.2 = true then (pintleref03_Decode.j1 k x0 x4 ((Int.tmod x0 128) != bt284.1) bt284.1 bt284.2.1 bt284.2.2.1 bt284.2.2.2.1 bt284.2.2.2.2.1 bt284.2.2.2.2.2.1 bt284.2.2.2.2.2.2.1) else (pintleref03_Decode.j1 k x0 x4 false bt284.1 bt284.2.1 bt284.2.2.1 bt284.2.2.2.1 bt284.2.2.2.2.1 bt284.2.2.2.2.2.1 bt284.2.2.2.2.2.2.1))) else (some (0, 0, 0, 0, 0, false))
def pintleref03_Decode.j1 : Nat → Int → Int → Bool → Int → Int → Int → Int → Bool → Bool → Bool → Option (Int × Int × Int × Int × Int × Bool)
  | 0, _, _, _, _, _, _, _, _, _, _ => none
  | k + 1, x0, x4, x26, x293000, x293001, x293002, x293003, x293004, x293005, x293006 => if x26 = true then (pintleref03_Decode.l0 k x0 (wrap64 (x4 + 1))) else (if x293004 = true then (pintleref03_Decode.j2 k x0 x4 x293000 x293001 x293002 x293003 x293004 x293005 x293006 x4 ((Int.tdiv x0 128) % 32) 0 0 0) else (pintleref03_Decode.j2 k x0 x4 x293000 x293001 x293002 x293003 x293004 x293005 x293006 x4 0 0 0 0))
def pintleref03_Decode.j2 : Nat → Int → Int → Int → Int → Int → Int → Bool → Bool → Bool → Int → Int → Int → Int → Int → Option (Int × Int × Int × Int × Int × Bool)
  | 0, _, _, _, _, _, _, _, _, _, _, _, _, _, _ => none
  | k + 1, x0, x4, x293000, x293001, x293002, x293003, x293004, x293005, x293006, x294000, x294001, x294002, x294003, x294004 => if x293005 = true then (pintleref03_Decode.j3 k x0 x4 x293000 x293001 x293002 x293003 x293004 x293005 x293006 x294000 x294001 ((Int.tdiv x0 32768) % 32) x294003 x294004) else (pintleref03_Decode.j3 k x0 x4 x293000 x293001 x293002 x293003 x293004 x293005 x293006 x294000 x294001 x294002 x294003 x294004)
def pintleref03_Decode.j3 : Nat → Int → Int → Int → Int → Int → Int → Bool → Bool → Bool → Int → Int → Int → Int → Int → Option (Int × Int × Int × Int × Int × Bool)
  | 0, _, _, _, _, _, _, _, _, _, _, _, _, _, _ => none
  | k + 1, x0, x4, x293000, x293001, x293002, x293003, x293004, x293005, x293006, x294000, x294001, x294002, x294003, x294004 => if x293006 = true then (pintleref03_Decode.j4 k x0 x4 x293000 x293001 x293002 x293003 x293004 x293005 x293006 x294000 x294001 x294002 ((Int.tdiv x0 1048576) % 32) x294004) else (pintleref03_Decode.j4 k x0 x4 x293000 x293001 x293002 x293003 x293004 x293005 x293006 x294000 x294001 x294002 x294003 x294004)
def pintleref03_Decode.j4 : Nat → Int → Int → Int → Int → Int → Int → Bool → Bool → Bool → Int → Int → Int → Int → Int → Option (Int × Int × Int × Int × Int × Bool)
  | 0, _, _, _, _, _, _, _, _, _, _, _, _, _, _ => none
  | k + 1, x0, x4, x293000, x293001, x293002, x293003, x293004, x293005, x293006, x294000, x294001, x294002, x294003, x294004 => if x293003 > 0 then (pintleref03_Decode.j5 k x0 x4 (decide (x293003 < 6)) x293000 x293001 x293002 x293003 x293004 x293005 x293006 x294000 x294001 x294002 x294003 x294004) else (pintleref03_Decode.j5 k x0 x4 false x293000 x293001 x293002 x293003 x293004 x293005 x293006 x294000 x294001 x294002 x294003 x294004)
def pintleref03_Decode.j5 : Nat → Int → Int → Bool → Int → Int → Int → Int → Bool → Bool → Bool → Int → Int → Int → Int → Int → Option (Int × Int × Int × Int × Int × Bool)
  | 0, _, _, _, _, _, _, _, _, _, _, _, _, _, _, _ => none
  | k + 1, x0, x4, x57, x293000, x293001, x293002, x293003, x293004, x293005, x293006, x294000, x294001, x294002, x294003, x294004 => if x57 = true then ((pintleref02_Get.f k x293003 x0).bind fun t294 => (pintleref03_Decode.j6 k x0 x4 x293000 x293001 x293002 x293003 x293004 x293005 x293006 x294000 x294001 x294002 x294003 t294)) else (pintleref03_Decode.j6 k x0 x4 x293000 x293001 x293002 x293003 x293004 x293005 x293006 x294000 x294001 x294002 x294003 x294004)
def pintleref03_Decode.j6 : Nat → Int → Int → Int → Int → Int → Int → Bool → Bool → Bool → Int → Int → Int → Int → Int → Option (Int × Int × Int × Int × Int × Bool)
  | 0, _, _, _, _, _, _, _, _, _, _, _, _, _, _ => none
  | k + 1, x0, x4, x293000, x293001, x293002, x293003, x293004, x293005, x293006, x294000, x294001, x294002, x294003, x294004 => if x293003 = 6 then ((pintleref03_Encode.f k x294000 x294001 x294002 x294003 ((Int.tdiv x0 1048576) % 32)).bind fun bt295 => (if bt295.2 = true then (if bt295.1 = x0 then (some (x294000, x294001, x294002, x294003, (Int.tdiv x0 1048576) % 32, true)) else (pintleref03_Decode.l0 k x0 (wrap64 (x4 + 1)))) else (pintleref03_Decode.l0 k x0 (wrap64 (x4 + 1))))) else ((pintleref03_Encode.f k x294000 x294001 x294002 x294003 x294004).bind fun bt297 => (if bt297.2 = true then (if bt297.1 = x0 then (some (x294000, x294001, x294002, x294003, x294004, true)) else (pintleref03_Decode.l0 k x0 (wrap64 (x4 + 1)))) else (pintleref03_Decode.l0 k x0 (wrap64 (x4 + 1)))))
end
def pintleref03_Decode.f (k : Nat) (a0 : Int) : Option (Int × Int × Int × Int × Int × Bool) := pintleref03_Decode.l0 k a0 1
theorem pintleref03_Decode.mono_l : ∀ k, (∀ y0 y1, LeO (pintleref03_Decode.l0 k y0 y1) (pintleref03_Decode.l0 (k + 1) y0 y1)) ∧ (∀ y0 y1 y2 y3 y4 y5 y6 y7 y8 y9, LeO (pintleref03_Decode.j1 k y0 y1 y2 y3 y4 y5 y6 y7 y8 y9) (pintleref03_Decode.j1 (k + 1) y0 y1 y2 y3 y4 y5 y6 y7 y8 y9)) ∧ (∀ y0 y1 y2 y3 y4 y5 y6 y7 y8 y9 y10 y11 y12 y13, LeO (pintleref03_Decode.j2 k y0 y1 y2 y3 y4 y5 y6 y7 y8 y9 y10 y11 y12 y13) (pintleref03_Decode.j2 (k + 1) y0 y1 y2 y3 y4 y5 y6 y7 y8 y9 y10 y11 y12 y13)) ∧ (∀ y0 y1 y2 y3 y4 y5 y6 y7 y8 y9 y10 y11 y12 y13, LeO (pintleref03_Decode.j3 k y0 y1 y2 y3 y4 y5 y6 y7 y8 y9 y10 y11 y12 y13) (pintleref03_Decode.j3 (k + 1) y0 y1 y2 y3 y4 y5 y6 y7 y8 y9 y10 y11 y12 y13)) ∧ (∀ y0 y1 y2 y3 y4 y5 y6 y7 y8 y9 y10 y11 y12 y13, LeO (pintleref03_Decode.j4 k y0 y1 y2 y3 y4 y5 y6 y7 y8 y9 y10 y11 y12 y13) (pintleref03_Decode.j4 (k + 1) y0 y1 y2 y3 y4 y5 y6 y7 y8 y9 y10 y11 y12 y13)) ∧ (∀ y0 y1 y2 y3 y4 y5 y6 y7 y8 y9 y10 y11 y12 y13 y14, LeO (pintleref03_Decode.j5 k y0 y1 y2 y3 y4 y5 y6 y7 y8 y9 y10 y11 y12 y13 y14) (pintleref03_Decode.j5 (k + 1) y0 y1 y2 y3 y4 y5 y6 y7 y8 y9 y10 y11 y12 y13 y14)) ∧ (∀ y0 y1 y2 y3 y4 y5 y6 y7 y8 y9 y10 y11 y12 y13, LeO (pintleref03_Decode.j6 k y0 y1 y2 y3 y4 y5 y6 y7 y8 y9 y10 y11 y12 y13) (pintleref03_Decode.j6 (k + 1) y0 y1 y2 y3 y4 y5 y6 y7 y8 y9 y10 y11 y12 y13))
  | 0 => ⟨fun _ _ r h => by simp [pintleref03_Decode.l0] at h, fun _ _ _ _ _ _ _ _ _ _ r h => by simp [pintleref03_Decode.j1] at h, fun _ _ _ _ _ _ _ _ _ _ _ _ _ _ r h => by simp [pintleref03_Decode.j2] at h, fun _ _ _ _ _ _ _ _ _ _ _ _ _ _ r h => by simp [pintleref03_Decode.j3] at h, fun _ _ _ _ _ _ _ _ _ _ _ _ _ _ r h => by simp [pintleref03_Decode.j4] at h, fun _ _ _ _ _ _ _ _ _ _ _ _ _ _ _ r h => by simp [pintleref03_Decode.j5] at h, fun _ _ _ _ _ _ _ _ _ _ _ _ _ _ r h => by simp [pintleref03_Decode.j6] at h⟩
  | k + 1 => by
    obtain ⟨ih0, ih1, ih2, ih3, ih4, ih5, ih6⟩ := pintleref03_Decode.mono_l k
    refine ⟨?_, ?_, ?_, ?_, ?_, ?_, ?_⟩
    · intro y0 y1
      unfold pintleref03_Decode.l0
      repeat' first
      | (with_reducible exact ih0 _ _)
      | (with_reducible exact ih1 _ _ _ _ _ _ _ _ _ _)
      | (with_reducible exact ih2 _ _ _ _ _ _ _ _ _ _ _ _ _ _)
      | (with_reducible exact ih3 _ _ _ _ _ _ _ _ _ _ _ _ _ _)
      | (with_reducible exact ih4 _ _ _ _ _ _ _ _ _ _ _ _ _ _)
      | (with_reducible exact ih5 _ _ _ _ _ _ _ _ _ _ _ _ _ _ _)
      | (with_reducible exact ih6 _ _ _ _ _ _ _ _ _ _ _ _ _ _)
      | (with_reducible exact pintleref02_Get.mono _ _ _)
      | (with_reducible exact pintleref03_Encode.mono _ _ _ _ _ _)
      | (with_reducible exact pintleref03_Of.mono _ _)
      | (with_reducible exact LeO.refl _)
      | (with_reducible exact LeO.none _)
      | (with_reducible refine LeO.ite ?_ ?_)
      | (with_reducible refine LeO.bind ?_ (fun _ => ?_))
      | exact ih0 _ _
      | exact ih1 _ _ _ _ _ _ _ _ _ _
      | exact ih2 _ _ _ _ _ _ _ _ _ _ _ _ _ _
      | exact ih3 _ _ _ _ _ _ _ _ _ _ _ _ _ _
      | exact ih4 _ _ _ _ _ _ _ _ _ _ _ _ _ _
      | exact ih5 _ _ _ _ _ _ _ _ _ _ _ _ _ _ _
      | exact ih6 _ _ _ _ _ _ _ _ _ _ _ _ _ _
      | exact pintleref02_Get.mono _ _ _
      | exact pintleref03_Encode.mono _ _ _ _ _ _
      | exact pintleref03_Of.mono _ _
      | exact LeO.none _
      | refine LeO.ite ?_ ?_
      | refine LeO.bind ?_ (fun _ => ?_)
    · intro y0 y1 y2 y3 y4 y5 y6 y7 y8 y9
      unfold pintleref03_Decode.j1
      repeat' first
      | (with_reducible exact ih0 _ _)
      | (with_reducible exact ih1 _ _ _ _ _ _ _ _ _ _)
      | (with_reducible exact ih2 _ _ _ _ _ _ _ _ _ _ _ _ _ _)
      | (with_reducible exact ih3 _ _ _ _ _ _ _ _ _ _ _ _ _ _)
      | (with_reducible exact ih4 _ _ _ _ _ _ _ _ _ _ _ _ _ _)
      | (with_reducible exact ih5 _ _ _ _ _ _ _ _ _ _ _ _ _ _ _)
      | (with_reducible exact ih6 _ _ _ _ _ _ _ _ _ _ _ _ _ _)
      | (with_reducible exact pintleref02_Get.mono _ _ _)
      | (with_reducible exact pintleref03_Encode.mono _ _ _ _ _ _)
      | (with_reducible exact pintleref03_Of.mono _ _)
      | (with_reducible exact LeO.refl _)
      | (with_reducible exact LeO.none _)
      | (with_reducible refine LeO.ite ?_ ?_)
      | (with_reducible refine LeO.bind ?_ (fun _ => ?_))
      | exact ih0 _ _
      | exact ih1 _ _ _ _ _ _ _ _ _ _
      | exact ih2 _ _ _ _ _ _ _ _ _ _ _ _ _ _
      | exact ih3 _ _ _ _ _ _ _ _ _ _ _ _ _ _
      | exact ih4 _ _ _ _ _ _ _ _ _ _ _ _ _ _
      | exact ih5 _ _ _ _ _ _ _ _ _ _ _ _ _ _ _
      | exact ih6 _ _ _ _ _ _ _ _ _ _ _ _ _ _
      | exact pintleref02_Get.mono _ _ _
      | exact pintleref03_Encode.mono _ _ _ _ _ _
      | exact pintleref03_Of.mono _ _
      | exact LeO.none _
      | refine LeO.ite ?_ ?_
      | refine LeO.bind ?_ (fun _ => ?_)
    · intro y0 y1 y2 y3 y4 y5 y6 y7 y8 y9 y10 y11 y12 y13
      unfold pintleref03_Decode.j2
      repeat' first
      | (with_reducible exact ih0 _ _)
      | (with_reducible exact ih1 _ _ _ _ _ _ _ _ _ _)
      | (with_reducible exact ih2 _ _ _ _ _ _ _ _ _ _ _ _ _ _)
      | (with_reducible exact ih3 _ _ _ _ _ _ _ _ _ _ _ _ _ _)
      | (with_reducible exact ih4 _ _ _ _ _ _ _ _ _ _ _ _ _ _)
      | (with_reducible exact ih5 _ _ _ _ _ _ _ _ _ _ _ _ _ _ _)
      | (with_reducible exact ih6 _ _ _ _ _ _ _ _ _ _ _ _ _ _)
      | (with_reducible exact pintleref02_Get.mono _ _ _)
      | (with_reducible exact pintleref03_Encode.mono _ _ _ _ _ _)
      | (with_reducible exact pintleref03_Of.mono _ _)
      | (with_reducible exact LeO.refl _)
      | (with_reducible exact LeO.none _)
      | (with_reducible refine LeO.ite ?_ ?_)
      | (with_reducible refine LeO.bind ?_ (fun _ => ?_))
      | exact ih0 _ _
      | exact ih1 _ _ _ _ _ _ _ _ _ _
      | exact ih2 _ _ _ _ _ _ _ _ _ _ _ _ _ _
      | exact ih3 _ _ _ _ _ _ _ _ _ _ _ _ _ _
      | exact ih4 _ _ _ _ _ _ _ _ _ _ _ _ _ _
      | exact ih5 _ _ _ _ _ _ _ _ _ _ _ _ _ _ _
      | exact ih6 _ _ _ _ _ _ _ _ _ _ _ _ _ _
      | exact pintleref02_Get.mono _ _ _
      | exact pintleref03_Encode.mono _ _ _ _ _ _
      | exact pintleref03_Of.mono _ _
      | exact LeO.none _
      | refine LeO.ite ?_ ?_
      | refine LeO.bind ?_ (fun _ => ?_)
    · intro y0 y1 y2 y3 y4 y5 y6 y7 y8 y9 y10 y11 y12 y13
      unfold pintleref03_Decode.j3
      repeat' first
      | (with_reducible exact ih0 _ _)
      | (with_reducible exact ih1 _ _ _ _ _ _ _ _ _ _)
      | (with_reducible exact ih2 _ _ _ _ _ _ _ _ _ _ _ _ _ _)
      | (with_reducible exact ih3 _ _ _ _ _ _ _ _ _ _ _ _ _ _)
      | (with_reducible exact ih4 _ _ _ _ _ _ _ _ _ _ _ _ _ _)
      | (with_reducible exact ih5 _ _ _ _ _ _ _ _ _ _ _ _ _ _ _)
      | (with_reducible exact ih6 _ _ _ _ _ _ _ _ _ _ _ _ _ _)
      | (with_reducible exact pintleref02_Get.mono _ _ _)
      | (with_reducible exact pintleref03_Encode.mono _ _ _ _ _ _)
      | (with_reducible exact pintleref03_Of.mono _ _)
      | (with_reducible exact LeO.refl _)
      | (with_reducible exact LeO.none _)
      | (with_reducible refine LeO.ite ?_ ?_)
      | (with_reducible refine LeO.bind ?_ (fun _ => ?_))
      | exact ih0 _ _
      | exact ih1 _ _ _ _ _ _ _ _ _ _
      | exact ih2 _ _ _ _ _ _ _ _ _ _ _ _ _ _
      | exact ih3 _ _ _ _ _ _ _ _ _ _ _ _ _ _
      | exact ih4 _ _ _ _ _ _ _ _ _ _ _ _ _ _
      | exact ih5 _ _ _ _ _ _ _ _ _ _ _ _ _ _ _
      | exact ih6 _ _ _ _ _ _ _ _ _ _ _ _ _ _
      | exact pintleref02_Get.mono _ _ _
      | exact pintleref03_Encode.mono _ _ _ _ _ _
      | exact pintleref03_Of.mono _ _
      | exact LeO.none _
      | refine LeO.ite ?_ ?_
      | refine LeO.bind ?_ (fun _ => ?_)
    · intro y0 y1 y2 y3 y4 y5 y6 y7 y8 y9 y10 y11 y12 y13
      unfold pintleref03_Decode.j4
      repeat' first
      | (with_reducible exact ih0 _ _)
      | (with_reducible exact ih1 _ _ _ _ _ _ _ _ _ _)
      | (with_reducible exact ih2 _ _ _ _ _ _ _ _ _ _ _ _ _ _)
      | (with_reducible exact ih3 _ _ _ _ _ _ _ _ _ _ _ _ _ _)
      | (with_reducible exact ih4 _ _ _ _ _ _ _ _ _ _ _ _ _ _)
      | (with_reducible exact ih5 _ _ _ _ _ _ _ _ _ _ _ _ _ _ _)
      | (with_reducible exact ih6 _ _ _ _ _ _ _ _ _ _ _ _ _ _)
      | (with_reducible exact pintleref02_Get.mono _ _ _)
      | (with_reducible exact pintleref03_Encode.mono _ _ _ _ _ _)
      | (with_reducible exact pintleref03_Of.mono _ _)
      | (with_reducible exact LeO.refl _)
      | (with_reducible exact LeO.none _)
      | (with_reducible refine LeO.ite ?_ ?_)
      | (with_reducible refine LeO.bind ?_ (fun _ => ?_))
      | exact ih0 _ _
      | exact ih1 _ _ _ _ _ _ _ _ _ _
      | exact ih2 _ _ _ _ _ _ _ _ _ _ _ _ _ _
      | exact ih3 _ _ _ _ _ _ _ _ _ _ _ _ _ _
      | exact ih4 _ _ _ _ _ _ _ _ _ _ _ _ _ _
      | exact ih5 _ _ _ _ _ _ _ _ _ _ _ _ _ _ _
      | exact ih6 _ _ _ _ _ _ _ _ _ _ _ _ _ _
      | exact pintleref02_Get.mono _ _ _
      | exact pintleref03_Encode.mono _ _ _ _ _ _
      | exact pintleref03_Of.mono _ _
      | exact LeO.none _
      | refine LeO.ite ?_ ?_
      | refine LeO.bind ?_ (fun _ => ?_)
    · intro y0 y1 y2 y3 y4 y5 y6 y7 y8 y9 y10 y11 y12 y13 y14
      unfold pintleref03_Decode.j5
      repeat' first
      | (with_reducible exact ih0 _ _)
      | (with_reducible exact ih1 _ _ _ _ _ _ _ _ _ _)
      | (with_reducible exact ih2 _ _ _ _ _ _ _ _ _ _ _ _ _ _)
      | (with_reducible exact ih3 _ _ _ _ _ _ _ _ _ _ _ _ _ _)
      | (with_reducible exact ih4 _ _ _ _ _ _ _ _ _ _ _ _ _ _)
      | (with_reducible exact ih5 _ _ _ _ _ _ _ _ _ _ _ _ _ _ _)
      | (with_reducible exact ih6 _ _ _ _ _ _ _ _ _ _ _ _ _ _)
      | (with_reducible exact pintleref02_Get.mono _ _ _)
      | (with_reducible exact pintleref03_Encode.mono _ _ _ _ _ _)
      | (with_reducible exact pintleref03_Of.mono _ _)
      | (with_reducible exact LeO.refl _)
      | (with_reducible exact LeO.none _)
      | (with_reducible refine LeO.ite ?_ ?_)
      | (with_reducible refine LeO.bind ?_ (fun _ => ?_))
      | exact ih0 _ _
      | exact ih1 _ _ _ _ _ _ _ _ _ _
      | exact ih2 _ _ _ _ _ _ _ _ _ _ _ _ _ _
      | exact ih3 _ _ _ _ _ _ _ _ _ _ _ _ _ _
      | exact ih4 _ _ _ _ _ _ _ _ _ _ _ _ _ _
      | exact ih5 _ _ _ _ _ _ _ _ _ _ _ _ _ _ _
      | exact ih6 _ _ _ _ _ _ _ _ _ _ _ _ _ _
      | exact pintleref02_Get.mono _ _ _
      | exact pintleref03_Encode.mono _ _ _ _ _ _
      | exact pintleref03_Of.mono _ _
      | exact LeO.none _
      | refine LeO.ite ?_ ?_
      | refine LeO.bind ?_ (fun _ => ?_)
    · intro y0 y1 y2 y3 y4 y5 y6 y7 y8 y9 y10 y11 y12 y13
      unfold pintleref03_Decode.j6
      repeat' first
      | (with_reducible exact ih0 _ _)
      | (with_reducible exact ih1 _ _ _ _ _ _ _ _ _ _)
      | (with_reducible exact ih2 _ _ _ _ _ _ _ _ _ _ _ _ _ _)
      | (with_reducible exact ih3 _ _ _ _ _ _ _ _ _ _ _ _ _ _)
      | (with_reducible exact ih4 _ _ _ _ _ _ _ _ _ _ _ _ _ _)
      | (with_reducible exact ih5 _ _ _ _ _ _ _ _ _ _ _ _ _ _ _)
      | (with_reducible exact ih6 _ _ _ _ _ _ _ _ _ _ _ _ _ _)
      | (with_reducible exact pintleref02_Get.mono _ _ _)
      | (with_reducible exact pintleref03_Encode.mono _ _ _ _ _ _)
      | (with_reducible exact pintleref03_Of.mono _ _)
      | (with_reducible exact LeO.refl _)
      | (with_reducible exact LeO.none _)
      | (with_reducible refine LeO.ite ?_ ?_)
      | (with_reducible refine LeO.bind ?_ (fun _ => ?_))
      | exact ih0 _ _
      | exact ih1 _ _ _ _ _ _ _ _ _ _
      | exact ih2 _ _ _ _ _ _ _ _ _ _ _ _ _ _
      | exact ih3 _ _ _ _ _ _ _ _ _ _ _ _ _ _
      | exact ih4 _ _ _ _ _ _ _ _ _ _ _ _ _ _
      | exact ih5 _ _ _ _ _ _ _ _ _ _ _ _ _ _ _
      | exact ih6 _ _ _ _ _ _ _ _ _ _ _ _ _ _
      | exact pintleref02_Get.mono _ _ _
      | exact pintleref03_Encode.mono _ _ _ _ _ _
      | exact pintleref03_Of.mono _ _
      | exact LeO.none _
      | refine LeO.ite ?_ ?_
      | refine LeO.bind ?_ (fun _ => ?_)
theorem pintleref03_Decode.mono : ∀ a0 k, LeO (pintleref03_Decode.f k a0) (pintleref03_Decode.f (k + 1) a0) := by
  intro a0 k
  obtain ⟨ih0, ih1, ih2, ih3, ih4, ih5, ih6⟩ := pintleref03_Decode.mono_l k
  unfold pintleref03_Decode.f
  repeat' first
      | (with_reducible exact ih0 _ _)
      | (with_reducible exact ih1 _ _ _ _ _ _ _ _ _ _)
      | (with_reducible exact ih2 _ _ _ _ _ _ _ _ _ _ _ _ _ _)
      | (with_reducible exact ih3 _ _ _ _ _ _ _ _ _ _ _ _ _ _)
      | (with_reducible exact ih4 _ _ _ _ _ _ _ _ _ _ _ _ _ _)
      | (with_reducible exact ih5 _ _ _ _ _ _ _ _ _ _ _ _ _ _ _)
      | (with_reducible exact ih6 _ _ _ _ _ _ _ _ _ _ _ _ _ _)
      | (with_reducible exact pintleref02_Get.mono _ _ _)
      | (with_reducible exact pintleref03_Encode.mono _ _ _ _ _ _)
      | (with_reducible exact pintleref03_Of.mono _ _)
      | (with_reducible exact LeO.refl _)
      | (with_reducible exact LeO.none _)
      | (with_reducible refine LeO.ite ?_ ?_)
      | (with_reducible refine LeO.bind ?_ (fun _ => ?_))
      | exact ih0 _ _
      | exact ih1 _ _ _ _ _ _ _ _ _ _
      | exact ih2 _ _ _ _ _ _ _ _ _ _ _ _ _ _
      | exact ih3 _ _ _ _ _ _ _ _ _ _ _ _ _ _
      | exact ih4 _ _ _ _ _ _ _ _ _ _ _ _ _ _
      | exact ih5 _ _ _ _ _ _ _ _ _ _ _ _ _ _ _
      | exact ih6 _ _ _ _ _ _ _ _ _ _ _ _ _ _
      | exact pintleref02_Get.mono _ _ _
      | exact pintleref03_Encode.mono _ _ _ _ _ _
      | exact pintleref03_Of.mono _ _
      | exact LeO.none _
      | refine LeO.ite ?_ ?_
      | refine LeO.bind ?_ (fun _ => ?_)
set_option maxHeartbeats 8000000 in
set_option maxRecDepth 100000 in
theorem pintleref03_Decode.calls (k : Nat) (a0 : Int) (r1 : Int) (r2 : Int) (r3 : Int) (r4 : Int) (r5 : Int) (r6 : Bool) (w : World) (h : pintleref03_Decode.f k a0 = some (r1, r2, r3, r4, r5, r6)) :
    Calls Try.prog 10 #[.int .u32 a0] w fun e w' => e = .returned (.tuple #[.agg #[.int .i64 r1, .int .i64 r2, .int .i64 r3, .int .i64 r4, .int .i32 r5], .bool r6]) ∧ Below w.heap.size w w' := by
  have hu24 := Try.underlying24
  have hu34 := Try.underlying34
  have HB := Aside0.mk (Below.refl w.heap.size w)
  have H : (pintleref03_Decode.l0 k a0 1) = some (r1, r2, r3, r4, r5, r6) := h
  clear h
  have H' := Aside0.mk H
  clear H
  go_enter Try.func10, Try.ntmps10
  go_wp2_with (first | ((with_reducible refine gate_dst (N := 2) rfl ?_); refine box_event ?hg (N := 2) ?hd (cs := #[.int .i64 0, .int .i64 0, .int .i64 0, .int .i64 0, .int .i32 0]) (t := 24) ?hr ?_; (case hd => rfl); (case hg => rfl); (case hr => first | (go_simp; done) | (go_simp; rfl)); intro gb283 hg w2 hbox hb; have n0_ := Aside0.mk (below_step (by repeat (first | (with_reducible first | exact HB.out | apply below_alloc | apply pw_below_drewN | apply below_drew1) | exact HB.out)) hb); have n1_ := Aside0.mk (hbox); have n2_ := Aside0.mk ((by rw [hg]; exact (below_size (by repeat (first | (with_reducible first | exact HB.out | apply below_alloc | apply pw_below_drewN | apply below_drew1) | exact HB.out))) : w.heap.size ≤ gb283)); have n3_ := Aside0.mk ((by rw [hg]; exact (below_size (by repeat (first | (with_reducible first | exact HB.out | apply below_alloc | apply pw_below_drewN | apply below_drew1) | exact HB.out))) : w.heap.size ≤ gb283)); clear HB; have HB := n0_; have BK283 := n1_; have GW283 := n2_; have GE283 := n3_; clear n0_ n1_ n2_ n3_; clear hb hbox hg))
  go_loopg [4] k (fun kq v4 w' => ∃ (x4_1 : Int) (x284000_1 : Int) (x284001_1 : Int) (x284002_1 : Int) (x284003_1 : Int) (x284004_1 : Int), v4 = .int .i64 x4_1 ∧ Aside0 (pintleref03_Decode.l0 kq a0 x4_1 = some (r1, r2, r3, r4, r5, r6)) ∧ Aside0 (kq ≤ k) ∧ Aside0 (w'.heap[gb283]? = some (.cells #[.int .i64 x284000_1, .int .i64 x284001_1, .int .i64 x284002_1, .int .i64 x284003_1, .int .i32 x284004_1] 24 (0, 0))) ∧ Aside0 (Below w.heap.size w w'))
  case atStart => exact ⟨(1), (0), (0), (0), (0), (0), (by first | rfl | (simp; done) | (simp [*]; done)), H', ⟨Nat.le_refl _⟩, ⟨by (with_reducible repeat (first | refine blk_drewN ?_ _ | refine blk_drew ?_ | refine blk_alloc ?_ _)); exact BK283.out⟩, ⟨by repeat (first | (with_reducible first | exact HB.out | apply below_alloc | apply pw_below_drewN | apply below_drew1 | refine below_set ?_ GE283.out) | exact HB.out)⟩⟩
  case round =>
    clear H'
    try clear c1
    try clear p2
    obtain ⟨x4_1, x284000_1, x284001_1, x284002_1, x284003_1, x284004_1, rfl, HA, HK1, BK283, HB⟩ := hrel
    cases gk with
    | zero => exact absurd HA.out (by simp [pintleref03_Decode.l0])
    | succ k1 =>
      have H := HA.out
      clear HA
      simp only [pintleref03_Decode.l0] at H
      by_cases c3 : x4_1 ≤ 48
      · rw [if_pos c3] at H
        have c3b0 : decide (x4_1 ≤ 48) = true := decide_eq_true c3
        clear c3
        replace H := Option.bind_eq_some_iff.mp H
        obtain ⟨⟨t284, t285, t286, t287, t288, t289, t290, t291⟩, A40, H⟩ := H
        replace H : (if t291 = true then (pintleref03_Decode.j1 k1 a0 x4_1 ((Int.tmod a0 128) != t284) t284 t285 t286 t287 t288 t289 t290) else (pintleref03_Decode.j1 k1 a0 x4_1 false t284 t285 t286 t287 t288 t289 t290)) = some (r1, r2, r3, r4, r5, r6) := H
        have A4 := Aside0.mk A40
        clear A40
        have HC5 := Aside0.mk H
        clear H
        go_upto_region 5 with (first | ((with_reducible refine gate_callee (f := 15) rfl ?_); refine goesL_ (some 16) rfl rfl Try.func15 (by kernel_rfl) rfl #[.int .i64 x4_1] rfl (by (try simp only [List.map_toArray, List.map_cons, List.map_nil]); first | done | rfl | (simp only [List.length_drop, List.length_take]; rfl)) ?_; (with_reducible refine (pintleref03_Of.calls k1 x4_1 t284 t285 t286 t287 t288 t289 t290 t291 _ A4.out).mono ?_); rintro e w6 ⟨rfl, hb⟩; refine ⟨_, rfl, ?_⟩; have n0_ := Aside0.mk (blk_below (g := gb283) (o := .cells #[.int .i64 x284000_1, .int .i64 x284001_1, .int .i64 x284002_1, .int .i64 x284003_1, .int .i32 x284004_1] 24 (0, 0)) (by (with_reducible repeat (first | refine blk_drewN ?_ _ | refine blk_drew ?_ | refine blk_alloc ?_ _)); exact BK283.out) hb); have n1_ := Aside0.mk (below_step (by repeat (first | (with_reducible first | exact HB.out | apply below_alloc | apply pw_below_drewN | apply below_drew1 | refine below_set ?_ GE283.out) | exact HB.out)) hb); clear BK283; clear HB; have BK283 := n0_; have HB := n1_; clear n0_ n1_; (try clear hb); (try clear hb2); (try clear hk); (try clear hi)) | ((with_reducible refine gate_dst (N := 5) rfl ?_); refine box_event ?hg (N := 5) ?hd (cs := #[.int .u32 0, .int .u32 0, .int .u32 0, .int .i64 0, .bool false, .bool false, .bool false]) (t := 34) ?hr ?_; (case hd => rfl); (case hg => rfl); (case hr => first | (go_simp; done) | (go_simp; rfl)); intro gb292 hg w7 hbox hb; have n0_ := Aside0.mk (blk_below (g := gb283) (o := .cells #[.int .i64 x284000_1, .int .i64 x284001_1, .int .i64 x284002_1, .int .i64 x284003_1, .int .i32 x284004_1] 24 (0, 0)) (by (with_reducible repeat (first | refine blk_drewN ?_ _ | refine blk_drew ?_ | refine blk_alloc ?_ _)); exact BK283.out) hb); have n1_ := Aside0.mk (below_step (by repeat (first | (with_reducible first | exact HB.out | apply below_alloc | apply pw_below_drewN | apply below_drew1 | refine below_set ?_ GE283.out) | exact HB.out)) hb); have n2_ := Aside0.mk (hbox); have n3_ := Aside0.mk ((by rw [hg]; exact (below_size (by repeat (first | (with_reducible first | exact HB.out | apply below_alloc | apply pw_below_drewN | apply below_drew1 | refine below_set ?_ GE283.out) | exact HB.out))) : w.heap.size ≤ gb292)); have n4_ := Aside0.mk ((by rw [hg]; exact (below_size (by repeat (first | (with_reducible first | exact HB.out | apply below_alloc | apply pw_below_drewN | apply below_drew1 | refine below_set ?_ GE283.out) | exact HB.out))) : w.heap.size ≤ gb292)); have n5_ := Aside0.mk ((by rw [hg]; exact Nat.ne_of_lt (blk_lt (g := gb283) (o := .cells #[.int .i64 x284000_1, .int .i64 x284001_1, .int .i64 x284002_1, .int .i64 x284003_1, .int .i32 x284004_1] 24 (0, 0)) (by (with_reducible repeat (first | refine blk_drewN ?_ _ | refine blk_drew ?_ | refine blk_alloc ?_ _)); exact BK283.out)) : gb283 ≠ gb292)); have n6_ := Aside0.mk ((by rw [hg]; exact Nat.ne_of_gt (blk_lt (g := gb283) (o := .cells #[.int .i64 x284000_1, .int .i64 x284001_1, .int .i64 x284002_1, .int .i64 x284003_1, .int .i32 x284004_1] 24 (0, 0)) (by (with_reducible repeat (first | refine blk_drewN ?_ _ | refine blk_drew ?_ | refine blk_alloc ?_ _)); exact BK283.out)) : gb292 ≠ gb283)); clear BK283; clear HB; have BK283 := n0_; have HB := n1_; have BK292 := n2_; have GW292 := n3_; have GE292 := n4_; have NB283_292 := n5_; have NB292_283 := n6_; clear n0_ n1_ n2_ n3_ n4_ n5_ n6_; clear hb hbox hg; have hnb8 := NB292_283.out; have hnc8 := NB283_292.out; have hcz9_0 : w7.cell? ⟨gb292, 0, none⟩ = some (.int .u32 0) := (blk_cell BK292.out 0).trans rfl; have hcz9_1 : w7.cell? ⟨gb292, 1, none⟩ = some (.int .u32 0) := (blk_cell BK292.out 1).trans rfl; have hcz9_2 : w7.cell? ⟨gb292, 2, none⟩ = some (.int .u32 0) := (blk_cell BK292.out 2).trans rfl; have hcz9_3 : w7.cell? ⟨gb292, 3, none⟩ = some (.int .i64 0) := (blk_cell BK292.out 3).trans rfl; have hcz9_4 : w7.cell? ⟨gb292, 4, none⟩ = some (.bool false) := (blk_cell BK292.out 4).trans rfl; have hcz9_5 : w7.cell? ⟨gb292, 5, none⟩ = some (.bool false) := (blk_cell BK292.out 5).trans rfl; have hcz9_6 : w7.cell? ⟨gb292, 6, none⟩ = some (.bool false) := (blk_cell BK292.out 6).trans rfl; have hfz9_0 := blk_frozen BK292.out 0; have hfz9_1 := blk_frozen BK292.out 1; have hfz9_2 := blk_frozen BK292.out 2; have hfz9_3 := blk_frozen BK292.out 3; have hfz9_4 := blk_frozen BK292.out 4; have hfz9_5 := blk_frozen BK292.out 5; have hfz9_6 := blk_frozen BK292.out 6))
        (try simp only [Act.put, List.setIfInBounds_toArray, List.set_cons_zero, List.set_cons_succ])
        go_cut [26] (fun v26 wc => ∃ (kq : Nat) (x26_4 : Bool), v26 = .bool x26_4 ∧ Aside0 (pintleref03_Decode.j1 kq a0 x4_1 x26_4 t284 t285 t286 t287 t288 t289 t290 = some (r1, r2, r3, r4, r5, r6)) ∧ Aside0 (kq ≤ k1) ∧ Aside0 (wc.heap[gb283]? = some (.cells #[.int .i64 x284000_1, .int .i64 x284001_1, .int .i64 x284002_1, .int .i64 x284003_1, .int .i32 x284004_1] 24 (0, 0))) ∧ Aside0 (wc.heap[gb292]? = some (.cells #[.int .u32 t284, .int .u32 t285, .int .u32 t286, .int .i64 t287, .bool t288, .bool t289, .bool t290] 34 (0, 0))) ∧ Aside0 (Below w.heap.size w wc))
        case first =>
          have H := HC5.out
          clear HC5
          by_cases c10 : t291 = true
          · subst c10
            have H1 : (pintleref03_Decode.j1 k1 a0 x4_1 ((Int.tmod a0 128) != t284) t284 t285 t286 t287 t288 t289 t290) = some (r1, r2, r3, r4, r5, r6) := by rw [if_pos rfl] at H; exact H
            clear H
            have H := H1
            clear H1
            have H' := Aside0.mk H
            clear H
            have hnb11 := NB292_283.out
            have hnc11 := NB283_292.out
            have hcz12_0 : w7.cell? ⟨gb292, 0, none⟩ = some (.int .u32 0) := (blk_cell BK292.out 0).trans rfl
            have hcz12_1 : w7.cell? ⟨gb292, 1, none⟩ = some (.int .u32 0) := (blk_cell BK292.out 1).trans rfl
            have hcz12_2 : w7.cell? ⟨gb292, 2, none⟩ = some (.int .u32 0) := (blk_cell BK292.out 2).trans rfl
            have hcz12_3 : w7.cell? ⟨gb292, 3, none⟩ = some (.int .i64 0) := (blk_cell BK292.out 3).trans rfl
            have hcz12_4 : w7.cell? ⟨gb292, 4, none⟩ = some (.bool false) := (blk_cell BK292.out 4).trans rfl
            have hcz12_5 : w7.cell? ⟨gb292, 5, none⟩ = some (.bool false) := (blk_cell BK292.out 5).trans rfl
            have hcz12_6 : w7.cell? ⟨gb292, 6, none⟩ = some (.bool false) := (blk_cell BK292.out 6).trans rfl
            have hfz12_0 := blk_frozen BK292.out 0
            have hfz12_1 := blk_frozen BK292.out 1
            have hfz12_2 := blk_frozen BK292.out 2
            have hfz12_3 := blk_frozen BK292.out 3
            have hfz12_4 := blk_frozen BK292.out 4
            have hfz12_5 := blk_frozen BK292.out 5
            have hfz12_6 := blk_frozen BK292.out 6
            go_wp2
            go_meet
            case rel => exact ⟨_, (((Int.tmod a0 128) != t284)), (by first | rfl | (simp; done) | (simp [*]; done)), H', ⟨by have := HK1.out; first | omega | exact Nat.le_refl _⟩, ⟨by (with_reducible repeat (first | refine blk_drewN ?_ _ | refine blk_drew ?_ | refine blk_alloc ?_ _)); refine blk_far ?_ NB283_292.out _; (with_reducible repeat (first | refine blk_drewN ?_ _ | refine blk_drew ?_ | refine blk_alloc ?_ _)); refine blk_far ?_ NB283_292.out _; (with_reducible repeat (first | refine blk_drewN ?_ _ | refine blk_drew ?_ | refine blk_alloc ?_ _)); refine blk_far ?_ NB283_292.out _; (with_reducible repeat (first | refine blk_drewN ?_ _ | refine blk_drew ?_ | refine blk_alloc ?_ _)); refine blk_far ?_ NB283_292.out _; (with_reducible repeat (first | refine blk_drewN ?_ _ | refine blk_drew ?_ | refine blk_alloc ?_ _)); refine blk_far ?_ NB283_292.out _; (with_reducible repeat (first | refine blk_drewN ?_ _ | refine blk_drew ?_ | refine blk_alloc ?_ _)); refine blk_far ?_ NB283_292.out _; (with_reducible repeat (first | refine blk_drewN ?_ _ | refine blk_drew ?_ | refine blk_alloc ?_ _)); refine blk_far ?_ NB283_292.out _; (with_reducible repeat (first | refine blk_drewN ?_ _ | refine blk_drew ?_ | refine blk_alloc ?_ _)); exact BK283.out⟩, ⟨by (with_reducible repeat (first | refine blk_drewN ?_ _ | refine blk_drew ?_ | refine blk_alloc ?_ _)); refine blk_put (cs := #[.int .u32 t284, .int .u32 t285, .int .u32 t286, .int .i64 t287, .bool t288, .bool t289, .bool false]) ?_ 6 _ rfl; (with_reducible repeat (first | refine blk_drewN ?_ _ | refine blk_drew ?_ | refine blk_alloc ?_ _)); refine blk_put (cs := #[.int .u32 t284, .int .u32 t285, .int .u32 t286, .int .i64 t287, .bool t288, .bool false, .bool false]) ?_ 5 _ rfl; (with_reducible repeat (first | refine blk_drewN ?_ _ | refine blk_drew ?_ | refine blk_alloc ?_ _)); refine blk_put (cs := #[.int .u32 t284, .int .u32 t285, .int .u32 t286, .int .i64 t287, .bool false, .bool false, .bool false]) ?_ 4 _ rfl; (with_reducible repeat (first | refine blk_drewN ?_ _ | refine blk_drew ?_ | refine blk_alloc ?_ _)); refine blk_put (cs := #[.int .u32 t284, .int .u32 t285, .int .u32 t286, .int .i64 0, .bool false, .bool false, .bool false]) ?_ 3 _ rfl; (with_reducible repeat (first | refine blk_drewN ?_ _ | refine blk_drew ?_ | refine blk_alloc ?_ _)); refine blk_put (cs := #[.int .u32 t284, .int .u32 t285, .int .u32 0, .int .i64 0, .bool false, .bool false, .bool false]) ?_ 2 _ rfl; (with_reducible repeat (first | refine blk_drewN ?_ _ | refine blk_drew ?_ | refine blk_alloc ?_ _)); refine blk_put (cs := #[.int .u32 t284, .int .u32 0, .int .u32 0, .int .i64 0, .bool false, .bool false, .bool false]) ?_ 1 _ rfl; (with_reducible repeat (first | refine blk_drewN ?_ _ | refine blk_drew ?_ | refine blk_alloc ?_ _)); refine blk_put (cs := #[.int .u32 0, .int .u32 0, .int .u32 0, .int .i64 0, .bool false, .bool false, .bool false]) ?_ 0 _ rfl; (with_reducible repeat (first | refine blk_drewN ?_ _ | refine blk_drew ?_ | refine blk_alloc ?_ _)); exact BK292.out⟩, ⟨by repeat (first | (with_reducible first | exact HB.out | apply below_alloc | apply pw_below_drewN | apply below_drew1 | refine below_set ?_ GE283.out | refine below_set ?_ GE292.out) | exact HB.out)⟩⟩
          · replace c10 := Bool.eq_false_iff.mpr c10
            subst c10
            have H1 : (pintleref03_Decode.j1 k1 a0 x4_1 false t284 t285 t286 t287 t288 t289 t290) = some (r1, r2, r3, r4, r5, r6) := by rw [if_neg (show ¬ (false = true) by decide)] at H; exact H
            clear H
            have H := H1
            clear H1
            have H' := Aside0.mk H
            clear H
            go_wp2
            go_meet
            case rel => exact ⟨_, (false), (by first | rfl | (simp; done) | (simp [*]; done)), H', ⟨by have := HK1.out; first | omega | exact Nat.le_refl _⟩, ⟨by (with_reducible repeat (first | refine blk_drewN ?_ _ | refine blk_drew ?_ | refine blk_alloc ?_ _)); refine blk_far ?_ NB283_292.out _; (with_reducible repeat (first | refine blk_drewN ?_ _ | refine blk_drew ?_ | refine blk_alloc ?_ _)); refine blk_far ?_ NB283_292.out _; (with_reducible repeat (first | refine blk_drewN ?_ _ | refine blk_drew ?_ | refine blk_alloc ?_ _)); refine blk_far ?_ NB283_292.out _; (with_reducible repeat (first | refine blk_drewN ?_ _ | refine blk_drew ?_ | refine blk_alloc ?_ _)); refine blk_far ?_ NB283_292.out _; (with_reducible repeat (first | refine blk_drewN ?_ _ | refine blk_drew ?_ | refine blk_alloc ?_ _)); refine blk_far ?_ NB283_292.out _; (with_reducible repeat (first | refine blk_drewN ?_ _ | refine blk_drew ?_ | refine blk_alloc ?_ _)); refine blk_far ?_ NB283_292.out _; (with_reducible repeat (first | refine blk_drewN ?_ _ | refine blk_drew ?_ | refine blk_alloc ?_ _)); refine blk_far ?_ NB283_292.out _; (with_reducible repeat (first | refine blk_drewN ?_ _ | refine blk_drew ?_ | refine blk_alloc ?_ _)); exact BK283.out⟩, ⟨by (with_reducible repeat (first | refine blk_drewN ?_ _ | refine blk_drew ?_ | refine blk_alloc ?_ _)); refine blk_put (cs := #[.int .u32 t284, .int .u32 t285, .int .u32 t286, .int .i64 t287, .bool t288, .bool t289, .bool false]) ?_ 6 _ rfl; (with_reducible repeat (first | refine blk_drewN ?_ _ | refine blk_drew ?_ | refine blk_alloc ?_ _)); refine blk_put (cs := #[.int .u32 t284, .int .u32 t285, .int .u32 t286, .int .i64 t287, .bool t288, .bool false, .bool false]) ?_ 5 _ rfl; (with_reducible repeat (first | refine blk_drewN ?_ _ | refine blk_drew ?_ | refine blk_alloc ?_ _)); refine blk_put (cs := #[.int .u32 t284, .int .u32 t285, .int .u32 t286, .int .i64 t287, .bool false, .bool false, .bool false]) ?_ 4 _ rfl; (with_reducible repeat (first | refine blk_drewN ?_ _ | refine blk_drew ?_ | refine blk_alloc ?_ _)); refine blk_put (cs := #[.int .u32 t284, .int .u32 t285, .int .u32 t286, .int .i64 0, .bool false, .bool false, .bool false]) ?_ 3 _ rfl; (with_reducible repeat (first | refine blk_drewN ?_ _ | refine blk_drew ?_ | refine blk_alloc ?_ _)); refine blk_put (cs := #[.int .u32 t284, .int .u32 t285, .int .u32 0, .int .i64 0, .bool false, .bool false, .bool false]) ?_ 2 _ rfl; (with_reducible repeat (first | refine blk_drewN ?_ _ | refine blk_drew ?_ | refine blk_alloc ?_ _)); refine blk_put (cs := #[.int .u32 t284, .int .u32 0, .int .u32 0, .int .i64 0, .bool false, .bool false, .bool false]) ?_ 1 _ rfl; (with_reducible repeat (first | refine blk_drewN ?_ _ | refine blk_drew ?_ | refine blk_alloc ?_ _)); refine blk_put (cs := #[.int .u32 0, .int .u32 0, .int .u32 0, .int .i64 0, .bool false, .bool false, .bool false]) ?_ 0 _ rfl; (with_reducible repeat (first | refine blk_drewN ?_ _ | refine blk_drew ?_ | refine blk_alloc ?_ _)); exact BK292.out⟩, ⟨by repeat (first | (with_reducible first | exact HB.out | apply below_alloc | apply pw_below_drewN | apply below_drew1 | refine below_set ?_ GE283.out | refine below_set ?_ GE292.out) | exact HB.out)⟩⟩
        case rest =>
          clear HC5
          try clear c1
          try clear p2
          try clear c3
          try clear c3b0
          try clear c8
          try clear c10
          try clear c11
          try clear hcz12_0
          try clear hcz12_1
          try clear hcz12_2
          try clear hcz12_3
          try clear hcz12_4
          try clear hcz12_5
          try clear hcz12_6
          try clear hcz9_0
          try clear hcz9_1
          try clear hcz9_2
          try clear hcz9_3
          try clear hcz9_4
          try clear hcz9_5
          try clear hcz9_6
          try clear hfz12_0
          try clear hfz12_1
          try clear hfz12_2
          try clear hfz12_3
          try clear hfz12_4
          try clear hfz12_5
          try clear hfz12_6
          try clear hfz9_0
          try clear hfz9_1
          try clear hfz9_2
          try clear hfz9_3
          try clear hfz9_4
          try clear hfz9_5
          try clear hfz9_6
          try clear p2
          obtain ⟨kq, x26_4, rfl, HA, HJ4, BK283, BK292, HB⟩ := hcut
          cases kq with
          | zero => exact absurd HA.out (by simp [pintleref03_Decode.j1])
          | succ kj4 =>
            have H := HA.out
            clear HA
            simp only [pintleref03_Decode.j1] at H
            by_cases c13 : x26_4 = true
            · subst c13
              have H1 : (pintleref03_Decode.l0 kj4 a0 (wrap64 (x4_1 + 1))) = some (r1, r2, r3, r4, r5, r6) := by rw [if_pos rfl] at H; exact H
              clear H
              have H := H1
              clear H1
              have H' := Aside0.mk H
              clear H
              go_wp2
              go_roundg kj4
              case measure => have := HK1.out; have := HJ4.out; omega
              case rel => exact ⟨(wrap64 (x4_1 + 1)), (x284000_1), (x284001_1), (x284002_1), (x284003_1), (x284004_1), (by first | rfl | (simp; done) | (simp [*]; done)), H', ⟨by have := HK1.out; have := HJ4.out; omega⟩, ⟨by (with_reducible repeat (first | refine blk_drewN ?_ _ | refine blk_drew ?_ | refine blk_alloc ?_ _)); exact BK283.out⟩, ⟨by repeat (first | (with_reducible first | exact HB.out | apply below_alloc | apply pw_below_drewN | apply below_drew1 | refine below_set ?_ GE283.out | refine below_set ?_ GE292.out) | exact HB.out)⟩⟩
            · replace c13 := Bool.eq_false_iff.mpr c13
              subst c13
              have H1 : (if t288 = true then (pintleref03_Decode.j2 kj4 a0 x4_1 t284 t285 t286 t287 t288 t289 t290 x4_1 ((Int.tdiv a0 128) % 32) 0 0 0) else (pintleref03_Decode.j2 kj4 a0 x4_1 t284 t285 t286 t287 t288 t289 t290 x4_1 0 0 0 0)) = some (r1, r2, r3, r4, r5, r6) := by rw [if_neg (show ¬ (false = true) by decide)] at H; exact H
              clear H
              have H := H1
              clear H1
              have HC14 := Aside0.mk H
              clear H
              go_upto_if 30 with (first | ((with_reducible refine gate_dst (N := 7) rfl ?_); refine box_event ?hg (N := 7) ?hd (cs := #[.int .i64 0, .int .i64 0, .int .i64 0, .int .i64 0, .int .i32 0]) (t := 24) ?hr ?_; (case hd => rfl); (case hg => rfl); (case hr => first | (go_simp; done) | (go_simp; rfl)); intro gb293 hg w15 hbox hb; have n0_ := Aside0.mk (blk_below (g := gb283) (o := .cells #[.int .i64 x284000_1, .int .i64 x284001_1, .int .i64 x284002_1, .int .i64 x284003_1, .int .i32 x284004_1] 24 (0, 0)) (by (with_reducible repeat (first | refine blk_drewN ?_ _ | refine blk_drew ?_ | refine blk_alloc ?_ _)); exact BK283.out) hb); have n1_ := Aside0.mk (blk_below (g := gb292) (o := .cells #[.int .u32 t284, .int .u32 t285, .int .u32 t286, .int .i64 t287, .bool t288, .bool t289, .bool t290] 34 (0, 0)) (by (with_reducible repeat (first | refine blk_drewN ?_ _ | refine blk_drew ?_ | refine blk_alloc ?_ _)); exact BK292.out) hb); have n2_ := Aside0.mk (below_step (by repeat (first | (with_reducible first | exact HB.out | apply below_alloc | apply pw_below_drewN | apply below_drew1 | refine below_set ?_ GE283.out | refine below_set ?_ GE292.out) | exact HB.out)) hb); have n3_ := Aside0.mk (hbox); have n4_ := Aside0.mk ((by rw [hg]; exact (below_size (by repeat (first | (with_reducible first | exact HB.out | apply below_alloc | apply pw_below_drewN | apply below_drew1 | refine below_set ?_ GE283.out | refine below_set ?_ GE292.out) | exact HB.out))) : w.heap.size ≤ gb293)); have n5_ := Aside0.mk ((by rw [hg]; exact (below_size (by repeat (first | (with_reducible first | exact HB.out | apply below_alloc | apply pw_below_drewN | apply below_drew1 | refine below_set ?_ GE283.out | refine below_set ?_ GE292.out) | exact HB.out))) : w.heap.size ≤ gb293)); have n6_ := Aside0.mk ((by rw [hg]; exact Nat.ne_of_lt (blk_lt (g := gb283) (o := .cells #[.int .i64 x284000_1, .int .i64 x284001_1, .int .i64 x284002_1, .int .i64 x284003_1, .int .i32 x284004_1] 24 (0, 0)) (by (with_reducible repeat (first | refine blk_drewN ?_ _ | refine blk_drew ?_ | refine blk_alloc ?_ _)); exact BK283.out)) : gb283 ≠ gb293)); have n7_ := Aside0.mk ((by rw [hg]; exact Nat.ne_of_gt (blk_lt (g := gb283) (o := .cells #[.int .i64 x284000_1, .int .i64 x284001_1, .int .i64 x284002_1, .int .i64 x284003_1, .int .i32 x284004_1] 24 (0, 0)) (by (with_reducible repeat (first | refine blk_drewN ?_ _ | refine blk_drew ?_ | refine blk_alloc ?_ _)); exact BK283.out)) : gb293 ≠ gb283)); have n8_ := Aside0.mk ((by rw [hg]; exact Nat.ne_of_lt (blk_lt (g := gb292) (o := .cells #[.int .u32 t284, .int .u32 t285, .int .u32 t286, .int .i64 t287, .bool t288, .bool t289, .bool t290] 34 (0, 0)) (by (with_reducible repeat (first | refine blk_drewN ?_ _ | refine blk_drew ?_ | refine blk_alloc ?_ _)); exact BK292.out)) : gb292 ≠ gb293)); have n9_ := Aside0.mk ((by rw [hg]; exact Nat.ne_of_gt (blk_lt (g := gb292) (o := .cells #[.int .u32 t284, .int .u32 t285, .int .u32 t286, .int .i64 t287, .bool t288, .bool t289, .bool t290] 34 (0, 0)) (by (with_reducible repeat (first | refine blk_drewN ?_ _ | refine blk_drew ?_ | refine blk_alloc ?_ _)); exact BK292.out)) : gb293 ≠ gb292)); clear BK283; clear BK292; clear HB; have BK283 := n0_; have BK292 := n1_; have HB := n2_; have BK293 := n3_; have GW293 := n4_; have GE293 := n5_; have NB283_293 := n6_; have NB293_283 := n7_; have NB292_293 := n8_; have NB293_292 := n9_; clear n0_ n1_ n2_ n3_ n4_ n5_ n6_ n7_ n8_ n9_; clear hb hbox hg; have hnb16 := NB293_283.out; have hnc16 := NB283_293.out; have hnb17 := NB293_292.out; have hnc17 := NB292_293.out; have hcz18_0 : w15.cell? ⟨gb293, 0, none⟩ = some (.int .i64 0) := (blk_cell BK293.out 0).trans rfl; have hcz18_1 : w15.cell? ⟨gb293, 1, none⟩ = some (.int .i64 0) := (blk_cell BK293.out 1).trans rfl; have hcz18_2 : w15.cell? ⟨gb293, 2, none⟩ = some (.int .i64 0) := (blk_cell BK293.out 2).trans rfl; have hcz18_3 : w15.cell? ⟨gb293, 3, none⟩ = some (.int .i64 0) := (blk_cell BK293.out 3).trans rfl; have hcz18_4 : w15.cell? ⟨gb293, 4, none⟩ = some (.int .i32 0) := (blk_cell BK293.out 4).trans rfl; have hfz18_0 := blk_frozen BK293.out 0; have hfz18_1 := blk_frozen BK293.out 1; have hfz18_2 := blk_frozen BK293.out 2; have hfz18_3 := blk_frozen BK293.out 3; have hfz18_4 := blk_frozen BK293.out 4; have hnb19 := NB292_283.out; have hnc19 := NB283_292.out; have hcz20_0 : w15.cell? ⟨gb292, 0, none⟩ = some (.int .u32 t284) := (blk_cell BK292.out 0).trans rfl; have hcz20_1 : w15.cell? ⟨gb292, 1, none⟩ = some (.int .u32 t285) := (blk_cell BK292.out 1).trans rfl; have hcz20_2 : w15.cell? ⟨gb292, 2, none⟩ = some (.int .u32 t286) := (blk_cell BK292.out 2).trans rfl; have hcz20_3 : w15.cell? ⟨gb292, 3, none⟩ = some (.int .i64 t287) := (blk_cell BK292.out 3).trans rfl; have hcz20_4 : w15.cell? ⟨gb292, 4, none⟩ = some (.bool t288) := (blk_cell BK292.out 4).trans rfl; have hcz20_5 : w15.cell? ⟨gb292, 5, none⟩ = some (.bool t289) := (blk_cell BK292.out 5).trans rfl; have hcz20_6 : w15.cell? ⟨gb292, 6, none⟩ = some (.bool t290) := (blk_cell BK292.out 6).trans rfl; have hfz20_0 := blk_frozen BK292.out 0; have hfz20_1 := blk_frozen BK292.out 1; have hfz20_2 := blk_frozen BK292.out 2; have hfz20_3 := blk_frozen BK292.out 3; have hfz20_4 := blk_frozen BK292.out 4; have hfz20_5 := blk_frozen BK292.out 5; have hfz20_6 := blk_frozen BK292.out 6))
              (try simp only [Act.put, List.setIfInBounds_toArray, List.set_cons_zero, List.set_cons_succ])
              go_cut [] (fun wc => ∃ (kq : Nat) (x294001_13 : Int), Aside0 (pintleref03_Decode.j2 kq a0 x4_1 t284 t285 t286 t287 t288 t289 t290 x4_1 x294001_13 0 0 0 = some (r1, r2, r3, r4, r5, r6)) ∧ Aside0 (kq ≤ kj4) ∧ Aside0 (wc.heap[gb283]? = some (.cells #[.int .i64 x284000_1, .int .i64 x284001_1, .int .i64 x284002_1, .int .i64 x284003_1, .int .i32 x284004_1] 24 (0, 0))) ∧ Aside0 (wc.heap[gb292]? = some (.cells #[.int .u32 t284, .int .u32 t285, .int .u32 t286, .int .i64 t287, .bool t288, .bool t289, .bool t290] 34 (0, 0))) ∧ Aside0 (wc.heap[gb293]? = some (.cells #[.int .i64 x4_1, .int .i64 x294001_13, .int .i64 0, .int .i64 0, .int .i32 0] 24 (0, 0))) ∧ Aside0 (Below w.heap.size w wc))
              case first =>
                have H := HC14.out
                clear HC14
                by_cases c21 : t288 = true
                · subst c21
                  have H1 : (pintleref03_Decode.j2 kj4 a0 x4_1 t284 t285 t286 t287 true t289 t290 x4_1 ((Int.tdiv a0 128) % 32) 0 0 0) = some (r1, r2, r3, r4, r5, r6) := by rw [if_pos rfl] at H; exact H
                  clear H
                  have H := H1
                  clear H1
                  have H' := Aside0.mk H
                  clear H
                  have hnb22 := NB293_283.out
                  have hnc22 := NB283_293.out
                  have hnb23 := NB293_292.out
                  have hnc23 := NB292_293.out
                  have hcz24_0 : w15.cell? ⟨gb293, 0, none⟩ = some (.int .i64 0) := (blk_cell BK293.out 0).trans rfl
                  have hcz24_1 : w15.cell? ⟨gb293, 1, none⟩ = some (.int .i64 0) := (blk_cell BK293.out 1).trans rfl
                  have hcz24_2 : w15.cell? ⟨gb293, 2, none⟩ = some (.int .i64 0) := (blk_cell BK293.out 2).trans rfl
                  have hcz24_3 : w15.cell? ⟨gb293, 3, none⟩ = some (.int .i64 0) := (blk_cell BK293.out 3).trans rfl
                  have hcz24_4 : w15.cell? ⟨gb293, 4, none⟩ = some (.int .i32 0) := (blk_cell BK293.out 4).trans rfl
                  have hfz24_0 := blk_frozen BK293.out 0
                  have hfz24_1 := blk_frozen BK293.out 1
                  have hfz24_2 := blk_frozen BK293.out 2
                  have hfz24_3 := blk_frozen BK293.out 3
                  have hfz24_4 := blk_frozen BK293.out 4
                  go_wp2
                  go_meet
                  case rel => exact ⟨_, ((Int.tdiv a0 128) % 32), H', ⟨by have := HK1.out; have := HJ4.out; first | omega | exact Nat.le_refl _⟩, ⟨by (with_reducible repeat (first | refine blk_drewN ?_ _ | refine blk_drew ?_ | refine blk_alloc ?_ _)); refine blk_far ?_ NB283_293.out _; (with_reducible repeat (first | refine blk_drewN ?_ _ | refine blk_drew ?_ | refine blk_alloc ?_ _)); refine blk_far ?_ NB283_293.out _; (with_reducible repeat (first | refine blk_drewN ?_ _ | refine blk_drew ?_ | refine blk_alloc ?_ _)); refine blk_far ?_ NB283_293.out _; (with_reducible repeat (first | refine blk_drewN ?_ _ | refine blk_drew ?_ | refine blk_alloc ?_ _)); refine blk_far ?_ NB283_293.out _; (with_reducible repeat (first | refine blk_drewN ?_ _ | refine blk_drew ?_ | refine blk_alloc ?_ _)); refine blk_far ?_ NB283_293.out _; (with_reducible repeat (first | refine blk_drewN ?_ _ | refine blk_drew ?_ | refine blk_alloc ?_ _)); refine blk_far ?_ NB283_293.out _; (with_reducible repeat (first | refine blk_drewN ?_ _ | refine blk_drew ?_ | refine blk_alloc ?_ _)); exact BK283.out⟩, ⟨by (with_reducible repeat (first | refine blk_drewN ?_ _ | refine blk_drew ?_ | refine blk_alloc ?_ _)); refine blk_far ?_ NB292_293.out _; (with_reducible repeat (first | refine blk_drewN ?_ _ | refine blk_drew ?_ | refine blk_alloc ?_ _)); refine blk_far ?_ NB292_293.out _; (with_reducible repeat (first | refine blk_drewN ?_ _ | refine blk_drew ?_ | refine blk_alloc ?_ _)); refine blk_far ?_ NB292_293.out _; (with_reducible repeat (first | refine blk_drewN ?_ _ | refine blk_drew ?_ | refine blk_alloc ?_ _)); refine blk_far ?_ NB292_293.out _; (with_reducible repeat (first | refine blk_drewN ?_ _ | refine blk_drew ?_ | refine blk_alloc ?_ _)); refine blk_far ?_ NB292_293.out _; (with_reducible repeat (first | refine blk_drewN ?_ _ | refine blk_drew ?_ | refine blk_alloc ?_ _)); refine blk_far ?_ NB292_293.out _; (with_reducible repeat (first | refine blk_drewN ?_ _ | refine blk_drew ?_ | refine blk_alloc ?_ _)); exact BK292.out⟩, ⟨by (with_reducible repeat (first | refine blk_drewN ?_ _ | refine blk_drew ?_ | refine blk_alloc ?_ _)); refine blk_put (cs := #[.int .i64 x4_1, .int .i64 0, .int .i64 0, .int .i64 0, .int .i32 0]) ?_ 1 _ rfl; (with_reducible repeat (first | refine blk_drewN ?_ _ | refine blk_drew ?_ | refine blk_alloc ?_ _)); refine blk_put (cs := #[.int .i64 x4_1, .int .i64 0, .int .i64 0, .int .i64 0, .int .i32 0]) ?_ 4 _ rfl; (with_reducible repeat (first | refine blk_drewN ?_ _ | refine blk_drew ?_ | refine blk_alloc ?_ _)); refine blk_put (cs := #[.int .i64 x4_1, .int .i64 0, .int .i64 0, .int .i64 0, .int .i32 0]) ?_ 3 _ rfl; (with_reducible repeat (first | refine blk_drewN ?_ _ | refine blk_drew ?_ | refine blk_alloc ?_ _)); refine blk_put (cs := #[.int .i64 x4_1, .int .i64 0, .int .i64 0, .int .i64 0, .int .i32 0]) ?_ 2 _ rfl; (with_reducible repeat (first | refine blk_drewN ?_ _ | refine blk_drew ?_ | refine blk_alloc ?_ _)); refine blk_put (cs := #[.int .i64 x4_1, .int .i64 0, .int .i64 0, .int .i64 0, .int .i32 0]) ?_ 1 _ rfl; (with_reducible repeat (first | refine blk_drewN ?_ _ | refine blk_drew ?_ | refine blk_alloc ?_ _)); refine blk_put (cs := #[.int .i64 0, .int .i64 0, .int .i64 0, .int .i64 0, .int .i32 0]) ?_ 0 _ rfl; (with_reducible repeat (first | refine blk_drewN ?_ _ | refine blk_drew ?_ | refine blk_alloc ?_ _)); exact BK293.out⟩, ⟨by repeat (first | (with_reducible first | exact HB.out | apply below_alloc | apply pw_below_drewN | apply below_drew1 | refine below_set ?_ GE283.out | refine below_set ?_ GE292.out | refine below_set ?_ GE293.out) | exact HB.out)⟩⟩
                · replace c21 := Bool.eq_false_iff.mpr c21
                  subst c21
                  have H1 : (pintleref03_Decode.j2 kj4 a0 x4_1 t284 t285 t286 t287 false t289 t290 x4_1 0 0 0 0) = some (r1, r2, r3, r4, r5, r6) := by rw [if_neg (show ¬ (false = true) by decide)] at H; exact H
                  clear H
                  have H := H1
                  clear H1
                  have H' := Aside0.mk H
                  clear H
                  go_wp2
                  go_meet
                  case rel => exact ⟨_, (0), H', ⟨by have := HK1.out; have := HJ4.out; first | omega | exact Nat.le_refl _⟩, ⟨by (with_reducible repeat (first | refine blk_drewN ?_ _ | refine blk_drew ?_ | refine blk_alloc ?_ _)); refine blk_far ?_ NB283_293.out _; (with_reducible repeat (first | refine blk_drewN ?_ _ | refine blk_drew ?_ | refine blk_alloc ?_ _)); refine blk_far ?_ NB283_293.out _; (with_reducible repeat (first | refine blk_drewN ?_ _ | refine blk_drew ?_ | refine blk_alloc ?_ _)); refine blk_far ?_ NB283_293.out _; (with_reducible repeat (first | refine blk_drewN ?_ _ | refine blk_drew ?_ | refine blk_alloc ?_ _)); refine blk_far ?_ NB283_293.out _; (with_reducible repeat (first | refine blk_drewN ?_ _ | refine blk_drew ?_ | refine blk_alloc ?_ _)); refine blk_far ?_ NB283_293.out _; (with_reducible repeat (first | refine blk_drewN ?_ _ | refine blk_drew ?_ | refine blk_alloc ?_ _)); exact BK283.out⟩, ⟨by (with_reducible repeat (first | refine blk_drewN ?_ _ | refine blk_drew ?_ | refine blk_alloc ?_ _)); refine blk_far ?_ NB292_293.out _; (with_reducible repeat (first | refine blk_drewN ?_ _ | refine blk_drew ?_ | refine blk_alloc ?_ _)); refine blk_far ?_ NB292_293.out _; (with_reducible repeat (first | refine blk_drewN ?_ _ | refine blk_drew ?_ | refine blk_alloc ?_ _)); refine blk_far ?_ NB292_293.out _; (with_reducible repeat (first | refine blk_drewN ?_ _ | refine blk_drew ?_ | refine blk_alloc ?_ _)); refine blk_far ?_ NB292_293.out _; (with_reducible repeat (first | refine blk_drewN ?_ _ | refine blk_drew ?_ | refine blk_alloc ?_ _)); refine blk_far ?_ NB292_293.out _; (with_reducible repeat (first | refine blk_drewN ?_ _ | refine blk_drew ?_ | refine blk_alloc ?_ _)); exact BK292.out⟩, ⟨by (with_reducible repeat (first | refine blk_drewN ?_ _ | refine blk_drew ?_ | refine blk_alloc ?_ _)); refine blk_put (cs := #[.int .i64 x4_1, .int .i64 0, .int .i64 0, .int .i64 0, .int .i32 0]) ?_ 4 _ rfl; (with_reducible repeat (first | refine blk_drewN ?_ _ | refine blk_drew ?_ | refine blk_alloc ?_ _)); refine blk_put (cs := #[.int .i64 x4_1, .int .i64 0, .int .i64 0, .int .i64 0, .int .i32 0]) ?_ 3 _ rfl; (with_reducible repeat (first | refine blk_drewN ?_ _ | refine blk_drew ?_ | refine blk_alloc ?_ _)); refine blk_put (cs := #[.int .i64 x4_1, .int .i64 0, .int .i64 0, .int .i64 0, .int .i32 0]) ?_ 2 _ rfl; (with_reducible repeat (first | refine blk_drewN ?_ _ | refine blk_drew ?_ | refine blk_alloc ?_ _)); refine blk_put (cs := #[.int .i64 x4_1, .int .i64 0, .int .i64 0, .int .i64 0, .int .i32 0]) ?_ 1 _ rfl; (with_reducible repeat (first | refine blk_drewN ?_ _ | refine blk_drew ?_ | refine blk_alloc ?_ _)); refine blk_put (cs := #[.int .i64 0, .int .i64 0, .int .i64 0, .int .i64 0, .int .i32 0]) ?_ 0 _ rfl; (with_reducible repeat (first | refine blk_drewN ?_ _ | refine blk_drew ?_ | refine blk_alloc ?_ _)); exact BK293.out⟩, ⟨by repeat (first | (with_reducible first | exact HB.out | apply below_alloc | apply pw_below_drewN | apply below_drew1 | refine below_set ?_ GE283.out | refine below_set ?_ GE292.out | refine below_set ?_ GE293.out) | exact HB.out)⟩⟩
              case rest =>
                clear HC14
                try clear c1
                try clear c2
                try clear p2
                try clear c3
                try clear c3b0
                try clear p6
                try clear c8
                try clear c10
                try clear c11
                try clear c13
                try clear c15
                try clear c16
                try clear c17
                try clear c19
                try clear c21
                try clear c22
                try clear c23
                try clear hcz12_0
                try clear hcz12_1
                try clear hcz12_2
                try clear hcz12_3
                try clear hcz12_4
                try clear hcz12_5
                try clear hcz12_6
                try clear hcz18_0
                try clear hcz18_1
                try clear hcz18_2
                try clear hcz18_3
                try clear hcz18_4
                try clear hcz20_0
                try clear hcz20_1
                try clear hcz20_2
                try clear hcz20_3
                try clear hcz20_4
                try clear hcz20_5
                try clear hcz20_6
                try clear hcz24_0
                try clear hcz24_1
                try clear hcz24_2
                try clear hcz24_3
                try clear hcz24_4
                try clear hcz9_0
                try clear hcz9_1
                try clear hcz9_2
                try clear hcz9_3
                try clear hcz9_4
                try clear hcz9_5
                try clear hcz9_6
                try clear hfz12_0
                try clear hfz12_1
                try clear hfz12_2
                try clear hfz12_3
                try clear hfz12_4
                try clear hfz12_5
                try clear hfz12_6
                try clear hfz18_0
                try clear hfz18_1
                try clear hfz18_2
                try clear hfz18_3
                try clear hfz18_4
                try clear hfz20_0
                try clear hfz20_1
                try clear hfz20_2
                try clear hfz20_3
                try clear hfz20_4
                try clear hfz20_5
                try clear hfz20_6
                try clear hfz24_0
                try clear hfz24_1
                try clear hfz24_2
                try clear hfz24_3
                try clear hfz24_4
                try clear hfz9_0
                try clear hfz9_1
                try clear hfz9_2
                try clear hfz9_3
                try clear hfz9_4
                try clear hfz9_5
                try clear hfz9_6
                try clear p2
                obtain ⟨kq, x294001_13, HA, HJ13, BK283, BK292, BK293, HB⟩ := hcut
                cases kq with
                | zero => exact absurd HA.out (by simp [pintleref03_Decode.j2])
                | succ kj13 =>
                  have H := HA.out
                  clear HA
                  simp only [pintleref03_Decode.j2] at H
                  have HC25 := Aside0.mk H
                  clear H
                  have hnb26 := NB292_283.out
                  have hnc26 := NB283_292.out
                  have hnb27 := NB292_293.out
                  have hnc27 := NB293_292.out
                  have hcz28_0 : wc.cell? ⟨gb292, 0, none⟩ = some (.int .u32 t284) := (blk_cell BK292.out 0).trans rfl
                  have hcz28_1 : wc.cell? ⟨gb292, 1, none⟩ = some (.int .u32 t285) := (blk_cell BK292.out 1).trans rfl
                  have hcz28_2 : wc.cell? ⟨gb292, 2, none⟩ = some (.int .u32 t286) := (blk_cell BK292.out 2).trans rfl
                  have hcz28_3 : wc.cell? ⟨gb292, 3, none⟩ = some (.int .i64 t287) := (blk_cell BK292.out 3).trans rfl
                  have hcz28_4 : wc.cell? ⟨gb292, 4, none⟩ = some (.bool t288) := (blk_cell BK292.out 4).trans rfl
                  have hcz28_5 : wc.cell? ⟨gb292, 5, none⟩ = some (.bool t289) := (blk_cell BK292.out 5).trans rfl
                  have hcz28_6 : wc.cell? ⟨gb292, 6, none⟩ = some (.bool t290) := (blk_cell BK292.out 6).trans rfl
                  have hfz28_0 := blk_frozen BK292.out 0
                  have hfz28_1 := blk_frozen BK292.out 1
                  have hfz28_2 := blk_frozen BK292.out 2
                  have hfz28_3 := blk_frozen BK292.out 3
                  have hfz28_4 := blk_frozen BK292.out 4
                  have hfz28_5 := blk_frozen BK292.out 5
                  have hfz28_6 := blk_frozen BK292.out 6
                  go_upto_if 37 with (fail)
                  go_cut [] (fun wc => ∃ (kq : Nat) (x294002_24 : Int), Aside0 (pintleref03_Decode.j3 kq a0 x4_1 t284 t285 t286 t287 t288 t289 t290 x4_1 x294001_13 x294002_24 0 0 = some (r1, r2, r3, r4, r5, r6)) ∧ Aside0 (kq ≤ kj13) ∧ Aside0 (wc.heap[gb283]? = some (.cells #[.int .i64 x284000_1, .int .i64 x284001_1, .int .i64 x284002_1, .int .i64 x284003_1, .int .i32 x284004_1] 24 (0, 0))) ∧ Aside0 (wc.heap[gb292]? = some (.cells #[.int .u32 t284, .int .u32 t285, .int .u32 t286, .int .i64 t287, .bool t288, .bool t289, .bool t290] 34 (0, 0))) ∧ Aside0 (wc.heap[gb293]? = some (.cells #[.int .i64 x4_1, .int .i64 x294001_13, .int .i64 x294002_24, .int .i64 0, .int .i32 0] 24 (0, 0))) ∧ Aside0 (Below w.heap.size w wc))
                  case first =>
                    have H := HC25.out
                    clear HC25
                    by_cases c29 : t289 = true
                    · subst c29
                      have H1 : (pintleref03_Decode.j3 kj13 a0 x4_1 t284 t285 t286 t287 t288 true t290 x4_1 x294001_13 ((Int.tdiv a0 32768) % 32) 0 0) = some (r1, r2, r3, r4, r5, r6) := by rw [if_pos rfl] at H; exact H
                      clear H
                      have H := H1
                      clear H1
                      have H' := Aside0.mk H
                      clear H
                      have hnb30 := NB293_283.out
                      have hnc30 := NB283_293.out
                      have hnb31 := NB293_292.out
                      have hnc31 := NB292_293.out
                      have hcz32_0 : wc.cell? ⟨gb293, 0, none⟩ = some (.int .i64 x4_1) := (blk_cell BK293.out 0).trans rfl
                      have hcz32_1 : wc.cell? ⟨gb293, 1, none⟩ = some (.int .i64 x294001_13) := (blk_cell BK293.out 1).trans rfl
                      have hcz32_2 : wc.cell? ⟨gb293, 2, none⟩ = some (.int .i64 0) := (blk_cell BK293.out 2).trans rfl
                      have hcz32_3 : wc.cell? ⟨gb293, 3, none⟩ = some (.int .i64 0) := (blk_cell BK293.out 3).trans rfl
                      have hcz32_4 : wc.cell? ⟨gb293, 4, none⟩ = some (.int .i32 0) := (blk_cell BK293.out 4).trans rfl
                      have hfz32_0 := blk_frozen BK293.out 0
                      have hfz32_1 := blk_frozen BK293.out 1
                      have hfz32_2 := blk_frozen BK293.out 2
                      have hfz32_3 := blk_frozen BK293.out 3
                      have hfz32_4 := blk_frozen BK293.out 4
                      go_wp2
                      go_meet
                      case rel => exact ⟨_, ((Int.tdiv a0 32768) % 32), H', ⟨by have := HK1.out; have := HJ4.out; have := HJ13.out; first | omega | exact Nat.le_refl _⟩, ⟨by (with_reducible repeat (first | refine blk_drewN ?_ _ | refine blk_drew ?_ | refine blk_alloc ?_ _)); refine blk_far ?_ NB283_293.out _; (with_reducible repeat (first | refine blk_drewN ?_ _ | refine blk_drew ?_ | refine blk_alloc ?_ _)); exact BK283.out⟩, ⟨by (with_reducible repeat (first | refine blk_drewN ?_ _ | refine blk_drew ?_ | refine blk_alloc ?_ _)); refine blk_far ?_ NB292_293.out _; (with_reducible repeat (first | refine blk_drewN ?_ _ | refine blk_drew ?_ | refine blk_alloc ?_ _)); exact BK292.out⟩, ⟨by (with_reducible repeat (first | refine blk_drewN ?_ _ | refine blk_drew ?_ | refine blk_alloc ?_ _)); refine blk_put (cs := #[.int .i64 x4_1, .int .i64 x294001_13, .int .i64 0, .int .i64 0, .int .i32 0]) ?_ 2 _ rfl; (with_reducible repeat (first | refine blk_drewN ?_ _ | refine blk_drew ?_ | refine blk_alloc ?_ _)); exact BK293.out⟩, ⟨by repeat (first | (with_reducible first | exact HB.out | apply below_alloc | apply pw_below_drewN | apply below_drew1 | refine below_set ?_ GE283.out | refine below_set ?_ GE292.out | refine below_set ?_ GE293.out) | exact HB.out)⟩⟩
                    · replace c29 := Bool.eq_false_iff.mpr c29
                      subst c29
                      have H1 : (pintleref03_Decode.j3 kj13 a0 x4_1 t284 t285 t286 t287 t288 false t290 x4_1 x294001_13 0 0 0) = some (r1, r2, r3, r4, r5, r6) := by rw [if_neg (show ¬ (false = true) by decide)] at H; exact H
                      clear H
                      have H := H1
                      clear H1
                      have H' := Aside0.mk H
                      clear H
                      go_wp2
                      go_meet
                      case rel => exact ⟨_, (0), H', ⟨by have := HK1.out; have := HJ4.out; have := HJ13.out; first | omega | exact Nat.le_refl _⟩, ⟨by (with_reducible repeat (first | refine blk_drewN ?_ _ | refine blk_drew ?_ | refine blk_alloc ?_ _)); exact BK283.out⟩, ⟨by (with_reducible repeat (first | refine blk_drewN ?_ _ | refine blk_drew ?_ | refine blk_alloc ?_ _)); exact BK292.out⟩, ⟨by (with_reducible repeat (first | refine blk_drewN ?_ _ | refine blk_drew ?_ | refine blk_alloc ?_ _)); exact BK293.out⟩, ⟨by repeat (first | (with_reducible first | exact HB.out | apply below_alloc | apply pw_below_drewN | apply below_drew1 | refine below_set ?_ GE283.out | refine below_set ?_ GE292.out | refine below_set ?_ GE293.out) | exact HB.out)⟩⟩
                  case rest =>
                    clear HC25
                    try clear c1
                    try clear c2
                    try clear p2
                    try clear c3
                    try clear c3b0
                    try clear p6
                    try clear c8
                    try clear c10
                    try clear c11
                    try clear c13
                    try clear c15
                    try clear c16
                    try clear c17
                    try clear c19
                    try clear c21
                    try clear c22
                    try clear c23
                    try clear c26
                    try clear c27
                    try clear c29
                    try clear c30
                    try clear c31
                    try clear hcz12_0
                    try clear hcz12_1
                    try clear hcz12_2
                    try clear hcz12_3
                    try clear hcz12_4
                    try clear hcz12_5
                    try clear hcz12_6
                    try clear hcz18_0
                    try clear hcz18_1
                    try clear hcz18_2
                    try clear hcz18_3
                    try clear hcz18_4
                    try clear hcz20_0
                    try clear hcz20_1
                    try clear hcz20_2
                    try clear hcz20_3
                    try clear hcz20_4
                    try clear hcz20_5
                    try clear hcz20_6
                    try clear hcz24_0
                    try clear hcz24_1
                    try clear hcz24_2
                    try clear hcz24_3
                    try clear hcz24_4
                    try clear hcz28_0
                    try clear hcz28_1
                    try clear hcz28_2
                    try clear hcz28_3
                    try clear hcz28_4
                    try clear hcz28_5
                    try clear hcz28_6
                    try clear hcz32_0
                    try clear hcz32_1
                    try clear hcz32_2
                    try clear hcz32_3
                    try clear hcz32_4
                    try clear hcz9_0
                    try clear hcz9_1
                    try clear hcz9_2
                    try clear hcz9_3
                    try clear hcz9_4
                    try clear hcz9_5
                    try clear hcz9_6
                    try clear hfz12_0
                    try clear hfz12_1
                    try clear hfz12_2
                    try clear hfz12_3
                    try clear hfz12_4
                    try clear hfz12_5
                    try clear hfz12_6
                    try clear hfz18_0
                    try clear hfz18_1
                    try clear hfz18_2
                    try clear hfz18_3
                    try clear hfz18_4
                    try clear hfz20_0
                    try clear hfz20_1
                    try clear hfz20_2
                    try clear hfz20_3
                    try clear hfz20_4
                    try clear hfz20_5
                    try clear hfz20_6
                    try clear hfz24_0
                    try clear hfz24_1
                    try clear hfz24_2
                    try clear hfz24_3
                    try clear hfz24_4
                    try clear hfz28_0
                    try clear hfz28_1
                    try clear hfz28_2
                    try clear hfz28_3
                    try clear hfz28_4
                    try clear hfz28_5
                    try clear hfz28_6
                    try clear hfz32_0
                    try clear hfz32_1
                    try clear hfz32_2
                    try clear hfz32_3
                    try clear hfz32_4
                    try clear hfz9_0
                    try clear hfz9_1
                    try clear hfz9_2
                    try clear hfz9_3
                    try clear hfz9_4
                    try clear hfz9_5
                    try clear hfz9_6
                    try clear p2
                    try clear p6
                    obtain ⟨kq, x294002_24, HA, HJ24, BK283, BK292, BK293, HB⟩ := hcut
                    cases kq with
                    | zero => exact absurd HA.out (by simp [pintleref03_Decode.j3])
                    | succ kj24 =>
                      have H := HA.out
                      clear HA
                      simp only [pintleref03_Decode.j3] at H
                      have HC33 := Aside0.mk H
                      clear H
                      have hnb34 := NB292_283.out
                      have hnc34 := NB283_292.out
                      have hnb35 := NB292_293.out
                      have hnc35 := NB293_292.out
                      have hcz36_0 : wc.cell? ⟨gb292, 0, none⟩ = some (.int .u32 t284) := (blk_cell BK292.out 0).trans rfl
                      have hcz36_1 : wc.cell? ⟨gb292, 1, none⟩ = some (.int .u32 t285) := (blk_cell BK292.out 1).trans rfl
                      have hcz36_2 : wc.cell? ⟨gb292, 2, none⟩ = some (.int .u32 t286) := (blk_cell BK292.out 2).trans rfl
                      have hcz36_3 : wc.cell? ⟨gb292, 3, none⟩ = some (.int .i64 t287) := (blk_cell BK292.out 3).trans rfl
                      have hcz36_4 : wc.cell? ⟨gb292, 4, none⟩ = some (.bool t288) := (blk_cell BK292.out 4).trans rfl
                      have hcz36_5 : wc.cell? ⟨gb292, 5, none⟩ = some (.bool t289) := (blk_cell BK292.out 5).trans rfl
                      have hcz36_6 : wc.cell? ⟨gb292, 6, none⟩ = some (.bool t290) := (blk_cell BK292.out 6).trans rfl
                      have hfz36_0 := blk_frozen BK292.out 0
                      have hfz36_1 := blk_frozen BK292.out 1
                      have hfz36_2 := blk_frozen BK292.out 2
                      have hfz36_3 := blk_frozen BK292.out 3
                      have hfz36_4 := blk_frozen BK292.out 4
                      have hfz36_5 := blk_frozen BK292.out 5
                      have hfz36_6 := blk_frozen BK292.out 6
                      go_upto_if 44 with (fail)
                      go_cut [] (fun wc => ∃ (kq : Nat) (x294003_32 : Int), Aside0 (pintleref03_Decode.j4 kq a0 x4_1 t284 t285 t286 t287 t288 t289 t290 x4_1 x294001_13 x294002_24 x294003_32 0 = some (r1, r2, r3, r4, r5, r6)) ∧ Aside0 (kq ≤ kj24) ∧ Aside0 (wc.heap[gb283]? = some (.cells #[.int .i64 x284000_1, .int .i64 x284001_1, .int .i64 x284002_1, .int .i64 x284003_1, .int .i32 x284004_1] 24 (0, 0))) ∧ Aside0 (wc.heap[gb292]? = some (.cells #[.int .u32 t284, .int .u32 t285, .int .u32 t286, .int .i64 t287, .bool t288, .bool t289, .bool t290] 34 (0, 0))) ∧ Aside0 (wc.heap[gb293]? = some (.cells #[.int .i64 x4_1, .int .i64 x294001_13, .int .i64 x294002_24, .int .i64 x294003_32, .int .i32 0] 24 (0, 0))) ∧ Aside0 (Below w.heap.size w wc))
                      case first =>
                        have H := HC33.out
                        clear HC33
                        by_cases c37 : t290 = true
                        · subst c37
                          have H1 : (pintleref03_Decode.j4 kj24 a0 x4_1 t284 t285 t286 t287 t288 t289 true x4_1 x294001_13 x294002_24 ((Int.tdiv a0 1048576) % 32) 0) = some (r1, r2, r3, r4, r5, r6) := by rw [if_pos rfl] at H; exact H
                          clear H
                          have H := H1
                          clear H1
                          have H' := Aside0.mk H
                          clear H
                          have hnb38 := NB293_283.out
                          have hnc38 := NB283_293.out
                          have hnb39 := NB293_292.out
                          have hnc39 := NB292_293.out
                          have hcz40_0 : wc.cell? ⟨gb293, 0, none⟩ = some (.int .i64 x4_1) := (blk_cell BK293.out 0).trans rfl
                          have hcz40_1 : wc.cell? ⟨gb293, 1, none⟩ = some (.int .i64 x294001_13) := (blk_cell BK293.out 1).trans rfl
                          have hcz40_2 : wc.cell? ⟨gb293, 2, none⟩ = some (.int .i64 x294002_24) := (blk_cell BK293.out 2).trans rfl
                          have hcz40_3 : wc.cell? ⟨gb293, 3, none⟩ = some (.int .i64 0) := (blk_cell BK293.out 3).trans rfl
                          have hcz40_4 : wc.cell? ⟨gb293, 4, none⟩ = some (.int .i32 0) := (blk_cell BK293.out 4).trans rfl
                          have hfz40_0 := blk_frozen BK293.out 0
                          have hfz40_1 := blk_frozen BK293.out 1
                          have hfz40_2 := blk_frozen BK293.out 2
                          have hfz40_3 := blk_frozen BK293.out 3
                          have hfz40_4 := blk_frozen BK293.out 4
                          go_wp2
                          go_meet
                          case rel => exact ⟨_, ((Int.tdiv a0 1048576) % 32), H', ⟨by have := HK1.out; have := HJ4.out; have := HJ13.out; have := HJ24.out; first | omega | exact Nat.le_refl _⟩, ⟨by (with_reducible repeat (first | refine blk_drewN ?_ _ | refine blk_drew ?_ | refine blk_alloc ?_ _)); refine blk_far ?_ NB283_293.out _; (with_reducible repeat (first | refine blk_drewN ?_ _ | refine blk_drew ?_ | refine blk_alloc ?_ _)); exact BK283.out⟩, ⟨by (with_reducible repeat (first | refine blk_drewN ?_ _ | refine blk_drew ?_ | refine blk_alloc ?_ _)); refine blk_far ?_ NB292_293.out _; (with_reducible repeat (first | refine blk_drewN ?_ _ | refine blk_drew ?_ | refine blk_alloc ?_ _)); exact BK292.out⟩, ⟨by (with_reducible repeat (first | refine blk_drewN ?_ _ | refine blk_drew ?_ | refine blk_alloc ?_ _)); refine blk_put (cs := #[.int .i64 x4_1, .int .i64 x294001_13, .int .i64 x294002_24, .int .i64 0, .int .i32 0]) ?_ 3 _ rfl; (with_reducible repeat (first | refine blk_drewN ?_ _ | refine blk_drew ?_ | refine blk_alloc ?_ _)); exact BK293.out⟩, ⟨by repeat (first | (with_reducible first | exact HB.out | apply below_alloc | apply pw_below_drewN | apply below_drew1 | refine below_set ?_ GE283.out | refine below_set ?_ GE292.out | refine below_set ?_ GE293.out) | exact HB.out)⟩⟩
                        · replace c37 := Bool.eq_false_iff.mpr c37
                          subst c37
                          have H1 : (pintleref03_Decode.j4 kj24 a0 x4_1 t284 t285 t286 t287 t288 t289 false x4_1 x294001_13 x294002_24 0 0) = some (r1, r2, r3, r4, r5, r6) := by rw [if_neg (show ¬ (false = true) by decide)] at H; exact H
                          clear H
                          have H := H1
                          clear H1
                          have H' := Aside0.mk H
                          clear H
                          go_wp2
                          go_meet
                          case rel => exact ⟨_, (0), H', ⟨by have := HK1.out; have := HJ4.out; have := HJ13.out; have := HJ24.out; first | omega | exact Nat.le_refl _⟩, ⟨by (with_reducible repeat (first | refine blk_drewN ?_ _ | refine blk_drew ?_ | refine blk_alloc ?_ _)); exact BK283.out⟩, ⟨by (with_reducible repeat (first | refine blk_drewN ?_ _ | refine blk_drew ?_ | refine blk_alloc ?_ _)); exact BK292.out⟩, ⟨by (with_reducible repeat (first | refine blk_drewN ?_ _ | refine blk_drew ?_ | refine blk_alloc ?_ _)); exact BK293.out⟩, ⟨by repeat (first | (with_reducible first | exact HB.out | apply below_alloc | apply pw_below_drewN | apply below_drew1 | refine below_set ?_ GE283.out | refine below_set ?_ GE292.out | refine below_set ?_ GE293.out) | exact HB.out)⟩⟩
                      case rest =>
                        clear HC33
                        try clear c1
                        try clear c2
                        try clear p2
                        try clear c3
                        try clear c3b0
                        try clear p6
                        try clear c8
                        try clear c10
                        try clear c11
                        try clear c13
                        try clear c15
                        try clear c16
                        try clear c17
                        try clear c19
                        try clear c21
                        try clear c22
                        try clear c23
                        try clear c26
                        try clear c27
                        try clear c29
                        try clear c30
                        try clear c31
                        try clear c34
                        try clear c35
                        try clear c37
                        try clear c38
                        try clear c39
                        try clear hcz12_0
                        try clear hcz12_1
                        try clear hcz12_2
                        try clear hcz12_3
                        try clear hcz12_4
                        try clear hcz12_5
                        try clear hcz12_6
                        try clear hcz18_0
                        try clear hcz18_1
                        try clear hcz18_2
                        try clear hcz18_3
                        try clear hcz18_4
                        try clear hcz20_0
                        try clear hcz20_1
                        try clear hcz20_2
                        try clear hcz20_3
                        try clear hcz20_4
                        try clear hcz20_5
                        try clear hcz20_6
                        try clear hcz24_0
                        try clear hcz24_1
                        try clear hcz24_2
                        try clear hcz24_3
                        try clear hcz24_4
                        try clear hcz28_0
                        try clear hcz28_1
                        try clear hcz28_2
                        try clear hcz28_3
                        try clear hcz28_4
                        try clear hcz28_5
                        try clear hcz28_6
                        try clear hcz32_0
                        try clear hcz32_1
                        try clear hcz32_2
                        try clear hcz32_3
                        try clear hcz32_4
                        try clear hcz36_0
                        try clear hcz36_1
                        try clear hcz36_2
                        try clear hcz36_3
                        try clear hcz36_4
                        try clear hcz36_5
                        try clear hcz36_6
                        try clear hcz40_0
                        try clear hcz40_1
                        try clear hcz40_2
                        try clear hcz40_3
                        try clear hcz40_4
                        try clear hcz9_0
                        try clear hcz9_1
                        try clear hcz9_2
                        try clear hcz9_3
                        try clear hcz9_4
                        try clear hcz9_5
                        try clear hcz9_6
                        try clear hfz12_0
                        try clear hfz12_1
                        try clear hfz12_2
                        try clear hfz12_3
                        try clear hfz12_4
                        try clear hfz12_5
                        try clear hfz12_6
                        try clear hfz18_0
                        try clear hfz18_1
                        try clear hfz18_2
                        try clear hfz18_3
                        try clear hfz18_4
                        try clear hfz20_0
                        try clear hfz20_1
                        try clear hfz20_2
                        try clear hfz20_3
                        try clear hfz20_4
                        try clear hfz20_5
                        try clear hfz20_6
                        try clear hfz24_0
                        try clear hfz24_1
                        try clear hfz24_2
                        try clear hfz24_3
                        try clear hfz24_4
                        try clear hfz28_0
                        try clear hfz28_1
                        try clear hfz28_2
                        try clear hfz28_3
                        try clear hfz28_4
                        try clear hfz28_5
                        try clear hfz28_6
                        try clear hfz32_0
                        try clear hfz32_1
                        try clear hfz32_2
                        try clear hfz32_3
                        try clear hfz32_4
                        try clear hfz36_0
                        try clear hfz36_1
                        try clear hfz36_2
                        try clear hfz36_3
                        try clear hfz36_4
                        try clear hfz36_5
                        try clear hfz36_6
                        try clear hfz40_0
                        try clear hfz40_1
                        try clear hfz40_2
                        try clear hfz40_3
                        try clear hfz40_4
                        try clear hfz9_0
                        try clear hfz9_1
                        try clear hfz9_2
                        try clear hfz9_3
                        try clear hfz9_4
                        try clear hfz9_5
                        try clear hfz9_6
                        try clear p2
                        try clear p6
                        obtain ⟨kq, x294003_32, HA, HJ32, BK283, BK292, BK293, HB⟩ := hcut
                        cases kq with
                        | zero => exact absurd HA.out (by simp [pintleref03_Decode.j4])
                        | succ kj32 =>
                          have H := HA.out
                          clear HA
                          simp only [pintleref03_Decode.j4] at H
                          have HC41 := Aside0.mk H
                          clear H
                          go_upto_region 13 with (fail)
                          go_cut [57] (fun v57 wc => ∃ (kq : Nat) (x57_40 : Bool), v57 = .bool x57_40 ∧ Aside0 (pintleref03_Decode.j5 kq a0 x4_1 x57_40 t284 t285 t286 t287 t288 t289 t290 x4_1 x294001_13 x294002_24 x294003_32 0 = some (r1, r2, r3, r4, r5, r6)) ∧ Aside0 (kq ≤ kj32) ∧ Aside0 (wc.heap[gb283]? = some (.cells #[.int .i64 x284000_1, .int .i64 x284001_1, .int .i64 x284002_1, .int .i64 x284003_1, .int .i32 x284004_1] 24 (0, 0))) ∧ Aside0 (wc.heap[gb292]? = some (.cells #[.int .u32 t284, .int .u32 t285, .int .u32 t286, .int .i64 t287, .bool t288, .bool t289, .bool t290] 34 (0, 0))) ∧ Aside0 (wc.heap[gb293]? = some (.cells #[.int .i64 x4_1, .int .i64 x294001_13, .int .i64 x294002_24, .int .i64 x294003_32, .int .i32 0] 24 (0, 0))) ∧ Aside0 (Below w.heap.size w wc))
                          case first =>
                            have H := HC41.out
                            clear HC41
                            by_cases c42 : t287 > 0
                            · rw [if_pos c42] at H
                              have c42b0 : decide (0 < t287) = true := decide_eq_true c42
                              clear c42
                              (first | rw [c42b0] | (simp only [i64_w, i32_w]; rw [c42b0]) | skip)
                              have H' := Aside0.mk H
                              clear H
                              have hnb43 := NB292_283.out
                              have hnc43 := NB283_292.out
                              have hnb44 := NB292_293.out
                              have hnc44 := NB293_292.out
                              have hcz45_0 : wc.cell? ⟨gb292, 0, none⟩ = some (.int .u32 t284) := (blk_cell BK292.out 0).trans rfl
                              have hcz45_1 : wc.cell? ⟨gb292, 1, none⟩ = some (.int .u32 t285) := (blk_cell BK292.out 1).trans rfl
                              have hcz45_2 : wc.cell? ⟨gb292, 2, none⟩ = some (.int .u32 t286) := (blk_cell BK292.out 2).trans rfl
                              have hcz45_3 : wc.cell? ⟨gb292, 3, none⟩ = some (.int .i64 t287) := (blk_cell BK292.out 3).trans rfl
                              have hcz45_4 : wc.cell? ⟨gb292, 4, none⟩ = some (.bool t288) := (blk_cell BK292.out 4).trans rfl
                              have hcz45_5 : wc.cell? ⟨gb292, 5, none⟩ = some (.bool t289) := (blk_cell BK292.out 5).trans rfl
                              have hcz45_6 : wc.cell? ⟨gb292, 6, none⟩ = some (.bool t290) := (blk_cell BK292.out 6).trans rfl
                              have hfz45_0 := blk_frozen BK292.out 0
                              have hfz45_1 := blk_frozen BK292.out 1
                              have hfz45_2 := blk_frozen BK292.out 2
                              have hfz45_3 := blk_frozen BK292.out 3
                              have hfz45_4 := blk_frozen BK292.out 4
                              have hfz45_5 := blk_frozen BK292.out 5
                              have hfz45_6 := blk_frozen BK292.out 6
                              go_wp2
                              go_meet
                              case rel => exact ⟨_, (decide (t287 < 6)), (by first | rfl | (simp; done) | (simp [*]; done)), H', ⟨by have := HK1.out; have := HJ4.out; have := HJ13.out; have := HJ24.out; have := HJ32.out; first | omega | exact Nat.le_refl _⟩, ⟨by (with_reducible repeat (first | refine blk_drewN ?_ _ | refine blk_drew ?_ | refine blk_alloc ?_ _)); exact BK283.out⟩, ⟨by (with_reducible repeat (first | refine blk_drewN ?_ _ | refine blk_drew ?_ | refine blk_alloc ?_ _)); exact BK292.out⟩, ⟨by (with_reducible repeat (first | refine blk_drewN ?_ _ | refine blk_drew ?_ | refine blk_alloc ?_ _)); exact BK293.out⟩, ⟨by repeat (first | (with_reducible first | exact HB.out | apply below_alloc | apply pw_below_drewN | apply below_drew1 | refine below_set ?_ GE283.out | refine below_set ?_ GE292.out | refine below_set ?_ GE293.out) | exact HB.out)⟩⟩
                            · rw [if_neg c42] at H
                              have c42b0 : decide (0 < t287) = false := decide_eq_false c42
                              clear c42
                              (first | rw [c42b0] | (simp only [i64_w, i32_w]; rw [c42b0]) | skip)
                              have H' := Aside0.mk H
                              clear H
                              have hnb46 := NB292_283.out
                              have hnc46 := NB283_292.out
                              have hnb47 := NB292_293.out
                              have hnc47 := NB293_292.out
                              have hcz48_0 : wc.cell? ⟨gb292, 0, none⟩ = some (.int .u32 t284) := (blk_cell BK292.out 0).trans rfl
                              have hcz48_1 : wc.cell? ⟨gb292, 1, none⟩ = some (.int .u32 t285) := (blk_cell BK292.out 1).trans rfl
                              have hcz48_2 : wc.cell? ⟨gb292, 2, none⟩ = some (.int .u32 t286) := (blk_cell BK292.out 2).trans rfl
                              have hcz48_3 : wc.cell? ⟨gb292, 3, none⟩ = some (.int .i64 t287) := (blk_cell BK292.out 3).trans rfl
                              have hcz48_4 : wc.cell? ⟨gb292, 4, none⟩ = some (.bool t288) := (blk_cell BK292.out 4).trans rfl
                              have hcz48_5 : wc.cell? ⟨gb292, 5, none⟩ = some (.bool t289) := (blk_cell BK292.out 5).trans rfl
                              have hcz48_6 : wc.cell? ⟨gb292, 6, none⟩ = some (.bool t290) := (blk_cell BK292.out 6).trans rfl
                              have hfz48_0 := blk_frozen BK292.out 0
                              have hfz48_1 := blk_frozen BK292.out 1
                              have hfz48_2 := blk_frozen BK292.out 2
                              have hfz48_3 := blk_frozen BK292.out 3
                              have hfz48_4 := blk_frozen BK292.out 4
                              have hfz48_5 := blk_frozen BK292.out 5
                              have hfz48_6 := blk_frozen BK292.out 6
                              go_wp2
                              go_meet
                              case rel => exact ⟨_, (false), (by first | rfl | (simp; done) | (simp [*]; done)), H', ⟨by have := HK1.out; have := HJ4.out; have := HJ13.out; have := HJ24.out; have := HJ32.out; first | omega | exact Nat.le_refl _⟩, ⟨by (with_reducible repeat (first | refine blk_drewN ?_ _ | refine blk_drew ?_ | refine blk_alloc ?_ _)); exact BK283.out⟩, ⟨by (with_reducible repeat (first | refine blk_drewN ?_ _ | refine blk_drew ?_ | refine blk_alloc ?_ _)); exact BK292.out⟩, ⟨by (with_reducible repeat (first | refine blk_drewN ?_ _ | refine blk_drew ?_ | refine blk_alloc ?_ _)); exact BK293.out⟩, ⟨by repeat (first | (with_reducible first | exact HB.out | apply below_alloc | apply pw_below_drewN | apply below_drew1 | refine below_set ?_ GE283.out | refine below_set ?_ GE292.out | refine below_set ?_ GE293.out) | exact HB.out)⟩⟩
                          case rest =>
                            clear HC41
                            try clear c1
                            try clear c2
                            try clear p2
                            try clear c3
                            try clear c3b0
                            try clear c4
                            try clear p6
                            try clear c8
                            try clear c10
                            try clear c11
                            try clear c13
                            try clear c15
                            try clear c16
                            try clear c17
                            try clear c19
                            try clear c21
                            try clear c22
                            try clear c23
                            try clear c26
                            try clear c27
                            try clear c29
                            try clear c30
                            try clear c31
                            try clear c34
                            try clear c35
                            try clear c37
                            try clear c38
                            try clear c39
                            try clear c42
                            try clear c42b0
                            try clear c43
                            try clear c44
                            try clear c46
                            try clear c47
                            try clear hcz12_0
                            try clear hcz12_1
                            try clear hcz12_2
                            try clear hcz12_3
                            try clear hcz12_4
                            try clear hcz12_5
                            try clear hcz12_6
                            try clear hcz18_0
                            try clear hcz18_1
                            try clear hcz18_2
                            try clear hcz18_3
                            try clear hcz18_4
                            try clear hcz20_0
                            try clear hcz20_1
                            try clear hcz20_2
                            try clear hcz20_3
                            try clear hcz20_4
                            try clear hcz20_5
                            try clear hcz20_6
                            try clear hcz24_0
                            try clear hcz24_1
                            try clear hcz24_2
                            try clear hcz24_3
                            try clear hcz24_4
                            try clear hcz28_0
                            try clear hcz28_1
                            try clear hcz28_2
                            try clear hcz28_3
                            try clear hcz28_4
                            try clear hcz28_5
                            try clear hcz28_6
                            try clear hcz32_0
                            try clear hcz32_1
                            try clear hcz32_2
                            try clear hcz32_3
                            try clear hcz32_4
                            try clear hcz36_0
                            try clear hcz36_1
                            try clear hcz36_2
                            try clear hcz36_3
                            try clear hcz36_4
                            try clear hcz36_5
                            try clear hcz36_6
                            try clear hcz40_0
                            try clear hcz40_1
                            try clear hcz40_2
                            try clear hcz40_3
                            try clear hcz40_4
                            try clear hcz45_0
                            try clear hcz45_1
                            try clear hcz45_2
                            try clear hcz45_3
                            try clear hcz45_4
                            try clear hcz45_5
                            try clear hcz45_6
                            try clear hcz48_0
                            try clear hcz48_1
                            try clear hcz48_2
                            try clear hcz48_3
                            try clear hcz48_4
                            try clear hcz48_5
                            try clear hcz48_6
                            try clear hcz9_0
                            try clear hcz9_1
                            try clear hcz9_2
                            try clear hcz9_3
                            try clear hcz9_4
                            try clear hcz9_5
                            try clear hcz9_6
                            try clear hfz12_0
                            try clear hfz12_1
                            try clear hfz12_2
                            try clear hfz12_3
                            try clear hfz12_4
                            try clear hfz12_5
                            try clear hfz12_6
                            try clear hfz18_0
                            try clear hfz18_1
                            try clear hfz18_2
                            try clear hfz18_3
                            try clear hfz18_4
                            try clear hfz20_0
                            try clear hfz20_1
                            try clear hfz20_2
                            try clear hfz20_3
                            try clear hfz20_4
                            try clear hfz20_5
                            try clear hfz20_6
                            try clear hfz24_0
                            try clear hfz24_1
                            try clear hfz24_2
                            try clear hfz24_3
                            try clear hfz24_4
                            try clear hfz28_0
                            try clear hfz28_1
                            try clear hfz28_2
                            try clear hfz28_3
                            try clear hfz28_4
                            try clear hfz28_5
                            try clear hfz28_6
                            try clear hfz32_0
                            try clear hfz32_1
                            try clear hfz32_2
                            try clear hfz32_3
                            try clear hfz32_4
                            try clear hfz36_0
                            try clear hfz36_1
                            try clear hfz36_2
                            try clear hfz36_3
                            try clear hfz36_4
                            try clear hfz36_5
                            try clear hfz36_6
                            try clear hfz40_0
                            try clear hfz40_1
                            try clear hfz40_2
                            try clear hfz40_3
                            try clear hfz40_4
                            try clear hfz45_0
                            try clear hfz45_1
                            try clear hfz45_2
                            try clear hfz45_3
                            try clear hfz45_4
                            try clear hfz45_5
                            try clear hfz45_6
                            try clear hfz48_0
                            try clear hfz48_1
                            try clear hfz48_2
                            try clear hfz48_3
                            try clear hfz48_4
                            try clear hfz48_5
                            try clear hfz48_6
                            try clear hfz9_0
                            try clear hfz9_1
                            try clear hfz9_2
                            try clear hfz9_3
                            try clear hfz9_4
                            try clear hfz9_5
                            try clear hfz9_6
                            try clear p2
                            try clear p6
                            obtain ⟨kq, x57_40, rfl, HA, HJ40, BK283, BK292, BK293, HB⟩ := hcut
                            cases kq with
                            | zero => exact absurd HA.out (by simp [pintleref03_Decode.j5])
                            | succ kj40 =>
                              have H := HA.out
                              clear HA
                              simp only [pintleref03_Decode.j5] at H
                              have HC49 := Aside0.mk H
                              clear H
                              go_upto_if 57 with (fail)
                              go_cut [] (fun wc => ∃ (kq : Nat) (x294004_48 : Int), Aside0 (pintleref03_Decode.j6 kq a0 x4_1 t284 t285 t286 t287 t288 t289 t290 x4_1 x294001_13 x294002_24 x294003_32 x294004_48 = some (r1, r2, r3, r4, r5, r6)) ∧ Aside0 (kq ≤ kj40) ∧ Aside0 (wc.heap[gb283]? = some (.cells #[.int .i64 x284000_1, .int .i64 x284001_1, .int .i64 x284002_1, .int .i64 x284003_1, .int .i32 x284004_1] 24 (0, 0))) ∧ Aside0 (wc.heap[gb292]? = some (.cells #[.int .u32 t284, .int .u32 t285, .int .u32 t286, .int .i64 t287, .bool t288, .bool t289, .bool t290] 34 (0, 0))) ∧ Aside0 (wc.heap[gb293]? = some (.cells #[.int .i64 x4_1, .int .i64 x294001_13, .int .i64 x294002_24, .int .i64 x294003_32, .int .i32 x294004_48] 24 (0, 0))) ∧ Aside0 (Below w.heap.size w wc))
                              case first =>
                                have H := HC49.out
                                clear HC49
                                by_cases c50 : x57_40 = true
                                · subst c50
                                  have H1 : ((pintleref02_Get.f kj40 t287 a0).bind fun t294 => (pintleref03_Decode.j6 kj40 a0 x4_1 t284 t285 t286 t287 t288 t289 t290 x4_1 x294001_13 x294002_24 x294003_32 t294)) = some (r1, r2, r3, r4, r5, r6) := by rw [if_pos rfl] at H; exact H
                                  clear H
                                  have H := H1
                                  clear H1
                                  replace H := Option.bind_eq_some_iff.mp H
                                  obtain ⟨t294, A510, H⟩ := H
                                  replace H : (pintleref03_Decode.j6 kj40 a0 x4_1 t284 t285 t286 t287 t288 t289 t290 x4_1 x294001_13 x294002_24 x294003_32 t294) = some (r1, r2, r3, r4, r5, r6) := H
                                  have A51 := Aside0.mk A510
                                  clear A510
                                  have H' := Aside0.mk H
                                  clear H
                                  have hnb52 := NB292_283.out
                                  have hnc52 := NB283_292.out
                                  have hnb53 := NB292_293.out
                                  have hnc53 := NB293_292.out
                                  have hcz54_0 : wc.cell? ⟨gb292, 0, none⟩ = some (.int .u32 t284) := (blk_cell BK292.out 0).trans rfl
                                  have hcz54_1 : wc.cell? ⟨gb292, 1, none⟩ = some (.int .u32 t285) := (blk_cell BK292.out 1).trans rfl
                                  have hcz54_2 : wc.cell? ⟨gb292, 2, none⟩ = some (.int .u32 t286) := (blk_cell BK292.out 2).trans rfl
                                  have hcz54_3 : wc.cell? ⟨gb292, 3, none⟩ = some (.int .i64 t287) := (blk_cell BK292.out 3).trans rfl
                                  have hcz54_4 : wc.cell? ⟨gb292, 4, none⟩ = some (.bool t288) := (blk_cell BK292.out 4).trans rfl
                                  have hcz54_5 : wc.cell? ⟨gb292, 5, none⟩ = some (.bool t289) := (blk_cell BK292.out 5).trans rfl
                                  have hcz54_6 : wc.cell? ⟨gb292, 6, none⟩ = some (.bool t290) := (blk_cell BK292.out 6).trans rfl
                                  have hfz54_0 := blk_frozen BK292.out 0
                                  have hfz54_1 := blk_frozen BK292.out 1
                                  have hfz54_2 := blk_frozen BK292.out 2
                                  have hfz54_3 := blk_frozen BK292.out 3
                                  have hfz54_4 := blk_frozen BK292.out 4
                                  have hfz54_5 := blk_frozen BK292.out 5
                                  have hfz54_6 := blk_frozen BK292.out 6
                                  go_wp2_with (first | ((with_reducible refine gate_callee (f := 24) rfl ?_); refine goesL_ (some 61) rfl rfl Try.func24 (by kernel_rfl) rfl #[.int .i64 t287, .int .u32 a0] rfl (by (try simp only [List.map_toArray, List.map_cons, List.map_nil]); first | done | rfl | (simp only [List.length_drop, List.length_take]; rfl)) ?_; (with_reducible refine (pintleref02_Get.calls kj40 t287 a0 t294 _ A51.out).mono ?_); rintro e w55 ⟨rfl, hb⟩; refine ⟨_, rfl, ?_⟩; have n0_ := Aside0.mk (blk_below (g := gb283) (o := .cells #[.int .i64 x284000_1, .int .i64 x284001_1, .int .i64 x284002_1, .int .i64 x284003_1, .int .i32 x284004_1] 24 (0, 0)) (by (with_reducible repeat (first | refine blk_drewN ?_ _ | refine blk_drew ?_ | refine blk_alloc ?_ _)); exact BK283.out) hb); have n1_ := Aside0.mk (blk_below (g := gb292) (o := .cells #[.int .u32 t284, .int .u32 t285, .int .u32 t286, .int .i64 t287, .bool t288, .bool t289, .bool t290] 34 (0, 0)) (by (with_reducible repeat (first | refine blk_drewN ?_ _ | refine blk_drew ?_ | refine blk_alloc ?_ _)); exact BK292.out) hb); have n2_ := Aside0.mk (blk_below (g := gb293) (o := .cells #[.int .i64 x4_1, .int .i64 x294001_13, .int .i64 x294002_24, .int .i64 x294003_32, .int .i32 0] 24 (0, 0)) (by (with_reducible repeat (first | refine blk_drewN ?_ _ | refine blk_drew ?_ | refine blk_alloc ?_ _)); exact BK293.out) hb); have n3_ := Aside0.mk (below_step (by repeat (first | (with_reducible first | exact HB.out | apply below_alloc | apply pw_below_drewN | apply below_drew1 | refine below_set ?_ GE283.out | refine below_set ?_ GE292.out | refine below_set ?_ GE293.out) | exact HB.out)) hb); clear BK283; clear BK292; clear BK293; clear HB; have BK283 := n0_; have BK292 := n1_; have BK293 := n2_; have HB := n3_; clear n0_ n1_ n2_ n3_; (try clear hb); (try clear hb2); (try clear hk); (try clear hi); have hnb56 := NB293_283.out; have hnc56 := NB283_293.out; have hcz57_0 : w55.cell? ⟨gb293, 0, none⟩ = some (.int .i64 x4_1) := (blk_cell BK293.out 0).trans rfl; have hcz57_1 : w55.cell? ⟨gb293, 1, none⟩ = some (.int .i64 x294001_13) := (blk_cell BK293.out 1).trans rfl; have hcz57_2 : w55.cell? ⟨gb293, 2, none⟩ = some (.int .i64 x294002_24) := (blk_cell BK293.out 2).trans rfl; have hcz57_3 : w55.cell? ⟨gb293, 3, none⟩ = some (.int .i64 x294003_32) := (blk_cell BK293.out 3).trans rfl; have hcz57_4 : w55.cell? ⟨gb293, 4, none⟩ = some (.int .i32 0) := (blk_cell BK293.out 4).trans rfl; have hfz57_0 := blk_frozen BK293.out 0; have hfz57_1 := blk_frozen BK293.out 1; have hfz57_2 := blk_frozen BK293.out 2; have hfz57_3 := blk_frozen BK293.out 3; have hfz57_4 := blk_frozen BK293.out 4))
                                  go_meet
                                  case rel => exact ⟨_, (t294), H', ⟨by have := HK1.out; have := HJ4.out; have := HJ13.out; have := HJ24.out; have := HJ32.out; have := HJ40.out; first | omega | exact Nat.le_refl _⟩, ⟨by (with_reducible repeat (first | refine blk_drewN ?_ _ | refine blk_drew ?_ | refine blk_alloc ?_ _)); refine blk_far ?_ NB283_293.out _; (with_reducible repeat (first | refine blk_drewN ?_ _ | refine blk_drew ?_ | refine blk_alloc ?_ _)); exact BK283.out⟩, ⟨by (with_reducible repeat (first | refine blk_drewN ?_ _ | refine blk_drew ?_ | refine blk_alloc ?_ _)); refine blk_far ?_ NB292_293.out _; (with_reducible repeat (first | refine blk_drewN ?_ _ | refine blk_drew ?_ | refine blk_alloc ?_ _)); exact BK292.out⟩, ⟨by (with_reducible repeat (first | refine blk_drewN ?_ _ | refine blk_drew ?_ | refine blk_alloc ?_ _)); refine blk_put (cs := #[.int .i64 x4_1, .int .i64 x294001_13, .int .i64 x294002_24, .int .i64 x294003_32, .int .i32 0]) ?_ 4 _ rfl; (with_reducible repeat (first | refine blk_drewN ?_ _ | refine blk_drew ?_ | refine blk_alloc ?_ _)); exact BK293.out⟩, ⟨by repeat (first | (with_reducible first | exact HB.out | apply below_alloc | apply pw_below_drewN | apply below_drew1 | refine below_set ?_ GE283.out | refine below_set ?_ GE292.out | refine below_set ?_ GE293.out) | exact HB.out)⟩⟩
                                · replace c50 := Bool.eq_false_iff.mpr c50
                                  subst c50
                                  have H1 : (pintleref03_Decode.j6 kj40 a0 x4_1 t284 t285 t286 t287 t288 t289 t290 x4_1 x294001_13 x294002_24 x294003_32 0) = some (r1, r2, r3, r4, r5, r6) := by rw [if_neg (show ¬ (false = true) by decide)] at H; exact H
                                  clear H
                                  have H := H1
                                  clear H1
                                  have H' := Aside0.mk H
                                  clear H
                                  go_wp2
                                  go_meet
                                  case rel => exact ⟨_, (0), H', ⟨by have := HK1.out; have := HJ4.out; have := HJ13.out; have := HJ24.out; have := HJ32.out; have := HJ40.out; first | omega | exact Nat.le_refl _⟩, ⟨by (with_reducible repeat (first | refine blk_drewN ?_ _ | refine blk_drew ?_ | refine blk_alloc ?_ _)); exact BK283.out⟩, ⟨by (with_reducible repeat (first | refine blk_drewN ?_ _ | refine blk_drew ?_ | refine blk_alloc ?_ _)); exact BK292.out⟩, ⟨by (with_reducible repeat (first | refine blk_drewN ?_ _ | refine blk_drew ?_ | refine blk_alloc ?_ _)); exact BK293.out⟩, ⟨by repeat (first | (with_reducible first | exact HB.out | apply below_alloc | apply pw_below_drewN | apply below_drew1 | refine below_set ?_ GE283.out | refine below_set ?_ GE292.out | refine below_set ?_ GE293.out) | exact HB.out)⟩⟩
                              case rest =>
                                clear HC49
                                try clear c1
                                try clear c2
                                try clear p2
                                try clear c3
                                try clear c3b0
                                try clear c4
                                try clear c5
                                try clear p6
                                try clear c8
                                try clear c10
                                try clear c11
                                try clear c13
                                try clear c15
                                try clear c16
                                try clear c17
                                try clear c19
                                try clear c21
                                try clear c22
                                try clear c23
                                try clear c24
                                try clear c26
                                try clear c27
                                try clear c29
                                try clear c30
                                try clear c31
                                try clear c34
                                try clear c35
                                try clear c37
                                try clear c38
                                try clear c39
                                try clear c42
                                try clear c42b0
                                try clear c43
                                try clear c44
                                try clear c46
                                try clear c47
                                try clear c50
                                try clear c52
                                try clear c53
                                try clear c56
                                try clear hcz12_0
                                try clear hcz12_1
                                try clear hcz12_2
                                try clear hcz12_3
                                try clear hcz12_4
                                try clear hcz12_5
                                try clear hcz12_6
                                try clear hcz18_0
                                try clear hcz18_1
                                try clear hcz18_2
                                try clear hcz18_3
                                try clear hcz18_4
                                try clear hcz20_0
                                try clear hcz20_1
                                try clear hcz20_2
                                try clear hcz20_3
                                try clear hcz20_4
                                try clear hcz20_5
                                try clear hcz20_6
                                try clear hcz24_0
                                try clear hcz24_1
                                try clear hcz24_2
                                try clear hcz24_3
                                try clear hcz24_4
                                try clear hcz28_0
                                try clear hcz28_1
                                try clear hcz28_2
                                try clear hcz28_3
                                try clear hcz28_4
                                try clear hcz28_5
                                try clear hcz28_6
                                try clear hcz32_0
                                try clear hcz32_1
                                try clear hcz32_2
                                try clear hcz32_3
                                try clear hcz32_4
                                try clear hcz36_0
                                try clear hcz36_1
                                try clear hcz36_2
                                try clear hcz36_3
                                try clear hcz36_4
                                try clear hcz36_5
                                try clear hcz36_6
                                try clear hcz40_0
                                try clear hcz40_1
                                try clear hcz40_2
                                try clear hcz40_3
                                try clear hcz40_4
                                try clear hcz45_0
                                try clear hcz45_1
                                try clear hcz45_2
                                try clear hcz45_3
                                try clear hcz45_4
                                try clear hcz45_5
                                try clear hcz45_6
                                try clear hcz48_0
                                try clear hcz48_1
                                try clear hcz48_2
                                try clear hcz48_3
                                try clear hcz48_4
                                try clear hcz48_5
                                try clear hcz48_6
                                try clear hcz54_0
                                try clear hcz54_1
                                try clear hcz54_2
                                try clear hcz54_3
                                try clear hcz54_4
                                try clear hcz54_5
                                try clear hcz54_6
                                try clear hcz57_0
                                try clear hcz57_1
                                try clear hcz57_2
                                try clear hcz57_3
                                try clear hcz57_4
                                try clear hcz9_0
                                try clear hcz9_1
                                try clear hcz9_2
                                try clear hcz9_3
                                try clear hcz9_4
                                try clear hcz9_5
                                try clear hcz9_6
                                try clear hfz12_0
                                try clear hfz12_1
                                try clear hfz12_2
                                try clear hfz12_3
                                try clear hfz12_4
                                try clear hfz12_5
                                try clear hfz12_6
                                try clear hfz18_0
                                try clear hfz18_1
                                try clear hfz18_2
                                try clear hfz18_3
                                try clear hfz18_4
                                try clear hfz20_0
                                try clear hfz20_1
                                try clear hfz20_2
                                try clear hfz20_3
                                try clear hfz20_4
                                try clear hfz20_5
                                try clear hfz20_6
                                try clear hfz24_0
                                try clear hfz24_1
                                try clear hfz24_2
                                try clear hfz24_3
                                try clear hfz24_4
                                try clear hfz28_0
                                try clear hfz28_1
                                try clear hfz28_2
                                try clear hfz28_3
                                try clear hfz28_4
                                try clear hfz28_5
                                try clear hfz28_6
                                try clear hfz32_0
                                try clear hfz32_1
                                try clear hfz32_2
                                try clear hfz32_3
                                try clear hfz32_4
                                try clear hfz36_0
                                try clear hfz36_1
                                try clear hfz36_2
                                try clear hfz36_3
                                try clear hfz36_4
                                try clear hfz36_5
                                try clear hfz36_6
                                try clear hfz40_0
                                try clear hfz40_1
                                try clear hfz40_2
                                try clear hfz40_3
                                try clear hfz40_4
                                try clear hfz45_0
                                try clear hfz45_1
                                try clear hfz45_2
                                try clear hfz45_3
                                try clear hfz45_4
                                try clear hfz45_5
                                try clear hfz45_6
                                try clear hfz48_0
                                try clear hfz48_1
                                try clear hfz48_2
                                try clear hfz48_3
                                try clear hfz48_4
                                try clear hfz48_5
                                try clear hfz48_6
                                try clear hfz54_0
                                try clear hfz54_1
                                try clear hfz54_2
                                try clear hfz54_3
                                try clear hfz54_4
                                try clear hfz54_5
                                try clear hfz54_6
                                try clear hfz57_0
                                try clear hfz57_1
                                try clear hfz57_2
                                try clear hfz57_3
                                try clear hfz57_4
                                try clear hfz9_0
                                try clear hfz9_1
                                try clear hfz9_2
                                try clear hfz9_3
                                try clear hfz9_4
                                try clear hfz9_5
                                try clear hfz9_6
                                try clear p2
                                try clear p6
                                obtain ⟨kq, x294004_48, HA, HJ48, BK283, BK292, BK293, HB⟩ := hcut
                                cases kq with
                                | zero => exact absurd HA.out (by simp [pintleref03_Decode.j6])
                                | succ kj48 =>
                                  have H := HA.out
                                  clear HA
                                  simp only [pintleref03_Decode.j6] at H
                                  by_cases c58 : t287 = 6
                                  · rw [if_pos c58] at H
                                    have c58b0 : (t287 == 6) = true := beq_iff_eq.mpr c58
                                    have c58b1 : (t287 != 6) = false := bne_eq_false_iff_eq.mpr c58
                                    clear c58
                                    replace H := Option.bind_eq_some_iff.mp H
                                    obtain ⟨⟨t295, t296⟩, A590, H⟩ := H
                                    replace H : (if t296 = true then (if t295 = a0 then (some (x4_1, x294001_13, x294002_24, x294003_32, (Int.tdiv a0 1048576) % 32, true)) else (pintleref03_Decode.l0 kj48 a0 (wrap64 (x4_1 + 1)))) else (pintleref03_Decode.l0 kj48 a0 (wrap64 (x4_1 + 1)))) = some (r1, r2, r3, r4, r5, r6) := H
                                    have A59 := Aside0.mk A590
                                    clear A590
                                    by_cases c60 : t296 = true
                                    · subst c60
                                      have H1 : (if t295 = a0 then (some (x4_1, x294001_13, x294002_24, x294003_32, (Int.tdiv a0 1048576) % 32, true)) else (pintleref03_Decode.l0 kj48 a0 (wrap64 (x4_1 + 1)))) = some (r1, r2, r3, r4, r5, r6) := by rw [if_pos rfl] at H; exact H
                                      clear H
                                      have H := H1
                                      clear H1
                                      by_cases c61 : t295 = a0
                                      · rw [if_pos c61] at H
                                        have c61b0 : (t295 == a0) = true := beq_iff_eq.mpr c61
                                        have c61b1 : (t295 != a0) = false := bne_eq_false_iff_eq.mpr c61
                                        clear c61
                                        simp only [Option.some.injEq, Prod.mk.injEq] at H
                                        obtain ⟨rfl, rfl, rfl, rfl, rfl, rfl⟩ := H
                                        have hnb62 := NB292_283.out
                                        have hnc62 := NB283_292.out
                                        have hnb63 := NB292_293.out
                                        have hnc63 := NB293_292.out
                                        have hcz64_0 : wc.cell? ⟨gb292, 0, none⟩ = some (.int .u32 t284) := (blk_cell BK292.out 0).trans rfl
                                        have hcz64_1 : wc.cell? ⟨gb292, 1, none⟩ = some (.int .u32 t285) := (blk_cell BK292.out 1).trans rfl
                                        have hcz64_2 : wc.cell? ⟨gb292, 2, none⟩ = some (.int .u32 t286) := (blk_cell BK292.out 2).trans rfl
                                        have hcz64_3 : wc.cell? ⟨gb292, 3, none⟩ = some (.int .i64 t287) := (blk_cell BK292.out 3).trans rfl
                                        have hcz64_4 : wc.cell? ⟨gb292, 4, none⟩ = some (.bool t288) := (blk_cell BK292.out 4).trans rfl
                                        have hcz64_5 : wc.cell? ⟨gb292, 5, none⟩ = some (.bool t289) := (blk_cell BK292.out 5).trans rfl
                                        have hcz64_6 : wc.cell? ⟨gb292, 6, none⟩ = some (.bool t290) := (blk_cell BK292.out 6).trans rfl
                                        have hfz64_0 := blk_frozen BK292.out 0
                                        have hfz64_1 := blk_frozen BK292.out 1
                                        have hfz64_2 := blk_frozen BK292.out 2
                                        have hfz64_3 := blk_frozen BK292.out 3
                                        have hfz64_4 := blk_frozen BK292.out 4
                                        have hfz64_5 := blk_frozen BK292.out 5
                                        have hfz64_6 := blk_frozen BK292.out 6
                                        have hnb65 := NB293_283.out
                                        have hnc65 := NB283_293.out
                                        have hcz66_0 : wc.cell? ⟨gb293, 0, none⟩ = some (.int .i64 x4_1) := (blk_cell BK293.out 0).trans rfl
                                        have hcz66_1 : wc.cell? ⟨gb293, 1, none⟩ = some (.int .i64 x294001_13) := (blk_cell BK293.out 1).trans rfl
                                        have hcz66_2 : wc.cell? ⟨gb293, 2, none⟩ = some (.int .i64 x294002_24) := (blk_cell BK293.out 2).trans rfl
                                        have hcz66_3 : wc.cell? ⟨gb293, 3, none⟩ = some (.int .i64 x294003_32) := (blk_cell BK293.out 3).trans rfl
                                        have hcz66_4 : wc.cell? ⟨gb293, 4, none⟩ = some (.int .i32 x294004_48) := (blk_cell BK293.out 4).trans rfl
                                        have hfz66_0 := blk_frozen BK293.out 0
                                        have hfz66_1 := blk_frozen BK293.out 1
                                        have hfz66_2 := blk_frozen BK293.out 2
                                        have hfz66_3 := blk_frozen BK293.out 3
                                        have hfz66_4 := blk_frozen BK293.out 4
                                        go_wp2_with (first | ((with_reducible refine gate_callee (f := 13) rfl ?_); refine goesL_ (some 73) rfl rfl Try.func13 (by kernel_rfl) rfl #[.agg #[.int .i64 x4_1, .int .i64 x294001_13, .int .i64 x294002_24, .int .i64 x294003_32, .int .i32 ((Int.tdiv a0 1048576) % 32)]] rfl (by (try simp only [List.map_toArray, List.map_cons, List.map_nil]); first | done | rfl | (simp only [List.length_drop, List.length_take]; rfl)) ?_; (with_reducible refine (pintleref03_Encode.calls kj48 x4_1 x294001_13 x294002_24 x294003_32 ((Int.tdiv a0 1048576) % 32) t295 true _ A59.out).mono ?_); rintro e w67 ⟨rfl, hb⟩; refine ⟨_, rfl, ?_⟩; have n0_ := Aside0.mk (blk_below (g := gb283) (o := .cells #[.int .i64 x284000_1, .int .i64 x284001_1, .int .i64 x284002_1, .int .i64 x284003_1, .int .i32 x284004_1] 24 (0, 0)) (by (with_reducible repeat (first | refine blk_drewN ?_ _ | refine blk_drew ?_ | refine blk_alloc ?_ _)); refine blk_far ?_ NB283_293.out _; (with_reducible repeat (first | refine blk_drewN ?_ _ | refine blk_drew ?_ | refine blk_alloc ?_ _)); exact BK283.out) hb); have n1_ := Aside0.mk (blk_below (g := gb292) (o := .cells #[.int .u32 t284, .int .u32 t285, .int .u32 t286, .int .i64 t287, .bool t288, .bool t289, .bool t290] 34 (0, 0)) (by (with_reducible repeat (first | refine blk_drewN ?_ _ | refine blk_drew ?_ | refine blk_alloc ?_ _)); refine blk_far ?_ NB292_293.out _; (with_reducible repeat (first | refine blk_drewN ?_ _ | refine blk_drew ?_ | refine blk_alloc ?_ _)); exact BK292.out) hb); have n2_ := Aside0.mk (blk_below (g := gb293) (o := .cells #[.int .i64 x4_1, .int .i64 x294001_13, .int .i64 x294002_24, .int .i64 x294003_32, .int .i32 ((Int.tdiv a0 1048576) % 32)] 24 (0, 0)) (by (with_reducible repeat (first | refine blk_drewN ?_ _ | refine blk_drew ?_ | refine blk_alloc ?_ _)); refine blk_put (cs := #[.int .i64 x4_1, .int .i64 x294001_13, .int .i64 x294002_24, .int .i64 x294003_32, .int .i32 x294004_48]) ?_ 4 _ rfl; (with_reducible repeat (first | refine blk_drewN ?_ _ | refine blk_drew ?_ | refine blk_alloc ?_ _)); exact BK293.out) hb); have n3_ := Aside0.mk (below_step (by repeat (first | (with_reducible first | exact HB.out | apply below_alloc | apply pw_below_drewN | apply below_drew1 | refine below_set ?_ GE283.out | refine below_set ?_ GE292.out | refine below_set ?_ GE293.out) | exact HB.out)) hb); clear BK283; clear BK292; clear BK293; clear HB; have BK283 := n0_; have BK292 := n1_; have BK293 := n2_; have HB := n3_; clear n0_ n1_ n2_ n3_; (try clear hb); (try clear hb2); (try clear hk); (try clear hi); have hcz68_0 : w67.cell? ⟨gb293, 0, none⟩ = some (.int .i64 x4_1) := (blk_cell BK293.out 0).trans rfl; have hcz68_1 : w67.cell? ⟨gb293, 1, none⟩ = some (.int .i64 x294001_13) := (blk_cell BK293.out 1).trans rfl; have hcz68_2 : w67.cell? ⟨gb293, 2, none⟩ = some (.int .i64 x294002_24) := (blk_cell BK293.out 2).trans rfl; have hcz68_3 : w67.cell? ⟨gb293, 3, none⟩ = some (.int .i64 x294003_32) := (blk_cell BK293.out 3).trans rfl; have hcz68_4 : w67.cell? ⟨gb293, 4, none⟩ = some (.int .i32 ((Int.tdiv a0 1048576) % 32)) := (blk_cell BK293.out 4).trans rfl; have hfz68_0 := blk_frozen BK293.out 0; have hfz68_1 := blk_frozen BK293.out 1; have hfz68_2 := blk_frozen BK293.out 2; have hfz68_3 := blk_frozen BK293.out 3; have hfz68_4 := blk_frozen BK293.out 4; have hcz69_0 : w67.cell? ⟨gb283, 0, none⟩ = some (.int .i64 x284000_1) := (blk_cell BK283.out 0).trans rfl; have hcz69_1 : w67.cell? ⟨gb283, 1, none⟩ = some (.int .i64 x284001_1) := (blk_cell BK283.out 1).trans rfl; have hcz69_2 : w67.cell? ⟨gb283, 2, none⟩ = some (.int .i64 x284002_1) := (blk_cell BK283.out 2).trans rfl; have hcz69_3 : w67.cell? ⟨gb283, 3, none⟩ = some (.int .i64 x284003_1) := (blk_cell BK283.out 3).trans rfl; have hcz69_4 : w67.cell? ⟨gb283, 4, none⟩ = some (.int .i32 x284004_1) := (blk_cell BK283.out 4).trans rfl; have hfz69_0 := blk_frozen BK283.out 0; have hfz69_1 := blk_frozen BK283.out 1; have hfz69_2 := blk_frozen BK283.out 2; have hfz69_3 := blk_frozen BK283.out 3; have hfz69_4 := blk_frozen BK283.out 4))
                                        refine bodyPost_ret (results_ct rfl _ _ gb283 24 #[.int .i64 x4_1, .int .i64 x294001_13, .int .i64 x294002_24, .int .i64 x294003_32, .int .i32 ((Int.tdiv a0 1048576) % 32)] (0, 0) _ rfl (by (with_reducible repeat (first | refine blk_drewN ?_ _ | refine blk_drew ?_ | refine blk_alloc ?_ _)); refine blk_put (cs := #[.int .i64 x4_1, .int .i64 x294001_13, .int .i64 x294002_24, .int .i64 x294003_32, .int .i32 x284004_1]) ?_ 4 _ rfl; (with_reducible repeat (first | refine blk_drewN ?_ _ | refine blk_drew ?_ | refine blk_alloc ?_ _)); refine blk_put (cs := #[.int .i64 x4_1, .int .i64 x294001_13, .int .i64 x294002_24, .int .i64 x284003_1, .int .i32 x284004_1]) ?_ 3 _ rfl; (with_reducible repeat (first | refine blk_drewN ?_ _ | refine blk_drew ?_ | refine blk_alloc ?_ _)); refine blk_put (cs := #[.int .i64 x4_1, .int .i64 x294001_13, .int .i64 x284002_1, .int .i64 x284003_1, .int .i32 x284004_1]) ?_ 2 _ rfl; (with_reducible repeat (first | refine blk_drewN ?_ _ | refine blk_drew ?_ | refine blk_alloc ?_ _)); refine blk_put (cs := #[.int .i64 x4_1, .int .i64 x284001_1, .int .i64 x284002_1, .int .i64 x284003_1, .int .i32 x284004_1]) ?_ 1 _ rfl; (with_reducible repeat (first | refine blk_drewN ?_ _ | refine blk_drew ?_ | refine blk_alloc ?_ _)); refine blk_put (cs := #[.int .i64 x284000_1, .int .i64 x284001_1, .int .i64 x284002_1, .int .i64 x284003_1, .int .i32 x284004_1]) ?_ 0 _ rfl; (with_reducible repeat (first | refine blk_drewN ?_ _ | refine blk_drew ?_ | refine blk_alloc ?_ _)); exact BK283.out) Try.underlying24 rfl (by kernel_rfl)) rfl ?_
                                        exact ⟨by first | rfl | (simp [errW_none, errW_some] <;> rfl) | (simp [*, errW_none, errW_some] <;> rfl), by repeat (first | (with_reducible first | exact HB.out | apply below_alloc | apply pw_below_drewN | apply below_drew1 | refine below_set ?_ GE283.out | refine below_set ?_ GE292.out | refine below_set ?_ GE293.out) | exact HB.out)⟩
                                      · rw [if_neg c61] at H
                                        have c61b0 : (t295 == a0) = false := beq_eq_false_iff_ne.mpr c61
                                        have c61b1 : (t295 != a0) = true := bne_iff_ne.mpr c61
                                        have H' := Aside0.mk H
                                        clear H
                                        have hnb70 := NB292_283.out
                                        have hnc70 := NB283_292.out
                                        have hnb71 := NB292_293.out
                                        have hnc71 := NB293_292.out
                                        have hcz72_0 : wc.cell? ⟨gb292, 0, none⟩ = some (.int .u32 t284) := (blk_cell BK292.out 0).trans rfl
                                        have hcz72_1 : wc.cell? ⟨gb292, 1, none⟩ = some (.int .u32 t285) := (blk_cell BK292.out 1).trans rfl
                                        have hcz72_2 : wc.cell? ⟨gb292, 2, none⟩ = some (.int .u32 t286) := (blk_cell BK292.out 2).trans rfl
                                        have hcz72_3 : wc.cell? ⟨gb292, 3, none⟩ = some (.int .i64 t287) := (blk_cell BK292.out 3).trans rfl
                                        have hcz72_4 : wc.cell? ⟨gb292, 4, none⟩ = some (.bool t288) := (blk_cell BK292.out 4).trans rfl
                                        have hcz72_5 : wc.cell? ⟨gb292, 5, none⟩ = some (.bool t289) := (blk_cell BK292.out 5).trans rfl
                                        have hcz72_6 : wc.cell? ⟨gb292, 6, none⟩ = some (.bool t290) := (blk_cell BK292.out 6).trans rfl
                                        have hfz72_0 := blk_frozen BK292.out 0
                                        have hfz72_1 := blk_frozen BK292.out 1
                                        have hfz72_2 := blk_frozen BK292.out 2
                                        have hfz72_3 := blk_frozen BK292.out 3
                                        have hfz72_4 := blk_frozen BK292.out 4
                                        have hfz72_5 := blk_frozen BK292.out 5
                                        have hfz72_6 := blk_frozen BK292.out 6
                                        have hnb73 := NB293_283.out
                                        have hnc73 := NB283_293.out
                                        have hcz74_0 : wc.cell? ⟨gb293, 0, none⟩ = some (.int .i64 x4_1) := (blk_cell BK293.out 0).trans rfl
                                        have hcz74_1 : wc.cell? ⟨gb293, 1, none⟩ = some (.int .i64 x294001_13) := (blk_cell BK293.out 1).trans rfl
                                        have hcz74_2 : wc.cell? ⟨gb293, 2, none⟩ = some (.int .i64 x294002_24) := (blk_cell BK293.out 2).trans rfl
                                        have hcz74_3 : wc.cell? ⟨gb293, 3, none⟩ = some (.int .i64 x294003_32) := (blk_cell BK293.out 3).trans rfl
                                        have hcz74_4 : wc.cell? ⟨gb293, 4, none⟩ = some (.int .i32 x294004_48) := (blk_cell BK293.out 4).trans rfl
                                        have hfz74_0 := blk_frozen BK293.out 0
                                        have hfz74_1 := blk_frozen BK293.out 1
                                        have hfz74_2 := blk_frozen BK293.out 2
                                        have hfz74_3 := blk_frozen BK293.out 3
                                        have hfz74_4 := blk_frozen BK293.out 4
                                        go_wp2_with (first | ((with_reducible refine gate_callee (f := 13) rfl ?_); refine goesL_ (some 73) rfl rfl Try.func13 (by kernel_rfl) rfl #[.agg #[.int .i64 x4_1, .int .i64 x294001_13, .int .i64 x294002_24, .int .i64 x294003_32, .int .i32 ((Int.tdiv a0 1048576) % 32)]] rfl (by (try simp only [List.map_toArray, List.map_cons, List.map_nil]); first | done | rfl | (simp only [List.length_drop, List.length_take]; rfl)) ?_; (with_reducible refine (pintleref03_Encode.calls kj48 x4_1 x294001_13 x294002_24 x294003_32 ((Int.tdiv a0 1048576) % 32) t295 true _ A59.out).mono ?_); rintro e w75 ⟨rfl, hb⟩; refine ⟨_, rfl, ?_⟩; have n0_ := Aside0.mk (blk_below (g := gb283) (o := .cells #[.int .i64 x284000_1, .int .i64 x284001_1, .int .i64 x284002_1, .int .i64 x284003_1, .int .i32 x284004_1] 24 (0, 0)) (by (with_reducible repeat (first | refine blk_drewN ?_ _ | refine blk_drew ?_ | refine blk_alloc ?_ _)); refine blk_far ?_ NB283_293.out _; (with_reducible repeat (first | refine blk_drewN ?_ _ | refine blk_drew ?_ | refine blk_alloc ?_ _)); exact BK283.out) hb); have n1_ := Aside0.mk (blk_below (g := gb292) (o := .cells #[.int .u32 t284, .int .u32 t285, .int .u32 t286, .int .i64 t287, .bool t288, .bool t289, .bool t290] 34 (0, 0)) (by (with_reducible repeat (first | refine blk_drewN ?_ _ | refine blk_drew ?_ | refine blk_alloc ?_ _)); refine blk_far ?_ NB292_293.out _; (with_reducible repeat (first | refine blk_drewN ?_ _ | refine blk_drew ?_ | refine blk_alloc ?_ _)); exact BK292.out) hb); have n2_ := Aside0.mk (blk_below (g := gb293) (o := .cells #[.int .i64 x4_1, .int .i64 x294001_13, .int .i64 x294002_24, .int .i64 x294003_32, .int .i32 ((Int.tdiv a0 1048576) % 32)] 24 (0, 0)) (by (with_reducible repeat (first | refine blk_drewN ?_ _ | refine blk_drew ?_ | refine blk_alloc ?_ _)); refine blk_put (cs := #[.int .i64 x4_1, .int .i64 x294001_13, .int .i64 x294002_24, .int .i64 x294003_32, .int .i32 x294004_48]) ?_ 4 _ rfl; (with_reducible repeat (first | refine blk_drewN ?_ _ | refine blk_drew ?_ | refine blk_alloc ?_ _)); exact BK293.out) hb); have n3_ := Aside0.mk (below_step (by repeat (first | (with_reducible first | exact HB.out | apply below_alloc | apply pw_below_drewN | apply below_drew1 | refine below_set ?_ GE283.out | refine below_set ?_ GE292.out | refine below_set ?_ GE293.out) | exact HB.out)) hb); clear BK283; clear BK292; clear BK293; clear HB; have BK283 := n0_; have BK292 := n1_; have BK293 := n2_; have HB := n3_; clear n0_ n1_ n2_ n3_; (try clear hb); (try clear hb2); (try clear hk); (try clear hi)))
                                        go_roundg kj48
                                        case measure => have := HK1.out; have := HJ4.out; have := HJ13.out; have := HJ24.out; have := HJ32.out; have := HJ40.out; have := HJ48.out; omega
                                        case rel => exact ⟨(wrap64 (x4_1 + 1)), (x284000_1), (x284001_1), (x284002_1), (x284003_1), (x284004_1), (by first | rfl | (simp; done) | (simp [*]; done)), H', ⟨by have := HK1.out; have := HJ4.out; have := HJ13.out; have := HJ24.out; have := HJ32.out; have := HJ40.out; have := HJ48.out; omega⟩, ⟨by (with_reducible repeat (first | refine blk_drewN ?_ _ | refine blk_drew ?_ | refine blk_alloc ?_ _)); exact BK283.out⟩, ⟨by repeat (first | (with_reducible first | exact HB.out | apply below_alloc | apply pw_below_drewN | apply below_drew1 | refine below_set ?_ GE283.out | refine below_set ?_ GE292.out | refine below_set ?_ GE293.out) | exact HB.out)⟩⟩
                                    · replace c60 := Bool.eq_false_iff.mpr c60
                                      subst c60
                                      have H1 : (pintleref03_Decode.l0 kj48 a0 (wrap64 (x4_1 + 1))) = some (r1, r2, r3, r4, r5, r6) := by rw [if_neg (show ¬ (false = true) by decide)] at H; exact H
                                      clear H
                                      have H := H1
                                      clear H1
                                      have H' := Aside0.mk H
                                      clear H
                                      have hnb76 := NB292_283.out
                                      have hnc76 := NB283_292.out
                                      have hnb77 := NB292_293.out
                                      have hnc77 := NB293_292.out
                                      have hcz78_0 : wc.cell? ⟨gb292, 0, none⟩ = some (.int .u32 t284) := (blk_cell BK292.out 0).trans rfl
                                      have hcz78_1 : wc.cell? ⟨gb292, 1, none⟩ = some (.int .u32 t285) := (blk_cell BK292.out 1).trans rfl
                                      have hcz78_2 : wc.cell? ⟨gb292, 2, none⟩ = some (.int .u32 t286) := (blk_cell BK292.out 2).trans rfl
                                      have hcz78_3 : wc.cell? ⟨gb292, 3, none⟩ = some (.int .i64 t287) := (blk_cell BK292.out 3).trans rfl
                                      have hcz78_4 : wc.cell? ⟨gb292, 4, none⟩ = some (.bool t288) := (blk_cell BK292.out 4).trans rfl
                                      have hcz78_5 : wc.cell? ⟨gb292, 5, none⟩ = some (.bool t289) := (blk_cell BK292.out 5).trans rfl
                                      have hcz78_6 : wc.cell? ⟨gb292, 6, none⟩ = some (.bool t290) := (blk_cell BK292.out 6).trans rfl
                                      have hfz78_0 := blk_frozen BK292.out 0
                                      have hfz78_1 := blk_frozen BK292.out 1
                                      have hfz78_2 := blk_frozen BK292.out 2
                                      have hfz78_3 := blk_frozen BK292.out 3
                                      have hfz78_4 := blk_frozen BK292.out 4
                                      have hfz78_5 := blk_frozen BK292.out 5
                                      have hfz78_6 := blk_frozen BK292.out 6
                                      have hnb79 := NB293_283.out
                                      have hnc79 := NB283_293.out
                                      have hcz80_0 : wc.cell? ⟨gb293, 0, none⟩ = some (.int .i64 x4_1) := (blk_cell BK293.out 0).trans rfl
                                      have hcz80_1 : wc.cell? ⟨gb293, 1, none⟩ = some (.int .i64 x294001_13) := (blk_cell BK293.out 1).trans rfl
                                      have hcz80_2 : wc.cell? ⟨gb293, 2, none⟩ = some (.int .i64 x294002_24) := (blk_cell BK293.out 2).trans rfl
                                      have hcz80_3 : wc.cell? ⟨gb293, 3, none⟩ = some (.int .i64 x294003_32) := (blk_cell BK293.out 3).trans rfl
                                      have hcz80_4 : wc.cell? ⟨gb293, 4, none⟩ = some (.int .i32 x294004_48) := (blk_cell BK293.out 4).trans rfl
                                      have hfz80_0 := blk_frozen BK293.out 0
                                      have hfz80_1 := blk_frozen BK293.out 1
                                      have hfz80_2 := blk_frozen BK293.out 2
                                      have hfz80_3 := blk_frozen BK293.out 3
                                      have hfz80_4 := blk_frozen BK293.out 4
                                      go_wp2_with (first | ((with_reducible refine gate_callee (f := 13) rfl ?_); refine goesL_ (some 73) rfl rfl Try.func13 (by kernel_rfl) rfl #[.agg #[.int .i64 x4_1, .int .i64 x294001_13, .int .i64 x294002_24, .int .i64 x294003_32, .int .i32 ((Int.tdiv a0 1048576) % 32)]] rfl (by (try simp only [List.map_toArray, List.map_cons, List.map_nil]); first | done | rfl | (simp only [List.length_drop, List.length_take]; rfl)) ?_; (with_reducible refine (pintleref03_Encode.calls kj48 x4_1 x294001_13 x294002_24 x294003_32 ((Int.tdiv a0 1048576) % 32) t295 false _ A59.out).mono ?_); rintro e w81 ⟨rfl, hb⟩; refine ⟨_, rfl, ?_⟩; have n0_ := Aside0.mk (blk_below (g := gb283) (o := .cells #[.int .i64 x284000_1, .int .i64 x284001_1, .int .i64 x284002_1, .int .i64 x284003_1, .int .i32 x284004_1] 24 (0, 0)) (by (with_reducible repeat (first | refine blk_drewN ?_ _ | refine blk_drew ?_ | refine blk_alloc ?_ _)); refine blk_far ?_ NB283_293.out _; (with_reducible repeat (first | refine blk_drewN ?_ _ | refine blk_drew ?_ | refine blk_alloc ?_ _)); exact BK283.out) hb); have n1_ := Aside0.mk (blk_below (g := gb292) (o := .cells #[.int .u32 t284, .int .u32 t285, .int .u32 t286, .int .i64 t287, .bool t288, .bool t289, .bool t290] 34 (0, 0)) (by (with_reducible repeat (first | refine blk_drewN ?_ _ | refine blk_drew ?_ | refine blk_alloc ?_ _)); refine blk_far ?_ NB292_293.out _; (with_reducible repeat (first | refine blk_drewN ?_ _ | refine blk_drew ?_ | refine blk_alloc ?_ _)); exact BK292.out) hb); have n2_ := Aside0.mk (blk_below (g := gb293) (o := .cells #[.int .i64 x4_1, .int .i64 x294001_13, .int .i64 x294002_24, .int .i64 x294003_32, .int .i32 ((Int.tdiv a0 1048576) % 32)] 24 (0, 0)) (by (with_reducible repeat (first | refine blk_drewN ?_ _ | refine blk_drew ?_ | refine blk_alloc ?_ _)); refine blk_put (cs := #[.int .i64 x4_1, .int .i64 x294001_13, .int .i64 x294002_24, .int .i64 x294003_32, .int .i32 x294004_48]) ?_ 4 _ rfl; (with_reducible repeat (first | refine blk_drewN ?_ _ | refine blk_drew ?_ | refine blk_alloc ?_ _)); exact BK293.out) hb); have n3_ := Aside0.mk (below_step (by repeat (first | (with_reducible first | exact HB.out | apply below_alloc | apply pw_below_drewN | apply below_drew1 | refine below_set ?_ GE283.out | refine below_set ?_ GE292.out | refine below_set ?_ GE293.out) | exact HB.out)) hb); clear BK283; clear BK292; clear BK293; clear HB; have BK283 := n0_; have BK292 := n1_; have BK293 := n2_; have HB := n3_; clear n0_ n1_ n2_ n3_; (try clear hb); (try clear hb2); (try clear hk); (try clear hi)))
                                      go_roundg kj48
                                      case measure => have := HK1.out; have := HJ4.out; have := HJ13.out; have := HJ24.out; have := HJ32.out; have := HJ40.out; have := HJ48.out; omega
                                      case rel => exact ⟨(wrap64 (x4_1 + 1)), (x284000_1), (x284001_1), (x284002_1), (x284003_1), (x284004_1), (by first | rfl | (simp; done) | (simp [*]; done)), H', ⟨by have := HK1.out; have := HJ4.out; have := HJ13.out; have := HJ24.out; have := HJ32.out; have := HJ40.out; have := HJ48.out; omega⟩, ⟨by (with_reducible repeat (first | refine blk_drewN ?_ _ | refine blk_drew ?_ | refine blk_alloc ?_ _)); exact BK283.out⟩, ⟨by repeat (first | (with_reducible first | exact HB.out | apply below_alloc | apply pw_below_drewN | apply below_drew1 | refine below_set ?_ GE283.out | refine below_set ?_ GE292.out | refine below_set ?_ GE293.out) | exact HB.out)⟩⟩
                                  · rw [if_neg c58] at H
                                    have c58b0 : (t287 == 6) = false := beq_eq_false_iff_ne.mpr c58
                                    have c58b1 : (t287 != 6) = true := bne_iff_ne.mpr c58
                                    replace H := Option.bind_eq_some_iff.mp H
                                    obtain ⟨⟨t297, t298⟩, A820, H⟩ := H
                                    replace H : (if t298 = true then (if t297 = a0 then (some (x4_1, x294001_13, x294002_24, x294003_32, x294004_48, true)) else (pintleref03_Decode.l0 kj48 a0 (wrap64 (x4_1 + 1)))) else (pintleref03_Decode.l0 kj48 a0 (wrap64 (x4_1 + 1)))) = some (r1, r2, r3, r4, r5, r6) := H
                                    have A82 := Aside0.mk A820
                                    clear A820
                                    by_cases c83 : t298 = true
                                    · subst c83
                                      have H1 : (if t297 = a0 then (some (x4_1, x294001_13, x294002_24, x294003_32, x294004_48, true)) else (pintleref03_Decode.l0 kj48 a0 (wrap64 (x4_1 + 1)))) = some (r1, r2, r3, r4, r5, r6) := by rw [if_pos rfl] at H; exact H
                                      clear H
                                      have H := H1
                                      clear H1
                                      by_cases c84 : t297 = a0
                                      · rw [if_pos c84] at H
                                        have c84b0 : (t297 == a0) = true := beq_iff_eq.mpr c84
                                        have c84b1 : (t297 != a0) = false := bne_eq_false_iff_eq.mpr c84
                                        clear c84
                                        simp only [Option.some.injEq, Prod.mk.injEq] at H
                                        obtain ⟨rfl, rfl, rfl, rfl, rfl, rfl⟩ := H
                                        have hnb85 := NB292_283.out
                                        have hnc85 := NB283_292.out
                                        have hnb86 := NB292_293.out
                                        have hnc86 := NB293_292.out
                                        have hcz87_0 : wc.cell? ⟨gb292, 0, none⟩ = some (.int .u32 t284) := (blk_cell BK292.out 0).trans rfl
                                        have hcz87_1 : wc.cell? ⟨gb292, 1, none⟩ = some (.int .u32 t285) := (blk_cell BK292.out 1).trans rfl
                                        have hcz87_2 : wc.cell? ⟨gb292, 2, none⟩ = some (.int .u32 t286) := (blk_cell BK292.out 2).trans rfl
                                        have hcz87_3 : wc.cell? ⟨gb292, 3, none⟩ = some (.int .i64 t287) := (blk_cell BK292.out 3).trans rfl
                                        have hcz87_4 : wc.cell? ⟨gb292, 4, none⟩ = some (.bool t288) := (blk_cell BK292.out 4).trans rfl
                                        have hcz87_5 : wc.cell? ⟨gb292, 5, none⟩ = some (.bool t289) := (blk_cell BK292.out 5).trans rfl
                                        have hcz87_6 : wc.cell? ⟨gb292, 6, none⟩ = some (.bool t290) := (blk_cell BK292.out 6).trans rfl
                                        have hfz87_0 := blk_frozen BK292.out 0
                                        have hfz87_1 := blk_frozen BK292.out 1
                                        have hfz87_2 := blk_frozen BK292.out 2
                                        have hfz87_3 := blk_frozen BK292.out 3
                                        have hfz87_4 := blk_frozen BK292.out 4
                                        have hfz87_5 := blk_frozen BK292.out 5
                                        have hfz87_6 := blk_frozen BK292.out 6
                                        have hnb88 := NB293_283.out
                                        have hnc88 := NB283_293.out
                                        have hcz89_0 : wc.cell? ⟨gb293, 0, none⟩ = some (.int .i64 x4_1) := (blk_cell BK293.out 0).trans rfl
                                        have hcz89_1 : wc.cell? ⟨gb293, 1, none⟩ = some (.int .i64 x294001_13) := (blk_cell BK293.out 1).trans rfl
                                        have hcz89_2 : wc.cell? ⟨gb293, 2, none⟩ = some (.int .i64 x294002_24) := (blk_cell BK293.out 2).trans rfl
                                        have hcz89_3 : wc.cell? ⟨gb293, 3, none⟩ = some (.int .i64 x294003_32) := (blk_cell BK293.out 3).trans rfl
                                        have hcz89_4 : wc.cell? ⟨gb293, 4, none⟩ = some (.int .i32 x294004_48) := (blk_cell BK293.out 4).trans rfl
                                        have hfz89_0 := blk_frozen BK293.out 0
                                        have hfz89_1 := blk_frozen BK293.out 1
                                        have hfz89_2 := blk_frozen BK293.out 2
                                        have hfz89_3 := blk_frozen BK293.out 3
                                        have hfz89_4 := blk_frozen BK293.out 4
                                        go_wp2_with (first | ((with_reducible refine gate_callee (f := 13) rfl ?_); refine goesL_ (some 73) rfl rfl Try.func13 (by kernel_rfl) rfl #[.agg #[.int .i64 x4_1, .int .i64 x294001_13, .int .i64 x294002_24, .int .i64 x294003_32, .int .i32 x294004_48]] rfl (by (try simp only [List.map_toArray, List.map_cons, List.map_nil]); first | done | rfl | (simp only [List.length_drop, List.length_take]; rfl)) ?_; (with_reducible refine (pintleref03_Encode.calls kj48 x4_1 x294001_13 x294002_24 x294003_32 x294004_48 t297 true _ A82.out).mono ?_); rintro e w90 ⟨rfl, hb⟩; refine ⟨_, rfl, ?_⟩; have n0_ := Aside0.mk (blk_below (g := gb283) (o := .cells #[.int .i64 x284000_1, .int .i64 x284001_1, .int .i64 x284002_1, .int .i64 x284003_1, .int .i32 x284004_1] 24 (0, 0)) (by (with_reducible repeat (first | refine blk_drewN ?_ _ | refine blk_drew ?_ | refine blk_alloc ?_ _)); exact BK283.out) hb); have n1_ := Aside0.mk (blk_below (g := gb292) (o := .cells #[.int .u32 t284, .int .u32 t285, .int .u32 t286, .int .i64 t287, .bool t288, .bool t289, .bool t290] 34 (0, 0)) (by (with_reducible repeat (first | refine blk_drewN ?_ _ | refine blk_drew ?_ | refine blk_alloc ?_ _)); exact BK292.out) hb); have n2_ := Aside0.mk (blk_below (g := gb293) (o := .cells #[.int .i64 x4_1, .int .i64 x294001_13, .int .i64 x294002_24, .int .i64 x294003_32, .int .i32 x294004_48] 24 (0, 0)) (by (with_reducible repeat (first | refine blk_drewN ?_ _ | refine blk_drew ?_ | refine blk_alloc ?_ _)); exact BK293.out) hb); have n3_ := Aside0.mk (below_step (by repeat (first | (with_reducible first | exact HB.out | apply below_alloc | apply pw_below_drewN | apply below_drew1 | refine below_set ?_ GE283.out | refine below_set ?_ GE292.out | refine below_set ?_ GE293.out) | exact HB.out)) hb); clear BK283; clear BK292; clear BK293; clear HB; have BK283 := n0_; have BK292 := n1_; have BK293 := n2_; have HB := n3_; clear n0_ n1_ n2_ n3_; (try clear hb); (try clear hb2); (try clear hk); (try clear hi); have hcz91_0 : w90.cell? ⟨gb293, 0, none⟩ = some (.int .i64 x4_1) := (blk_cell BK293.out 0).trans rfl; have hcz91_1 : w90.cell? ⟨gb293, 1, none⟩ = some (.int .i64 x294001_13) := (blk_cell BK293.out 1).trans rfl; have hcz91_2 : w90.cell? ⟨gb293, 2, none⟩ = some (.int .i64 x294002_24) := (blk_cell BK293.out 2).trans rfl; have hcz91_3 : w90.cell? ⟨gb293, 3, none⟩ = some (.int .i64 x294003_32) := (blk_cell BK293.out 3).trans rfl; have hcz91_4 : w90.cell? ⟨gb293, 4, none⟩ = some (.int .i32 x294004_48) := (blk_cell BK293.out 4).trans rfl; have hfz91_0 := blk_frozen BK293.out 0; have hfz91_1 := blk_frozen BK293.out 1; have hfz91_2 := blk_frozen BK293.out 2; have hfz91_3 := blk_frozen BK293.out 3; have hfz91_4 := blk_frozen BK293.out 4; have hcz92_0 : w90.cell? ⟨gb283, 0, none⟩ = some (.int .i64 x284000_1) := (blk_cell BK283.out 0).trans rfl; have hcz92_1 : w90.cell? ⟨gb283, 1, none⟩ = some (.int .i64 x284001_1) := (blk_cell BK283.out 1).trans rfl; have hcz92_2 : w90.cell? ⟨gb283, 2, none⟩ = some (.int .i64 x284002_1) := (blk_cell BK283.out 2).trans rfl; have hcz92_3 : w90.cell? ⟨gb283, 3, none⟩ = some (.int .i64 x284003_1) := (blk_cell BK283.out 3).trans rfl; have hcz92_4 : w90.cell? ⟨gb283, 4, none⟩ = some (.int .i32 x284004_1) := (blk_cell BK283.out 4).trans rfl; have hfz92_0 := blk_frozen BK283.out 0; have hfz92_1 := blk_frozen BK283.out 1; have hfz92_2 := blk_frozen BK283.out 2; have hfz92_3 := blk_frozen BK283.out 3; have hfz92_4 := blk_frozen BK283.out 4))
                                        refine bodyPost_ret (results_ct rfl _ _ gb283 24 #[.int .i64 x4_1, .int .i64 x294001_13, .int .i64 x294002_24, .int .i64 x294003_32, .int .i32 x294004_48] (0, 0) _ rfl (by (with_reducible repeat (first | refine blk_drewN ?_ _ | refine blk_drew ?_ | refine blk_alloc ?_ _)); refine blk_put (cs := #[.int .i64 x4_1, .int .i64 x294001_13, .int .i64 x294002_24, .int .i64 x294003_32, .int .i32 x284004_1]) ?_ 4 _ rfl; (with_reducible repeat (first | refine blk_drewN ?_ _ | refine blk_drew ?_ | refine blk_alloc ?_ _)); refine blk_put (cs := #[.int .i64 x4_1, .int .i64 x294001_13, .int .i64 x294002_24, .int .i64 x284003_1, .int .i32 x284004_1]) ?_ 3 _ rfl; (with_reducible repeat (first | refine blk_drewN ?_ _ | refine blk_drew ?_ | refine blk_alloc ?_ _)); refine blk_put (cs := #[.int .i64 x4_1, .int .i64 x294001_13, .int .i64 x284002_1, .int .i64 x284003_1, .int .i32 x284004_1]) ?_ 2 _ rfl; (with_reducible repeat (first | refine blk_drewN ?_ _ | refine blk_drew ?_ | refine blk_alloc ?_ _)); refine blk_put (cs := #[.int .i64 x4_1, .int .i64 x284001_1, .int .i64 x284002_1, .int .i64 x284003_1, .int .i32 x284004_1]) ?_ 1 _ rfl; (with_reducible repeat (first | refine blk_drewN ?_ _ | refine blk_drew ?_ | refine blk_alloc ?_ _)); refine blk_put (cs := #[.int .i64 x284000_1, .int .i64 x284001_1, .int .i64 x284002_1, .int .i64 x284003_1, .int .i32 x284004_1]) ?_ 0 _ rfl; (with_reducible repeat (first | refine blk_drewN ?_ _ | refine blk_drew ?_ | refine blk_alloc ?_ _)); exact BK283.out) Try.underlying24 rfl (by kernel_rfl)) rfl ?_
                                        exact ⟨by first | rfl | (simp [errW_none, errW_some] <;> rfl) | (simp [*, errW_none, errW_some] <;> rfl), by repeat (first | (with_reducible first | exact HB.out | apply below_alloc | apply pw_below_drewN | apply below_drew1 | refine below_set ?_ GE283.out | refine below_set ?_ GE292.out | refine below_set ?_ GE293.out) | exact HB.out)⟩
                                      · rw [if_neg c84] at H
                                        have c84b0 : (t297 == a0) = false := beq_eq_false_iff_ne.mpr c84
                                        have c84b1 : (t297 != a0) = true := bne_iff_ne.mpr c84
                                        have H' := Aside0.mk H
                                        clear H
                                        have hnb93 := NB292_283.out
                                        have hnc93 := NB283_292.out
                                        have hnb94 := NB292_293.out
                                        have hnc94 := NB293_292.out
                                        have hcz95_0 : wc.cell? ⟨gb292, 0, none⟩ = some (.int .u32 t284) := (blk_cell BK292.out 0).trans rfl
                                        have hcz95_1 : wc.cell? ⟨gb292, 1, none⟩ = some (.int .u32 t285) := (blk_cell BK292.out 1).trans rfl
                                        have hcz95_2 : wc.cell? ⟨gb292, 2, none⟩ = some (.int .u32 t286) := (blk_cell BK292.out 2).trans rfl
                                        have hcz95_3 : wc.cell? ⟨gb292, 3, none⟩ = some (.int .i64 t287) := (blk_cell BK292.out 3).trans rfl
                                        have hcz95_4 : wc.cell? ⟨gb292, 4, none⟩ = some (.bool t288) := (blk_cell BK292.out 4).trans rfl
                                        have hcz95_5 : wc.cell? ⟨gb292, 5, none⟩ = some (.bool t289) := (blk_cell BK292.out 5).trans rfl
                                        have hcz95_6 : wc.cell? ⟨gb292, 6, none⟩ = some (.bool t290) := (blk_cell BK292.out 6).trans rfl
                                        have hfz95_0 := blk_frozen BK292.out 0
                                        have hfz95_1 := blk_frozen BK292.out 1
                                        have hfz95_2 := blk_frozen BK292.out 2
                                        have hfz95_3 := blk_frozen BK292.out 3
                                        have hfz95_4 := blk_frozen BK292.out 4
                                        have hfz95_5 := blk_frozen BK292.out 5
                                        have hfz95_6 := blk_frozen BK292.out 6
                                        have hnb96 := NB293_283.out
                                        have hnc96 := NB283_293.out
                                        have hcz97_0 : wc.cell? ⟨gb293, 0, none⟩ = some (.int .i64 x4_1) := (blk_cell BK293.out 0).trans rfl
                                        have hcz97_1 : wc.cell? ⟨gb293, 1, none⟩ = some (.int .i64 x294001_13) := (blk_cell BK293.out 1).trans rfl
                                        have hcz97_2 : wc.cell? ⟨gb293, 2, none⟩ = some (.int .i64 x294002_24) := (blk_cell BK293.out 2).trans rfl
                                        have hcz97_3 : wc.cell? ⟨gb293, 3, none⟩ = some (.int .i64 x294003_32) := (blk_cell BK293.out 3).trans rfl
                                        have hcz97_4 : wc.cell? ⟨gb293, 4, none⟩ = some (.int .i32 x294004_48) := (blk_cell BK293.out 4).trans rfl
                                        have hfz97_0 := blk_frozen BK293.out 0
                                        have hfz97_1 := blk_frozen BK293.out 1
                                        have hfz97_2 := blk_frozen BK293.out 2
                                        have hfz97_3 := blk_frozen BK293.out 3
                                        have hfz97_4 := blk_frozen BK293.out 4
                                        go_wp2_with (first | ((with_reducible refine gate_callee (f := 13) rfl ?_); refine goesL_ (some 73) rfl rfl Try.func13 (by kernel_rfl) rfl #[.agg #[.int .i64 x4_1, .int .i64 x294001_13, .int .i64 x294002_24, .int .i64 x294003_32, .int .i32 x294004_48]] rfl (by (try simp only [List.map_toArray, List.map_cons, List.map_nil]); first | done | rfl | (simp only [List.length_drop, List.length_take]; rfl)) ?_; (with_reducible refine (pintleref03_Encode.calls kj48 x4_1 x294001_13 x294002_24 x294003_32 x294004_48 t297 true _ A82.out).mono ?_); rintro e w98 ⟨rfl, hb⟩; refine ⟨_, rfl, ?_⟩; have n0_ := Aside0.mk (blk_below (g := gb283) (o := .cells #[.int .i64 x284000_1, .int .i64 x284001_1, .int .i64 x284002_1, .int .i64 x284003_1, .int .i32 x284004_1] 24 (0, 0)) (by (with_reducible repeat (first | refine blk_drewN ?_ _ | refine blk_drew ?_ | refine blk_alloc ?_ _)); exact BK283.out) hb); have n1_ := Aside0.mk (blk_below (g := gb292) (o := .cells #[.int .u32 t284, .int .u32 t285, .int .u32 t286, .int .i64 t287, .bool t288, .bool t289, .bool t290] 34 (0, 0)) (by (with_reducible repeat (first | refine blk_drewN ?_ _ | refine blk_drew ?_ | refine blk_alloc ?_ _)); exact BK292.out) hb); have n2_ := Aside0.mk (blk_below (g := gb293) (o := .cells #[.int .i64 x4_1, .int .i64 x294001_13, .int .i64 x294002_24, .int .i64 x294003_32, .int .i32 x294004_48] 24 (0, 0)) (by (with_reducible repeat (first | refine blk_drewN ?_ _ | refine blk_drew ?_ | refine blk_alloc ?_ _)); exact BK293.out) hb); have n3_ := Aside0.mk (below_step (by repeat (first | (with_reducible first | exact HB.out | apply below_alloc | apply pw_below_drewN | apply below_drew1 | refine below_set ?_ GE283.out | refine below_set ?_ GE292.out | refine below_set ?_ GE293.out) | exact HB.out)) hb); clear BK283; clear BK292; clear BK293; clear HB; have BK283 := n0_; have BK292 := n1_; have BK293 := n2_; have HB := n3_; clear n0_ n1_ n2_ n3_; (try clear hb); (try clear hb2); (try clear hk); (try clear hi)))
                                        go_roundg kj48
                                        case measure => have := HK1.out; have := HJ4.out; have := HJ13.out; have := HJ24.out; have := HJ32.out; have := HJ40.out; have := HJ48.out; omega
                                        case rel => exact ⟨(wrap64 (x4_1 + 1)), (x284000_1), (x284001_1), (x284002_1), (x284003_1), (x284004_1), (by first | rfl | (simp; done) | (simp [*]; done)), H', ⟨by have := HK1.out; have := HJ4.out; have := HJ13.out; have := HJ24.out; have := HJ32.out; have := HJ40.out; have := HJ48.out; omega⟩, ⟨by (with_reducible repeat (first | refine blk_drewN ?_ _ | refine blk_drew ?_ | refine blk_alloc ?_ _)); exact BK283.out⟩, ⟨by repeat (first | (with_reducible first | exact HB.out | apply below_alloc | apply pw_below_drewN | apply below_drew1 | refine below_set ?_ GE283.out | refine below_set ?_ GE292.out | refine below_set ?_ GE293.out) | exact HB.out)⟩⟩
                                    · replace c83 := Bool.eq_false_iff.mpr c83
                                      subst c83
                                      have H1 : (pintleref03_Decode.l0 kj48 a0 (wrap64 (x4_1 + 1))) = some (r1, r2, r3, r4, r5, r6) := by rw [if_neg (show ¬ (false = true) by decide)] at H; exact H
                                      clear H
                                      have H := H1
                                      clear H1
                                      have H' := Aside0.mk H
                                      clear H
                                      have hnb99 := NB292_283.out
                                      have hnc99 := NB283_292.out
                                      have hnb100 := NB292_293.out
                                      have hnc100 := NB293_292.out
                                      have hcz101_0 : wc.cell? ⟨gb292, 0, none⟩ = some (.int .u32 t284) := (blk_cell BK292.out 0).trans rfl
                                      have hcz101_1 : wc.cell? ⟨gb292, 1, none⟩ = some (.int .u32 t285) := (blk_cell BK292.out 1).trans rfl
                                      have hcz101_2 : wc.cell? ⟨gb292, 2, none⟩ = some (.int .u32 t286) := (blk_cell BK292.out 2).trans rfl
                                      have hcz101_3 : wc.cell? ⟨gb292, 3, none⟩ = some (.int .i64 t287) := (blk_cell BK292.out 3).trans rfl
                                      have hcz101_4 : wc.cell? ⟨gb292, 4, none⟩ = some (.bool t288) := (blk_cell BK292.out 4).trans rfl
                                      have hcz101_5 : wc.cell? ⟨gb292, 5, none⟩ = some (.bool t289) := (blk_cell BK292.out 5).trans rfl
                                      have hcz101_6 : wc.cell? ⟨gb292, 6, none⟩ = some (.bool t290) := (blk_cell BK292.out 6).trans rfl
                                      have hfz101_0 := blk_frozen BK292.out 0
                                      have hfz101_1 := blk_frozen BK292.out 1
                                      have hfz101_2 := blk_frozen BK292.out 2
                                      have hfz101_3 := blk_frozen BK292.out 3
                                      have hfz101_4 := blk_frozen BK292.out 4
                                      have hfz101_5 := blk_frozen BK292.out 5
                                      have hfz101_6 := blk_frozen BK292.out 6
                                      have hnb102 := NB293_283.out
                                      have hnc102 := NB283_293.out
                                      have hcz103_0 : wc.cell? ⟨gb293, 0, none⟩ = some (.int .i64 x4_1) := (blk_cell BK293.out 0).trans rfl
                                      have hcz103_1 : wc.cell? ⟨gb293, 1, none⟩ = some (.int .i64 x294001_13) := (blk_cell BK293.out 1).trans rfl
                                      have hcz103_2 : wc.cell? ⟨gb293, 2, none⟩ = some (.int .i64 x294002_24) := (blk_cell BK293.out 2).trans rfl
                                      have hcz103_3 : wc.cell? ⟨gb293, 3, none⟩ = some (.int .i64 x294003_32) := (blk_cell BK293.out 3).trans rfl
                                      have hcz103_4 : wc.cell? ⟨gb293, 4, none⟩ = some (.int .i32 x294004_48) := (blk_cell BK293.out 4).trans rfl
                                      have hfz103_0 := blk_frozen BK293.out 0
                                      have hfz103_1 := blk_frozen BK293.out 1
                                      have hfz103_2 := blk_frozen BK293.out 2
                                      have hfz103_3 := blk_frozen BK293.out 3
                                      have hfz103_4 := blk_frozen BK293.out 4
                                      go_wp2_with (first | ((with_reducible refine gate_callee (f := 13) rfl ?_); refine goesL_ (some 73) rfl rfl Try.func13 (by kernel_rfl) rfl #[.agg #[.int .i64 x4_1, .int .i64 x294001_13, .int .i64 x294002_24, .int .i64 x294003_32, .int .i32 x294004_48]] rfl (by (try simp only [List.map_toArray, List.map_cons, List.map_nil]); first | done | rfl | (simp only [List.length_drop, List.length_take]; rfl)) ?_; (with_reducible refine (pintleref03_Encode.calls kj48 x4_1 x294001_13 x294002_24 x294003_32 x294004_48 t297 false _ A82.out).mono ?_); rintro e w104 ⟨rfl, hb⟩; refine ⟨_, rfl, ?_⟩; have n0_ := Aside0.mk (blk_below (g := gb283) (o := .cells #[.int .i64 x284000_1, .int .i64 x284001_1, .int .i64 x284002_1, .int .i64 x284003_1, .int .i32 x284004_1] 24 (0, 0)) (by (with_reducible repeat (first | refine blk_drewN ?_ _ | refine blk_drew ?_ | refine blk_alloc ?_ _)); exact BK283.out) hb); have n1_ := Aside0.mk (blk_below (g := gb292) (o := .cells #[.int .u32 t284, .int .u32 t285, .int .u32 t286, .int .i64 t287, .bool t288, .bool t289, .bool t290] 34 (0, 0)) (by (with_reducible repeat (first | refine blk_drewN ?_ _ | refine blk_drew ?_ | refine blk_alloc ?_ _)); exact BK292.out) hb); have n2_ := Aside0.mk (blk_below (g := gb293) (o := .cells #[.int .i64 x4_1, .int .i64 x294001_13, .int .i64 x294002_24, .int .i64 x294003_32, .int .i32 x294004_48] 24 (0, 0)) (by (with_reducible repeat (first | refine blk_drewN ?_ _ | refine blk_drew ?_ | refine blk_alloc ?_ _)); exact BK293.out) hb); have n3_ := Aside0.mk (below_step (by repeat (first | (with_reducible first | exact HB.out | apply below_alloc | apply pw_below_drewN | apply below_drew1 | refine below_set ?_ GE283.out | refine below_set ?_ GE292.out | refine below_set ?_ GE293.out) | exact HB.out)) hb); clear BK283; clear BK292; clear BK293; clear HB; have BK283 := n0_; have BK292 := n1_; have BK293 := n2_; have HB := n3_; clear n0_ n1_ n2_ n3_; (try clear hb); (try clear hb2); (try clear hk); (try clear hi)))
                                      go_roundg kj48
                                      case measure => have := HK1.out; have := HJ4.out; have := HJ13.out; have := HJ24.out; have := HJ32.out; have := HJ40.out; have := HJ48.out; omega
                                      case rel => exact ⟨(wrap64 (x4_1 + 1)), (x284000_1), (x284001_1), (x284002_1), (x284003_1), (x284004_1), (by first | rfl | (simp; done) | (simp [*]; done)), H', ⟨by have := HK1.out; have := HJ4.out; have := HJ13.out; have := HJ24.out; have := HJ32.out; have := HJ40.out; have := HJ48.out; omega⟩, ⟨by (with_reducible repeat (first | refine blk_drewN ?_ _ | refine blk_drew ?_ | refine blk_alloc ?_ _)); exact BK283.out⟩, ⟨by repeat (first | (with_reducible first | exact HB.out | apply below_alloc | apply pw_below_drewN | apply below_drew1 | refine below_set ?_ GE283.out | refine below_set ?_ GE292.out | refine below_set ?_ GE293.out) | exact HB.out)⟩⟩
      · rw [if_neg c3] at H
        have c3b0 : decide (x4_1 ≤ 48) = false := decide_eq_false c3
        clear c3
        simp only [Option.some.injEq, Prod.mk.injEq] at H
        obtain ⟨rfl, rfl, rfl, rfl, rfl, rfl⟩ := H
        have hcz105_0 : wr.cell? ⟨gb283, 0, none⟩ = some (.int .i64 x284000_1) := (blk_cell BK283.out 0).trans rfl
        have hcz105_1 : wr.cell? ⟨gb283, 1, none⟩ = some (.int .i64 x284001_1) := (blk_cell BK283.out 1).trans rfl
        have hcz105_2 : wr.cell? ⟨gb283, 2, none⟩ = some (.int .i64 x284002_1) := (blk_cell BK283.out 2).trans rfl
        have hcz105_3 : wr.cell? ⟨gb283, 3, none⟩ = some (.int .i64 x284003_1) := (blk_cell BK283.out 3).trans rfl
        have hcz105_4 : wr.cell? ⟨gb283, 4, none⟩ = some (.int .i32 x284004_1) := (blk_cell BK283.out 4).trans rfl
        have hfz105_0 := blk_frozen BK283.out 0
        have hfz105_1 := blk_frozen BK283.out 1
        have hfz105_2 := blk_frozen BK283.out 2
        have hfz105_3 := blk_frozen BK283.out 3
        have hfz105_4 := blk_frozen BK283.out 4
        go_wp2
        refine bodyPost_ret (results_ct rfl _ _ gb283 24 #[.int .i64 0, .int .i64 0, .int .i64 0, .int .i64 0, .int .i32 0] (0, 0) _ rfl (by (with_reducible repeat (first | refine blk_drewN ?_ _ | refine blk_drew ?_ | refine blk_alloc ?_ _)); refine blk_put (cs := #[.int .i64 0, .int .i64 0, .int .i64 0, .int .i64 0, .int .i32 x284004_1]) ?_ 4 _ rfl; (with_reducible repeat (first | refine blk_drewN ?_ _ | refine blk_drew ?_ | refine blk_alloc ?_ _)); refine blk_put (cs := #[.int .i64 0, .int .i64 0, .int .i64 0, .int .i64 x284003_1, .int .i32 x284004_1]) ?_ 3 _ rfl; (with_reducible repeat (first | refine blk_drewN ?_ _ | refine blk_drew ?_ | refine blk_alloc ?_ _)); refine blk_put (cs := #[.int .i64 0, .int .i64 0, .int .i64 x284002_1, .int .i64 x284003_1, .int .i32 x284004_1]) ?_ 2 _ rfl; (with_reducible repeat (first | refine blk_drewN ?_ _ | refine blk_drew ?_ | refine blk_alloc ?_ _)); refine blk_put (cs := #[.int .i64 0, .int .i64 x284001_1, .int .i64 x284002_1, .int .i64 x284003_1, .int .i32 x284004_1]) ?_ 1 _ rfl; (with_reducible repeat (first | refine blk_drewN ?_ _ | refine blk_drew ?_ | refine blk_alloc ?_ _)); refine blk_put (cs := #[.int .i64 x284000_1, .int .i64 x284001_1, .int .i64 x284002_1, .int .i64 x284003_1, .int .i32 x284004_1]) ?_ 0 _ rfl; (with_reducible repeat (first | refine blk_drewN ?_ _ | refine blk_drew ?_ | refine blk_alloc ?_ _)); exact BK283.out) Try.underlying24 rfl (by kernel_rfl)) rfl ?_
        exact ⟨by first | rfl | (simp [errW_none, errW_some] <;> rfl) | (simp [*, errW_none, errW_some] <;> rfl), by repeat (first | (with_reducible first | exact HB.out | apply below_alloc | apply pw_below_drewN | apply below_drew1 | refine below_set ?_ GE283.out) | exact HB.out)⟩
end Go.Proofs.Ytmjiimajbaeicaa.PInst
