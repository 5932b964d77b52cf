/- Lemmas for the card of DeliveryLegs: contracts of the functions that the law reaches. Conditions: each lemma's own. Laid together out of this session's texts. -/
import Derived.Test.YtpclapnmiacfpaaDoorZ4
set_option linter.unusedVariables false
set_option linter.unusedSimpArgs false
section
namespace Go.Proofs.YtpclapnmiacfpaaDoor.Q
open Go.RowKit Go.Proofs.YtpclapnmiacfpaaDoorW.PrintWords Go.Proofs.YtpclapnmiacfpaaDoorW.PrintLast Go.Proofs.YtpclapnmiacfpaaDoorW.PrintMore
attribute [local go_sem] max2_int min2_int max_two min_two max_three min_three max_four min_four
set_option linter.unusedVariables false
set_option linter.unusedSimpArgs false
attribute [local go_sem high] eqA56
def girolaw39_DeliveryLegs.j0 : Nat → Int → List (S71) → List (S56) → Bool → Int → ByteArray → ByteArray → ByteArray → Int → Int → Int → Int → Int → Bool → Int → ByteArray → ByteArray → Option (Bool)
 | 0, _, _, _, _, _, _, _, _, _, _, _, _, _, _, _, _, _ => none
 | k + 1, x3, x4, x6, x31, x345000, x345001, x345002, x345003, x345004, x345005, x345006, x345007, x345008, x345009, x345010, x345011, x345012 => if x31 = true then (some false) else (if x3 = 0 then ((giroref39_Legs.f x345000 x345001 x345002 x345003 x345004 x345005 x345006 x345007 x345008 x345009 x345010 x345011 x345012).bind fun t381 => ((girolaw39_legs.f k x4 t381).bind fun t384 => (if t384 = true then (if x345000 = 2 then (some ((x6.length : Int) == 0)) else (if (x6.length : Int) = 1 then (if 0 < (x6.length : Int) then (some ((((rd_T56 x6 0).f0).toList) == x345002.toList && ((((rd_T56 x6 0).f1).toList) == x345001.toList && (((rd_T56 x6 0).f2) == x345005)))) else (none)) else (some false))) else (some false)))) else (if (x4.length : Int) = 0 then (some ((x6.length : Int) == 0)) else (some false)))
def girolaw39_DeliveryLegs.f (k : Nat) (a0_0 : Int) (a0_1 : ByteArray) (a0_2 : ByteArray) (a0_3 : ByteArray) (a0_4 : Int) (a0_5 : Int) (a0_6 : Int) (a0_7 : Int) (a0_8 : Int) (a0_9 : Bool) (a0_10 : Int) (a0_11 : ByteArray) (a0_12 : ByteArray) : Option (Bool) := (girolaw39_known.f k).bind fun t345 => (if t345 = true then ((giroref23_Check.f k a0_0 a0_1 a0_2 a0_3 a0_4 a0_5 a0_6 a0_7 a0_8 a0_9 a0_10 a0_11 a0_12).bind fun t346 => ((girolaw23_Of.f a0_0 a0_1 a0_2 a0_3 a0_4 a0_5 a0_6 a0_7 a0_8 a0_9 a0_10 a0_11 a0_12).bind fun bt347 => ((delivery_Legs.f k bt347.1 bt347.2.1 bt347.2.2.1 bt347.2.2.2.1 bt347.2.2.2.2.1 bt347.2.2.2.2.2.1 bt347.2.2.2.2.2.2.1 bt347.2.2.2.2.2.2.2.1 bt347.2.2.2.2.2.2.2.2.1 bt347.2.2.2.2.2.2.2.2.2.1 bt347.2.2.2.2.2.2.2.2.2.2.1 bt347.2.2.2.2.2.2.2.2.2.2.2.1 bt347.2.2.2.2.2.2.2.2.2.2.2.2).bind fun bt360 => ((girolaw23_Of.f a0_0 a0_1 a0_2 a0_3 a0_4 a0_5 a0_6 a0_7 a0_8 a0_9 a0_10 a0_11 a0_12).bind fun bt364 => ((delivery_Payments.f k bt364.1 bt364.2.1 bt364.2.2.1 bt364.2.2.2.1 bt364.2.2.2.2.1 bt364.2.2.2.2.2.1 bt364.2.2.2.2.2.2.1 bt364.2.2.2.2.2.2.2.1 bt364.2.2.2.2.2.2.2.2.1 bt364.2.2.2.2.2.2.2.2.2.1 bt364.2.2.2.2.2.2.2.2.2.2.1 bt364.2.2.2.2.2.2.2.2.2.2.2.1 bt364.2.2.2.2.2.2.2.2.2.2.2.2).bind fun bt377 => (if bt360.2 = t346 then (girolaw39_DeliveryLegs.j0 k t346 bt360.1 bt377.1 (bt377.2 != t346) a0_0 a0_1 a0_2 a0_3 a0_4 a0_5 a0_6 a0_7 a0_8 a0_9 a0_10 a0_11 a0_12) else (girolaw39_DeliveryLegs.j0 k t346 bt360.1 bt377.1 true a0_0 a0_1 a0_2 a0_3 a0_4 a0_5 a0_6 a0_7 a0_8 a0_9 a0_10 a0_11 a0_12))))))) else (some false))
theorem girolaw39_DeliveryLegs.mono_l : ∀ k, (∀ y0 y1 y2 y3 y4 y5 y6 y7 y8 y9 y10 y11 y12 y13 y14 y15 y16, LeO (girolaw39_DeliveryLegs.j0 k y0 y1 y2 y3 y4 y5 y6 y7 y8 y9 y10 y11 y12 y13 y14 y15 y16) (girolaw39_DeliveryLegs.j0 (k + 1) y0 y1 y2 y3 y4 y5 y6 y7 y8 y9 y10 y11 y12 y13 y14 y15 y16))
 | 0 => fun _ _ _ _ _ _ _ _ _ _ _ _ _ _ _ _ _ r h => by simp [girolaw39_DeliveryLegs.j0] at h
 | k + 1 => by
  have ih0 := girolaw39_DeliveryLegs.mono_l k
  ·intro y0 y1 y2 y3 y4 y5 y6 y7 y8 y9 y10 y11 y12 y13 y14 y15 y16
   unfold girolaw39_DeliveryLegs.j0
   repeat' first
   | (with_reducible exact ih0 _ _ _ _ _ _ _ _ _ _ _ _ _ _ _ _ _)
   | (with_reducible exact delivery_Legs.mono _ _ _ _ _ _ _ _ _ _ _ _ _ _)
   | (with_reducible exact delivery_Payments.mono _ _ _ _ _ _ _ _ _ _ _ _ _ _)
   | (with_reducible exact girolaw39_known.mono _)
   | (with_reducible exact girolaw39_legs.mono _ _ _)
   | (with_reducible exact giroref23_Check.mono _ _ _ _ _ _ _ _ _ _ _ _ _ _)
   | (with_reducible exact LeO.refl _)
   | (with_reducible exact LeO.none _)
   | (with_reducible refine LeO.ite ?_ ?_)
   | (with_reducible refine LeO.bind ?_ (fun _ => ?_))
   | exact ih0 _ _ _ _ _ _ _ _ _ _ _ _ _ _ _ _ _
   | exact delivery_Legs.mono _ _ _ _ _ _ _ _ _ _ _ _ _ _
   | exact delivery_Payments.mono _ _ _ _ _ _ _ _ _ _ _ _ _ _
   | exact girolaw39_known.mono _
   | exact girolaw39_legs.mono _ _ _
   | exact giroref23_Check.mono _ _ _ _ _ _ _ _ _ _ _ _ _ _
   | exact LeO.none _
   | refine LeO.ite ?_ ?_
   | refine LeO.bind ?_ (fun _ => ?_)
theorem girolaw39_DeliveryLegs.mono : ∀ a0 a1 a2 a3 a4 a5 a6 a7 a8 a9 a10 a11 a12 k, LeO (girolaw39_DeliveryLegs.f k a0 a1 a2 a3 a4 a5 a6 a7 a8 a9 a10 a11 a12) (girolaw39_DeliveryLegs.f (k + 1) a0 a1 a2 a3 a4 a5 a6 a7 a8 a9 a10 a11 a12) := by
 intro a0 a1 a2 a3 a4 a5 a6 a7 a8 a9 a10 a11 a12 k
 have ih0 := girolaw39_DeliveryLegs.mono_l k
 unfold girolaw39_DeliveryLegs.f
 repeat' first
   | (with_reducible exact ih0 _ _ _ _ _ _ _ _ _ _ _ _ _ _ _ _ _)
   | (with_reducible exact delivery_Legs.mono _ _ _ _ _ _ _ _ _ _ _ _ _ _)
   | (with_reducible exact delivery_Payments.mono _ _ _ _ _ _ _ _ _ _ _ _ _ _)
   | (with_reducible exact girolaw39_known.mono _)
   | (with_reducible exact girolaw39_legs.mono _ _ _)
   | (with_reducible exact giroref23_Check.mono _ _ _ _ _ _ _ _ _ _ _ _ _ _)
   | (with_reducible exact LeO.refl _)
   | (with_reducible exact LeO.none _)
   | (with_reducible refine LeO.ite ?_ ?_)
   | (with_reducible refine LeO.bind ?_ (fun _ => ?_))
   | exact ih0 _ _ _ _ _ _ _ _ _ _ _ _ _ _ _ _ _
   | exact delivery_Legs.mono _ _ _ _ _ _ _ _ _ _ _ _ _ _
   | exact delivery_Payments.mono _ _ _ _ _ _ _ _ _ _ _ _ _ _
   | exact girolaw39_known.mono _
   | exact girolaw39_legs.mono _ _ _
   | exact giroref23_Check.mono _ _ _ _ _ _ _ _ _ _ _ _ _ _
   | exact LeO.none _
   | refine LeO.ite ?_ ?_
   | refine LeO.bind ?_ (fun _ => ?_)
set_option maxHeartbeats 8000000 in
set_option maxRecDepth 100000 in
theorem girolaw39_DeliveryLegs.calls (k : Nat) (a0_0 : Int) (a0_1 : ByteArray) (a0_2 : ByteArray) (a0_3 : ByteArray) (a0_4 : Int) (a0_5 : Int) (a0_6 : Int) (a0_7 : Int) (a0_8 : Int) (a0_9 : Bool) (a0_10 : Int) (a0_11 : ByteArray) (a0_12 : ByteArray) (r : Bool) (w : World) (h : girolaw39_DeliveryLegs.f k a0_0 a0_1 a0_2 a0_3 a0_4 a0_5 a0_6 a0_7 a0_8 a0_9 a0_10 a0_11 a0_12 = some r) :
  Calls Tryd.prog 6 #[.agg #[.int .i64 a0_0, .string a0_1, .string a0_2, .string a0_3, .int .i64 a0_4, .int .i64 a0_5, .int .i64 a0_6, .int .i64 a0_7, .int .i64 a0_8, .bool a0_9, .int .i64 a0_10, .string a0_11, .string a0_12]] w fun e w' => e = .returned (.bool r) ∧ Below w.heap.size w w' := by
 have hu24 := Tryd.underlying24
 have hu56 := Tryd.underlying56
 have HB := Aside0.mk (Below.refl w.heap.size w)
 have H : ((girolaw39_known.f k).bind fun t345 => (if t345 = true then ((giroref23_Check.f k a0_0 a0_1 a0_2 a0_3 a0_4 a0_5 a0_6 a0_7 a0_8 a0_9 a0_10 a0_11 a0_12).bind fun t346 => ((girolaw23_Of.f a0_0 a0_1 a0_2 a0_3 a0_4 a0_5 a0_6 a0_7 a0_8 a0_9 a0_10 a0_11 a0_12).bind fun bt347 => ((delivery_Legs.f k bt347.1 bt347.2.1 bt347.2.2.1 bt347.2.2.2.1 bt347.2.2.2.2.1 bt347.2.2.2.2.2.1 bt347.2.2.2.2.2.2.1 bt347.2.2.2.2.2.2.2.1 bt347.2.2.2.2.2.2.2.2.1 bt347.2.2.2.2.2.2.2.2.2.1 bt347.2.2.2.2.2.2.2.2.2.2.1 bt347.2.2.2.2.2.2.2.2.2.2.2.1 bt347.2.2.2.2.2.2.2.2.2.2.2.2).bind fun bt360 => ((girolaw23_Of.f a0_0 a0_1 a0_2 a0_3 a0_4 a0_5 a0_6 a0_7 a0_8 a0_9 a0_10 a0_11 a0_12).bind fun bt364 => ((delivery_Payments.f k bt364.1 bt364.2.1 bt364.2.2.1 bt364.2.2.2.1 bt364.2.2.2.2.1 bt364.2.2.2.2.2.1 bt364.2.2.2.2.2.2.1 bt364.2.2.2.2.2.2.2.1 bt364.2.2.2.2.2.2.2.2.1 bt364.2.2.2.2.2.2.2.2.2.1 bt364.2.2.2.2.2.2.2.2.2.2.1 bt364.2.2.2.2.2.2.2.2.2.2.2.1 bt364.2.2.2.2.2.2.2.2.2.2.2.2).bind fun bt377 => (if bt360.2 = t346 then (girolaw39_DeliveryLegs.j0 k t346 bt360.1 bt377.1 (bt377.2 != t346) a0_0 a0_1 a0_2 a0_3 a0_4 a0_5 a0_6 a0_7 a0_8 a0_9 a0_10 a0_11 a0_12) else (girolaw39_DeliveryLegs.j0 k t346 bt360.1 bt377.1 true a0_0 a0_1 a0_2 a0_3 a0_4 a0_5 a0_6 a0_7 a0_8 a0_9 a0_10 a0_11 a0_12))))))) else (some false))) = some r := h
 clear h
 replace H := Option.bind_eq_some_iff.mp H
 obtain ⟨t345, A20, H⟩ := H
 replace H : (if t345 = true then ((giroref23_Check.f k a0_0 a0_1 a0_2 a0_3 a0_4 a0_5 a0_6 a0_7 a0_8 a0_9 a0_10 a0_11 a0_12).bind fun t346 => ((girolaw23_Of.f a0_0 a0_1 a0_2 a0_3 a0_4 a0_5 a0_6 a0_7 a0_8 a0_9 a0_10 a0_11 a0_12).bind fun bt347 => ((delivery_Legs.f k bt347.1 bt347.2.1 bt347.2.2.1 bt347.2.2.2.1 bt347.2.2.2.2.1 bt347.2.2.2.2.2.1 bt347.2.2.2.2.2.2.1 bt347.2.2.2.2.2.2.2.1 bt347.2.2.2.2.2.2.2.2.1 bt347.2.2.2.2.2.2.2.2.2.1 bt347.2.2.2.2.2.2.2.2.2.2.1 bt347.2.2.2.2.2.2.2.2.2.2.2.1 bt347.2.2.2.2.2.2.2.2.2.2.2.2).bind fun bt360 => ((girolaw23_Of.f a0_0 a0_1 a0_2 a0_3 a0_4 a0_5 a0_6 a0_7 a0_8 a0_9 a0_10 a0_11 a0_12).bind fun bt364 => ((delivery_Payments.f k bt364.1 bt364.2.1 bt364.2.2.1 bt364.2.2.2.1 bt364.2.2.2.2.1 bt364.2.2.2.2.2.1 bt364.2.2.2.2.2.2.1 bt364.2.2.2.2.2.2.2.1 bt364.2.2.2.2.2.2.2.2.1 bt364.2.2.2.2.2.2.2.2.2.1 bt364.2.2.2.2.2.2.2.2.2.2.1 bt364.2.2.2.2.2.2.2.2.2.2.2.1 bt364.2.2.2.2.2.2.2.2.2.2.2.2).bind fun bt377 => (if bt360.2 = t346 then (girolaw39_DeliveryLegs.j0 k t346 bt360.1 bt377.1 (bt377.2 != t346) a0_0 a0_1 a0_2 a0_3 a0_4 a0_5 a0_6 a0_7 a0_8 a0_9 a0_10 a0_11 a0_12) else (girolaw39_DeliveryLegs.j0 k t346 bt360.1 bt377.1 true a0_0 a0_1 a0_2 a0_3 a0_4 a0_5 a0_6 a0_7 a0_8 a0_9 a0_10 a0_11 a0_12))))))) else (some false)) = some r := H
 have A2 := Aside0.mk A20
 clear A20
 by_cases c3 : t345 = true
 ·subst c3
  have H1 : ((giroref23_Check.f k a0_0 a0_1 a0_2 a0_3 a0_4 a0_5 a0_6 a0_7 a0_8 a0_9 a0_10 a0_11 a0_12).bind fun t346 => ((girolaw23_Of.f a0_0 a0_1 a0_2 a0_3 a0_4 a0_5 a0_6 a0_7 a0_8 a0_9 a0_10 a0_11 a0_12).bind fun bt347 => ((delivery_Legs.f k bt347.1 bt347.2.1 bt347.2.2.1 bt347.2.2.2.1 bt347.2.2.2.2.1 bt347.2.2.2.2.2.1 bt347.2.2.2.2.2.2.1 bt347.2.2.2.2.2.2.2.1 bt347.2.2.2.2.2.2.2.2.1 bt347.2.2.2.2.2.2.2.2.2.1 bt347.2.2.2.2.2.2.2.2.2.2.1 bt347.2.2.2.2.2.2.2.2.2.2.2.1 bt347.2.2.2.2.2.2.2.2.2.2.2.2).bind fun bt360 => ((girolaw23_Of.f a0_0 a0_1 a0_2 a0_3 a0_4 a0_5 a0_6 a0_7 a0_8 a0_9 a0_10 a0_11 a0_12).bind fun bt364 => ((delivery_Payments.f k bt364.1 bt364.2.1 bt364.2.2.1 bt364.2.2.2.1 bt364.2.2.2.2.1 bt364.2.2.2.2.2.1 bt364.2.2.2.2.2.2.1 bt364.2.2.2.2.2.2.2.1 bt364.2.2.2.2.2.2.2.2.1 bt364.2.2.2.2.2.2.2.2.2.1 bt364.2.2.2.2.2.2.2.2.2.2.1 bt364.2.2.2.2.2.2.2.2.2.2.2.1 bt364.2.2.2.2.2.2.2.2.2.2.2.2).bind fun bt377 => (if bt360.2 = t346 then (girolaw39_DeliveryLegs.j0 k t346 bt360.1 bt377.1 (bt377.2 != t346) a0_0 a0_1 a0_2 a0_3 a0_4 a0_5 a0_6 a0_7 a0_8 a0_9 a0_10 a0_11 a0_12) else (girolaw39_DeliveryLegs.j0 k t346 bt360.1 bt377.1 true a0_0 a0_1 a0_2 a0_3 a0_4 a0_5 a0_6 a0_7 a0_8 a0_9 a0_10 a0_11 a0_12))))))) = some r := by rw [if_pos rfl] at H; exact H
  clear H
  have H := H1
  clear H1
  replace H := Option.bind_eq_some_iff.mp H
  obtain ⟨t346, A40, H⟩ := H
  replace H : ((girolaw23_Of.f a0_0 a0_1 a0_2 a0_3 a0_4 a0_5 a0_6 a0_7 a0_8 a0_9 a0_10 a0_11 a0_12).bind fun bt347 => ((delivery_Legs.f k bt347.1 bt347.2.1 bt347.2.2.1 bt347.2.2.2.1 bt347.2.2.2.2.1 bt347.2.2.2.2.2.1 bt347.2.2.2.2.2.2.1 bt347.2.2.2.2.2.2.2.1 bt347.2.2.2.2.2.2.2.2.1 bt347.2.2.2.2.2.2.2.2.2.1 bt347.2.2.2.2.2.2.2.2.2.2.1 bt347.2.2.2.2.2.2.2.2.2.2.2.1 bt347.2.2.2.2.2.2.2.2.2.2.2.2).bind fun bt360 => ((girolaw23_Of.f a0_0 a0_1 a0_2 a0_3 a0_4 a0_5 a0_6 a0_7 a0_8 a0_9 a0_10 a0_11 a0_12).bind fun bt364 => ((delivery_Payments.f k bt364.1 bt364.2.1 bt364.2.2.1 bt364.2.2.2.1 bt364.2.2.2.2.1 bt364.2.2.2.2.2.1 bt364.2.2.2.2.2.2.1 bt364.2.2.2.2.2.2.2.1 bt364.2.2.2.2.2.2.2.2.1 bt364.2.2.2.2.2.2.2.2.2.1 bt364.2.2.2.2.2.2.2.2.2.2.1 bt364.2.2.2.2.2.2.2.2.2.2.2.1 bt364.2.2.2.2.2.2.2.2.2.2.2.2).bind fun bt377 => (if bt360.2 = t346 then (girolaw39_DeliveryLegs.j0 k t346 bt360.1 bt377.1 (bt377.2 != t346) a0_0 a0_1 a0_2 a0_3 a0_4 a0_5 a0_6 a0_7 a0_8 a0_9 a0_10 a0_11 a0_12) else (girolaw39_DeliveryLegs.j0 k t346 bt360.1 bt377.1 true a0_0 a0_1 a0_2 a0_3 a0_4 a0_5 a0_6 a0_7 a0_8 a0_9 a0_10 a0_11 a0_12)))))) = some r := H
  have A4 := Aside0.mk A40
  clear A40
  replace H := Option.bind_eq_some_iff.mp H
  obtain ⟨⟨t347, t348, t349, t350, t351, t352, t353, t354, t355, t356, t357, t358, t359⟩, A50, H⟩ := H
  replace H : ((delivery_Legs.f k t347 t348 t349 t350 t351 t352 t353 t354 t355 t356 t357 t358 t359).bind fun bt360 => ((girolaw23_Of.f a0_0 a0_1 a0_2 a0_3 a0_4 a0_5 a0_6 a0_7 a0_8 a0_9 a0_10 a0_11 a0_12).bind fun bt364 => ((delivery_Payments.f k bt364.1 bt364.2.1 bt364.2.2.1 bt364.2.2.2.1 bt364.2.2.2.2.1 bt364.2.2.2.2.2.1 bt364.2.2.2.2.2.2.1 bt364.2.2.2.2.2.2.2.1 bt364.2.2.2.2.2.2.2.2.1 bt364.2.2.2.2.2.2.2.2.2.1 bt364.2.2.2.2.2.2.2.2.2.2.1 bt364.2.2.2.2.2.2.2.2.2.2.2.1 bt364.2.2.2.2.2.2.2.2.2.2.2.2).bind fun bt377 => (if bt360.2 = t346 then (girolaw39_DeliveryLegs.j0 k t346 bt360.1 bt377.1 (bt377.2 != t346) a0_0 a0_1 a0_2 a0_3 a0_4 a0_5 a0_6 a0_7 a0_8 a0_9 a0_10 a0_11 a0_12) else (girolaw39_DeliveryLegs.j0 k t346 bt360.1 bt377.1 true a0_0 a0_1 a0_2 a0_3 a0_4 a0_5 a0_6 a0_7 a0_8 a0_9 a0_10 a0_11 a0_12))))) = some r := H
  have A5 := Aside0.mk A50
  clear A50
  replace H := Option.bind_eq_some_iff.mp H
  obtain ⟨⟨t360, t363⟩, A60, H⟩ := H
  replace H : ((girolaw23_Of.f a0_0 a0_1 a0_2 a0_3 a0_4 a0_5 a0_6 a0_7 a0_8 a0_9 a0_10 a0_11 a0_12).bind fun bt364 => ((delivery_Payments.f k bt364.1 bt364.2.1 bt364.2.2.1 bt364.2.2.2.1 bt364.2.2.2.2.1 bt364.2.2.2.2.2.1 bt364.2.2.2.2.2.2.1 bt364.2.2.2.2.2.2.2.1 bt364.2.2.2.2.2.2.2.2.1 bt364.2.2.2.2.2.2.2.2.2.1 bt364.2.2.2.2.2.2.2.2.2.2.1 bt364.2.2.2.2.2.2.2.2.2.2.2.1 bt364.2.2.2.2.2.2.2.2.2.2.2.2).bind fun bt377 => (if t363 = t346 then (girolaw39_DeliveryLegs.j0 k t346 t360 bt377.1 (bt377.2 != t346) a0_0 a0_1 a0_2 a0_3 a0_4 a0_5 a0_6 a0_7 a0_8 a0_9 a0_10 a0_11 a0_12) else (girolaw39_DeliveryLegs.j0 k t346 t360 bt377.1 true a0_0 a0_1 a0_2 a0_3 a0_4 a0_5 a0_6 a0_7 a0_8 a0_9 a0_10 a0_11 a0_12)))) = some r := H
  have A6 := Aside0.mk A60
  clear A60
  rw [A5.out, Option.bind_some] at H
  replace H : ((delivery_Payments.f k t347 t348 t349 t350 t351 t352 t353 t354 t355 t356 t357 t358 t359).bind fun bt377 => (if t363 = t346 then (girolaw39_DeliveryLegs.j0 k t346 t360 bt377.1 (bt377.2 != t346) a0_0 a0_1 a0_2 a0_3 a0_4 a0_5 a0_6 a0_7 a0_8 a0_9 a0_10 a0_11 a0_12) else (girolaw39_DeliveryLegs.j0 k t346 t360 bt377.1 true a0_0 a0_1 a0_2 a0_3 a0_4 a0_5 a0_6 a0_7 a0_8 a0_9 a0_10 a0_11 a0_12))) = some r := H
  have A7 := A5
  replace H := Option.bind_eq_some_iff.mp H
  obtain ⟨⟨t377, t380⟩, A80, H⟩ := H
  replace H : (if t363 = t346 then (girolaw39_DeliveryLegs.j0 k t346 t360 t377 (t380 != t346) a0_0 a0_1 a0_2 a0_3 a0_4 a0_5 a0_6 a0_7 a0_8 a0_9 a0_10 a0_11 a0_12) else (girolaw39_DeliveryLegs.j0 k t346 t360 t377 true a0_0 a0_1 a0_2 a0_3 a0_4 a0_5 a0_6 a0_7 a0_8 a0_9 a0_10 a0_11 a0_12)) = some r := H
  have A8 := Aside0.mk A80
  clear A80
  have HC9 := Aside0.mk H
  clear H
  go_enter Tryd.func6, Tryd.ntmps6
  go_upto_region 6 with (first | ((with_reducible refine gate_dst (N := 1) rfl ?_); (try (refine gate_guard (by rfl) ?_; dsimp only)); refine box_event ?hg (N := 1) ?hd (cs := #[.int .i64 a0_0, .string a0_1, .string a0_2, .string a0_3, .int .i64 a0_4, .int .i64 a0_5, .int .i64 a0_6, .int .i64 a0_7, .int .i64 a0_8, .bool a0_9, .int .i64 a0_10, .string a0_11, .string a0_12]) (t := 24) ?hr ?_; (case hd => rfl); (case hg => rfl); (case hr => first | (go_simp; done) | (go_simp; rfl)); intro gb344 hg w10 hbox hb; have n0_ := Aside0.mk (below_step (by repeat (first | (with_reducible first | exact HB.out | apply below_alloc | apply pw_below_drewN | apply below_drew1) | exact HB.out)) hb); have n1_ := Aside0.mk (hbox); have n2_ := Aside0.mk ((by rw [hg]; exact (below_size (by repeat (first | (with_reducible first | exact HB.out | apply below_alloc | apply pw_below_drewN | apply below_drew1) | exact HB.out))) : w.heap.size ≤ gb344)); have n3_ := Aside0.mk ((by rw [hg]; exact (below_size (by repeat (first | (with_reducible first | exact HB.out | apply below_alloc | apply pw_below_drewN | apply below_drew1) | exact HB.out))) : w.heap.size ≤ gb344)); clear HB; have HB := n0_; have BK344 := n1_; have GW344 := n2_; have GE344 := n3_; clear n0_ n1_ n2_ n3_; clear hb hbox hg) | (go_at_call 8; (with_reducible refine (girolaw39_known.calls k  true _ A2.out).mono ?_); rintro e w11 ⟨rfl, hb⟩; have n0_ := Aside0.mk (blk_below (g := gb344) (o := .cells #[.int .i64 a0_0, .string a0_1, .string a0_2, .string a0_3, .int .i64 a0_4, .int .i64 a0_5, .int .i64 a0_6, .int .i64 a0_7, .int .i64 a0_8, .bool a0_9, .int .i64 a0_10, .string a0_11, .string a0_12] 24 (0, 0)) (by (with_reducible repeat (first | refine blk_drewN ?_ _ | refine blk_drew ?_ | refine blk_alloc ?_ _)); exact BK344.out) hb); have n1_ := Aside0.mk (below_step (by repeat (first | (with_reducible first | exact HB.out | apply below_alloc | apply pw_below_drewN | apply below_drew1 | refine below_set ?_ GE344.out) | exact HB.out)) hb); clear BK344; clear HB; have BK344 := n0_; have HB := n1_; clear n0_ n1_; (try clear hb); (try clear hb2); (try clear hk); (try clear hi); have hcz12_0 : w11.cell? ⟨gb344, 0, none⟩ = some (.int .i64 a0_0) := (blk_cell BK344.out 0).trans rfl; have hcz12_1 : w11.cell? ⟨gb344, 1, none⟩ = some (.string a0_1) := (blk_cell BK344.out 1).trans rfl; have hcz12_2 : w11.cell? ⟨gb344, 2, none⟩ = some (.string a0_2) := (blk_cell BK344.out 2).trans rfl; have hcz12_3 : w11.cell? ⟨gb344, 3, none⟩ = some (.string a0_3) := (blk_cell BK344.out 3).trans rfl; have hcz12_4 : w11.cell? ⟨gb344, 4, none⟩ = some (.int .i64 a0_4) := (blk_cell BK344.out 4).trans rfl; have hcz12_5 : w11.cell? ⟨gb344, 5, none⟩ = some (.int .i64 a0_5) := (blk_cell BK344.out 5).trans rfl; have hcz12_6 : w11.cell? ⟨gb344, 6, none⟩ = some (.int .i64 a0_6) := (blk_cell BK344.out 6).trans rfl; have hcz12_7 : w11.cell? ⟨gb344, 7, none⟩ = some (.int .i64 a0_7) := (blk_cell BK344.out 7).trans rfl; have hcz12_8 : w11.cell? ⟨gb344, 8, none⟩ = some (.int .i64 a0_8) := (blk_cell BK344.out 8).trans rfl; have hcz12_9 : w11.cell? ⟨gb344, 9, none⟩ = some (.bool a0_9) := (blk_cell BK344.out 9).trans rfl; have hcz12_10 : w11.cell? ⟨gb344, 10, none⟩ = some (.int .i64 a0_10) := (blk_cell BK344.out 10).trans rfl; have hcz12_11 : w11.cell? ⟨gb344, 11, none⟩ = some (.string a0_11) := (blk_cell BK344.out 11).trans rfl; have hcz12_12 : w11.cell? ⟨gb344, 12, none⟩ = some (.string a0_12) := (blk_cell BK344.out 12).trans rfl; have hfz12_0 := blk_frozen BK344.out 0; have hfz12_1 := blk_frozen BK344.out 1; have hfz12_2 := blk_frozen BK344.out 2; have hfz12_3 := blk_frozen BK344.out 3; have hfz12_4 := blk_frozen BK344.out 4; have hfz12_5 := blk_frozen BK344.out 5; have hfz12_6 := blk_frozen BK344.out 6; have hfz12_7 := blk_frozen BK344.out 7; have hfz12_8 := blk_frozen BK344.out 8; have hfz12_9 := blk_frozen BK344.out 9; have hfz12_10 := blk_frozen BK344.out 10; have hfz12_11 := blk_frozen BK344.out 11; have hfz12_12 := blk_frozen BK344.out 12) | (go_at_call 9; (with_reducible refine (giroref23_Check.calls k a0_0 a0_1 a0_2 a0_3 a0_4 a0_5 a0_6 a0_7 a0_8 a0_9 a0_10 a0_11 a0_12 t346 _ A4.out).mono ?_); rintro e w13 ⟨rfl, hb⟩; have n0_ := Aside0.mk (blk_below (g := gb344) (o := .cells #[.int .i64 a0_0, .string a0_1, .string a0_2, .string a0_3, .int .i64 a0_4, .int .i64 a0_5, .int .i64 a0_6, .int .i64 a0_7, .int .i64 a0_8, .bool a0_9, .int .i64 a0_10, .string a0_11, .string a0_12] 24 (0, 0)) (by (with_reducible repeat (first | refine blk_drewN ?_ _ | refine blk_drew ?_ | refine blk_alloc ?_ _)); exact BK344.out) hb); have n1_ := Aside0.mk (below_step (by repeat (first | (with_reducible first | exact HB.out | apply below_alloc | apply pw_below_drewN | apply below_drew1 | refine below_set ?_ GE344.out) | exact HB.out)) hb); clear BK344; clear HB; have BK344 := n0_; have HB := n1_; clear n0_ n1_; (try clear hb); (try clear hb2); (try clear hk); (try clear hi); have hcz14_0 : w13.cell? ⟨gb344, 0, none⟩ = some (.int .i64 a0_0) := (blk_cell BK344.out 0).trans rfl; have hcz14_1 : w13.cell? ⟨gb344, 1, none⟩ = some (.string a0_1) := (blk_cell BK344.out 1).trans rfl; have hcz14_2 : w13.cell? ⟨gb344, 2, none⟩ = some (.string a0_2) := (blk_cell BK344.out 2).trans rfl; have hcz14_3 : w13.cell? ⟨gb344, 3, none⟩ = some (.string a0_3) := (blk_cell BK344.out 3).trans rfl; have hcz14_4 : w13.cell? ⟨gb344, 4, none⟩ = some (.int .i64 a0_4) := (blk_cell BK344.out 4).trans rfl; have hcz14_5 : w13.cell? ⟨gb344, 5, none⟩ = some (.int .i64 a0_5) := (blk_cell BK344.out 5).trans rfl; have hcz14_6 : w13.cell? ⟨gb344, 6, none⟩ = some (.int .i64 a0_6) := (blk_cell BK344.out 6).trans rfl; have hcz14_7 : w13.cell? ⟨gb344, 7, none⟩ = some (.int .i64 a0_7) := (blk_cell BK344.out 7).trans rfl; have hcz14_8 : w13.cell? ⟨gb344, 8, none⟩ = some (.int .i64 a0_8) := (blk_cell BK344.out 8).trans rfl; have hcz14_9 : w13.cell? ⟨gb344, 9, none⟩ = some (.bool a0_9) := (blk_cell BK344.out 9).trans rfl; have hcz14_10 : w13.cell? ⟨gb344, 10, none⟩ = some (.int .i64 a0_10) := (blk_cell BK344.out 10).trans rfl; have hcz14_11 : w13.cell? ⟨gb344, 11, none⟩ = some (.string a0_11) := (blk_cell BK344.out 11).trans rfl; have hcz14_12 : w13.cell? ⟨gb344, 12, none⟩ = some (.string a0_12) := (blk_cell BK344.out 12).trans rfl; have hfz14_0 := blk_frozen BK344.out 0; have hfz14_1 := blk_frozen BK344.out 1; have hfz14_2 := blk_frozen BK344.out 2; have hfz14_3 := blk_frozen BK344.out 3; have hfz14_4 := blk_frozen BK344.out 4; have hfz14_5 := blk_frozen BK344.out 5; have hfz14_6 := blk_frozen BK344.out 6; have hfz14_7 := blk_frozen BK344.out 7; have hfz14_8 := blk_frozen BK344.out 8; have hfz14_9 := blk_frozen BK344.out 9; have hfz14_10 := blk_frozen BK344.out 10; have hfz14_11 := blk_frozen BK344.out 11; have hfz14_12 := blk_frozen BK344.out 12) | (go_at_call 11; (with_reducible refine (girolaw23_Of.calls a0_0 a0_1 a0_2 a0_3 a0_4 a0_5 a0_6 a0_7 a0_8 a0_9 a0_10 a0_11 a0_12 t347 t348 t349 t350 t351 t352 t353 t354 t355 t356 t357 t358 t359 _ A7.out).mono ?_); rintro e w18 ⟨rfl, hb⟩; have n0_ := Aside0.mk (Kd.R_below (by (with_reducible repeat (first | apply Kd.R_alloc | apply Kd.R_drewN | apply Kd.R_drew)); exact HO362.out) hb); have n1_ := Aside0.mk (blk_below (g := gb344) (o := .cells #[.int .i64 a0_0, .string a0_1, .string a0_2, .string a0_3, .int .i64 a0_4, .int .i64 a0_5, .int .i64 a0_6, .int .i64 a0_7, .int .i64 a0_8, .bool a0_9, .int .i64 a0_10, .string a0_11, .string a0_12] 24 (0, 0)) (by (with_reducible repeat (first | refine blk_drewN ?_ _ | refine blk_drew ?_ | refine blk_alloc ?_ _)); exact BK344.out) hb); have n2_ := Aside0.mk (below_step (by repeat (first | (with_reducible first | exact HB.out | apply below_alloc | apply pw_below_drewN | apply below_drew1 | refine below_set ?_ GE344.out) | exact HB.out)) hb); clear HO362; clear BK344; clear HB; have HO362 := n0_; have BK344 := n1_; have HB := n2_; clear n0_ n1_ n2_; (try clear hb); (try clear hb2); (try clear hk); (try clear hi)) | (go_at_call 21; (with_reducible refine (delivery_Legs.calls k t347 t348 t349 t350 t351 t352 t353 t354 t355 t356 t357 t358 t359 t360 t363 _ A6.out).mono ?_); rintro e w16 ⟨v361, rfl, ho0, hb⟩; have n0_ := Aside0.mk (Kd.R_lower ho0 (below_size (by repeat (first | (with_reducible first | exact HB.out | apply below_alloc | apply pw_below_drewN | apply below_drew1 | refine below_set ?_ GE344.out) | exact HB.out)))); have n1_ := Aside0.mk (blk_below (g := gb344) (o := .cells #[.int .i64 a0_0, .string a0_1, .string a0_2, .string a0_3, .int .i64 a0_4, .int .i64 a0_5, .int .i64 a0_6, .int .i64 a0_7, .int .i64 a0_8, .bool a0_9, .int .i64 a0_10, .string a0_11, .string a0_12] 24 (0, 0)) (by (with_reducible repeat (first | refine blk_drewN ?_ _ | refine blk_drew ?_ | refine blk_alloc ?_ _)); exact BK344.out) hb); have n2_ := Aside0.mk (below_step (by repeat (first | (with_reducible first | exact HB.out | apply below_alloc | apply pw_below_drewN | apply below_drew1 | refine below_set ?_ GE344.out) | exact HB.out)) hb); clear BK344; clear HB; have HO362 := n0_; have BK344 := n1_; have HB := n2_; clear n0_ n1_ n2_; (try clear hb); (try clear hb2); (try clear hk); (try clear hi); (try clear ho0); have hcz17_0 : w16.cell? ⟨gb344, 0, none⟩ = some (.int .i64 a0_0) := (blk_cell BK344.out 0).trans rfl; have hcz17_1 : w16.cell? ⟨gb344, 1, none⟩ = some (.string a0_1) := (blk_cell BK344.out 1).trans rfl; have hcz17_2 : w16.cell? ⟨gb344, 2, none⟩ = some (.string a0_2) := (blk_cell BK344.out 2).trans rfl; have hcz17_3 : w16.cell? ⟨gb344, 3, none⟩ = some (.string a0_3) := (blk_cell BK344.out 3).trans rfl; have hcz17_4 : w16.cell? ⟨gb344, 4, none⟩ = some (.int .i64 a0_4) := (blk_cell BK344.out 4).trans rfl; have hcz17_5 : w16.cell? ⟨gb344, 5, none⟩ = some (.int .i64 a0_5) := (blk_cell BK344.out 5).trans rfl; have hcz17_6 : w16.cell? ⟨gb344, 6, none⟩ = some (.int .i64 a0_6) := (blk_cell BK344.out 6).trans rfl; have hcz17_7 : w16.cell? ⟨gb344, 7, none⟩ = some (.int .i64 a0_7) := (blk_cell BK344.out 7).trans rfl; have hcz17_8 : w16.cell? ⟨gb344, 8, none⟩ = some (.int .i64 a0_8) := (blk_cell BK344.out 8).trans rfl; have hcz17_9 : w16.cell? ⟨gb344, 9, none⟩ = some (.bool a0_9) := (blk_cell BK344.out 9).trans rfl; have hcz17_10 : w16.cell? ⟨gb344, 10, none⟩ = some (.int .i64 a0_10) := (blk_cell BK344.out 10).trans rfl; have hcz17_11 : w16.cell? ⟨gb344, 11, none⟩ = some (.string a0_11) := (blk_cell BK344.out 11).trans rfl; have hcz17_12 : w16.cell? ⟨gb344, 12, none⟩ = some (.string a0_12) := (blk_cell BK344.out 12).trans rfl; have hfz17_0 := blk_frozen BK344.out 0; have hfz17_1 := blk_frozen BK344.out 1; have hfz17_2 := blk_frozen BK344.out 2; have hfz17_3 := blk_frozen BK344.out 3; have hfz17_4 := blk_frozen BK344.out 4; have hfz17_5 := blk_frozen BK344.out 5; have hfz17_6 := blk_frozen BK344.out 6; have hfz17_7 := blk_frozen BK344.out 7; have hfz17_8 := blk_frozen BK344.out 8; have hfz17_9 := blk_frozen BK344.out 9; have hfz17_10 := blk_frozen BK344.out 10; have hfz17_11 := blk_frozen BK344.out 11; have hfz17_12 := blk_frozen BK344.out 12) | (go_at_call 11; (with_reducible refine (girolaw23_Of.calls a0_0 a0_1 a0_2 a0_3 a0_4 a0_5 a0_6 a0_7 a0_8 a0_9 a0_10 a0_11 a0_12 t347 t348 t349 t350 t351 t352 t353 t354 t355 t356 t357 t358 t359 _ A5.out).mono ?_); rintro e w15 ⟨rfl, hb⟩; have n0_ := Aside0.mk (blk_below (g := gb344) (o := .cells #[.int .i64 a0_0, .string a0_1, .string a0_2, .string a0_3, .int .i64 a0_4, .int .i64 a0_5, .int .i64 a0_6, .int .i64 a0_7, .int .i64 a0_8, .bool a0_9, .int .i64 a0_10, .string a0_11, .string a0_12] 24 (0, 0)) (by (with_reducible repeat (first | refine blk_drewN ?_ _ | refine blk_drew ?_ | refine blk_alloc ?_ _)); exact BK344.out) hb); have n1_ := Aside0.mk (below_step (by repeat (first | (with_reducible first | exact HB.out | apply below_alloc | apply pw_below_drewN | apply below_drew1 | refine below_set ?_ GE344.out) | exact HB.out)) hb); clear BK344; clear HB; have BK344 := n0_; have HB := n1_; clear n0_ n1_; (try clear hb); (try clear hb2); (try clear hk); (try clear hi)) | (go_at_call 22; (with_reducible refine (delivery_Payments.calls k t347 t348 t349 t350 t351 t352 t353 t354 t355 t356 t357 t358 t359 t377 t380 _ A8.out).mono ?_); rintro e w19 ⟨v378, rfl, ho0, hb⟩; have n0_ := Aside0.mk (Kd.R_below (by (with_reducible repeat (first | apply Kd.R_alloc | apply Kd.R_drewN | apply Kd.R_drew)); exact HO362.out) hb); have n1_ := Aside0.mk (Kd.R_lower ho0 (below_size (by repeat (first | (with_reducible first | exact HB.out | apply below_alloc | apply pw_below_drewN | apply below_drew1 | refine below_set ?_ GE344.out) | exact HB.out)))); have n2_ := Aside0.mk (blk_below (g := gb344) (o := .cells #[.int .i64 a0_0, .string a0_1, .string a0_2, .string a0_3, .int .i64 a0_4, .int .i64 a0_5, .int .i64 a0_6, .int .i64 a0_7, .int .i64 a0_8, .bool a0_9, .int .i64 a0_10, .string a0_11, .string a0_12] 24 (0, 0)) (by (with_reducible repeat (first | refine blk_drewN ?_ _ | refine blk_drew ?_ | refine blk_alloc ?_ _)); exact BK344.out) hb); have n3_ := Aside0.mk (below_step (by repeat (first | (with_reducible first | exact HB.out | apply below_alloc | apply pw_below_drewN | apply below_drew1 | refine below_set ?_ GE344.out) | exact HB.out)) hb); clear HO362; clear BK344; clear HB; have HO362 := n0_; have HO379 := n1_; have BK344 := n2_; have HB := n3_; clear n0_ n1_ n2_ n3_; (try clear hb); (try clear hb2); (try clear hk); (try clear hi); (try clear ho0)))
  repeat (go_quiet (first | ((with_reducible refine gate_dst (N := 1) rfl ?_); (try (refine gate_guard (by rfl) ?_; dsimp only)); refine box_event ?hg (N := 1) ?hd (cs := #[.int .i64 a0_0, .string a0_1, .string a0_2, .string a0_3, .int .i64 a0_4, .int .i64 a0_5, .int .i64 a0_6, .int .i64 a0_7, .int .i64 a0_8, .bool a0_9, .int .i64 a0_10, .string a0_11, .string a0_12]) (t := 24) ?hr ?_; (case hd => rfl); (case hg => rfl); (case hr => first | (go_simp; done) | (go_simp; rfl)); intro gb344 hg w10 hbox hb; have n0_ := Aside0.mk (below_step (by repeat (first | (with_reducible first | exact HB.out | apply below_alloc | apply pw_below_drewN | apply below_drew1) | exact HB.out)) hb); have n1_ := Aside0.mk (hbox); have n2_ := Aside0.mk ((by rw [hg]; exact (below_size (by repeat (first | (with_reducible first | exact HB.out | apply below_alloc | apply pw_below_drewN | apply below_drew1) | exact HB.out))) : w.heap.size ≤ gb344)); have n3_ := Aside0.mk ((by rw [hg]; exact (below_size (by repeat (first | (with_reducible first | exact HB.out | apply below_alloc | apply pw_below_drewN | apply below_drew1) | exact HB.out))) : w.heap.size ≤ gb344)); clear HB; have HB := n0_; have BK344 := n1_; have GW344 := n2_; have GE344 := n3_; clear n0_ n1_ n2_ n3_; clear hb hbox hg) | (go_at_call 8; (with_reducible refine (girolaw39_known.calls k  true _ A2.out).mono ?_); rintro e w11 ⟨rfl, hb⟩; have n0_ := Aside0.mk (blk_below (g := gb344) (o := .cells #[.int .i64 a0_0, .string a0_1, .string a0_2, .string a0_3, .int .i64 a0_4, .int .i64 a0_5, .int .i64 a0_6, .int .i64 a0_7, .int .i64 a0_8, .bool a0_9, .int .i64 a0_10, .string a0_11, .string a0_12] 24 (0, 0)) (by (with_reducible repeat (first | refine blk_drewN ?_ _ | refine blk_drew ?_ | refine blk_alloc ?_ _)); exact BK344.out) hb); have n1_ := Aside0.mk (below_step (by repeat (first | (with_reducible first | exact HB.out | apply below_alloc | apply pw_below_drewN | apply below_drew1 | refine below_set ?_ GE344.out) | exact HB.out)) hb); clear BK344; clear HB; have BK344 := n0_; have HB := n1_; clear n0_ n1_; (try clear hb); (try clear hb2); (try clear hk); (try clear hi); have hcz12_0 : w11.cell? ⟨gb344, 0, none⟩ = some (.int .i64 a0_0) := (blk_cell BK344.out 0).trans rfl; have hcz12_1 : w11.cell? ⟨gb344, 1, none⟩ = some (.string a0_1) := (blk_cell BK344.out 1).trans rfl; have hcz12_2 : w11.cell? ⟨gb344, 2, none⟩ = some (.string a0_2) := (blk_cell BK344.out 2).trans rfl; have hcz12_3 : w11.cell? ⟨gb344, 3, none⟩ = some (.string a0_3) := (blk_cell BK344.out 3).trans rfl; have hcz12_4 : w11.cell? ⟨gb344, 4, none⟩ = some (.int .i64 a0_4) := (blk_cell BK344.out 4).trans rfl; have hcz12_5 : w11.cell? ⟨gb344, 5, none⟩ = some (.int .i64 a0_5) := (blk_cell BK344.out 5).trans rfl; have hcz12_6 : w11.cell? ⟨gb344, 6, none⟩ = some (.int .i64 a0_6) := (blk_cell BK344.out 6).trans rfl; have hcz12_7 : w11.cell? ⟨gb344, 7, none⟩ = some (.int .i64 a0_7) := (blk_cell BK344.out 7).trans rfl; have hcz12_8 : w11.cell? ⟨gb344, 8, none⟩ = some (.int .i64 a0_8) := (blk_cell BK344.out 8).trans rfl; have hcz12_9 : w11.cell? ⟨gb344, 9, none⟩ = some (.bool a0_9) := (blk_cell BK344.out 9).trans rfl; have hcz12_10 : w11.cell? ⟨gb344, 10, none⟩ = some (.int .i64 a0_10) := (blk_cell BK344.out 10).trans rfl; have hcz12_11 : w11.cell? ⟨gb344, 11, none⟩ = some (.string a0_11) := (blk_cell BK344.out 11).trans rfl; have hcz12_12 : w11.cell? ⟨gb344, 12, none⟩ = some (.string a0_12) := (blk_cell BK344.out 12).trans rfl; have hfz12_0 := blk_frozen BK344.out 0; have hfz12_1 := blk_frozen BK344.out 1; have hfz12_2 := blk_frozen BK344.out 2; have hfz12_3 := blk_frozen BK344.out 3; have hfz12_4 := blk_frozen BK344.out 4; have hfz12_5 := blk_frozen BK344.out 5; have hfz12_6 := blk_frozen BK344.out 6; have hfz12_7 := blk_frozen BK344.out 7; have hfz12_8 := blk_frozen BK344.out 8; have hfz12_9 := blk_frozen BK344.out 9; have hfz12_10 := blk_frozen BK344.out 10; have hfz12_11 := blk_frozen BK344.out 11; have hfz12_12 := blk_frozen BK344.out 12) | (go_at_call 9; (with_reducible refine (giroref23_Check.calls k a0_0 a0_1 a0_2 a0_3 a0_4 a0_5 a0_6 a0_7 a0_8 a0_9 a0_10 a0_11 a0_12 t346 _ A4.out).mono ?_); rintro e w13 ⟨rfl, hb⟩; have n0_ := Aside0.mk (blk_below (g := gb344) (o := .cells #[.int .i64 a0_0, .string a0_1, .string a0_2, .string a0_3, .int .i64 a0_4, .int .i64 a0_5, .int .i64 a0_6, .int .i64 a0_7, .int .i64 a0_8, .bool a0_9, .int .i64 a0_10, .string a0_11, .string a0_12] 24 (0, 0)) (by (with_reducible repeat (first | refine blk_drewN ?_ _ | refine blk_drew ?_ | refine blk_alloc ?_ _)); exact BK344.out) hb); have n1_ := Aside0.mk (below_step (by repeat (first | (with_reducible first | exact HB.out | apply below_alloc | apply pw_below_drewN | apply below_drew1 | refine below_set ?_ GE344.out) | exact HB.out)) hb); clear BK344; clear HB; have BK344 := n0_; have HB := n1_; clear n0_ n1_; (try clear hb); (try clear hb2); (try clear hk); (try clear hi); have hcz14_0 : w13.cell? ⟨gb344, 0, none⟩ = some (.int .i64 a0_0) := (blk_cell BK344.out 0).trans rfl; have hcz14_1 : w13.cell? ⟨gb344, 1, none⟩ = some (.string a0_1) := (blk_cell BK344.out 1).trans rfl; have hcz14_2 : w13.cell? ⟨gb344, 2, none⟩ = some (.string a0_2) := (blk_cell BK344.out 2).trans rfl; have hcz14_3 : w13.cell? ⟨gb344, 3, none⟩ = some (.string a0_3) := (blk_cell BK344.out 3).trans rfl; have hcz14_4 : w13.cell? ⟨gb344, 4, none⟩ = some (.int .i64 a0_4) := (blk_cell BK344.out 4).trans rfl; have hcz14_5 : w13.cell? ⟨gb344, 5, none⟩ = some (.int .i64 a0_5) := (blk_cell BK344.out 5).trans rfl; have hcz14_6 : w13.cell? ⟨gb344, 6, none⟩ = some (.int .i64 a0_6) := (blk_cell BK344.out 6).trans rfl; have hcz14_7 : w13.cell? ⟨gb344, 7, none⟩ = some (.int .i64 a0_7) := (blk_cell BK344.out 7).trans rfl; have hcz14_8 : w13.cell? ⟨gb344, 8, none⟩ = some (.int .i64 a0_8) := (blk_cell BK344.out 8).trans rfl; have hcz14_9 : w13.cell? ⟨gb344, 9, none⟩ = some (.bool a0_9) := (blk_cell BK344.out 9).trans rfl; have hcz14_10 : w13.cell? ⟨gb344, 10, none⟩ = some (.int .i64 a0_10) := (blk_cell BK344.out 10).trans rfl; have hcz14_11 : w13.cell? ⟨gb344, 11, none⟩ = some (.string a0_11) := (blk_cell BK344.out 11).trans rfl; have hcz14_12 : w13.cell? ⟨gb344, 12, none⟩ = some (.string a0_12) := (blk_cell BK344.out 12).trans rfl; have hfz14_0 := blk_frozen BK344.out 0; have hfz14_1 := blk_frozen BK344.out 1; have hfz14_2 := blk_frozen BK344.out 2; have hfz14_3 := blk_frozen BK344.out 3; have hfz14_4 := blk_frozen BK344.out 4; have hfz14_5 := blk_frozen BK344.out 5; have hfz14_6 := blk_frozen BK344.out 6; have hfz14_7 := blk_frozen BK344.out 7; have hfz14_8 := blk_frozen BK344.out 8; have hfz14_9 := blk_frozen BK344.out 9; have hfz14_10 := blk_frozen BK344.out 10; have hfz14_11 := blk_frozen BK344.out 11; have hfz14_12 := blk_frozen BK344.out 12) | (go_at_call 11; (with_reducible refine (girolaw23_Of.calls a0_0 a0_1 a0_2 a0_3 a0_4 a0_5 a0_6 a0_7 a0_8 a0_9 a0_10 a0_11 a0_12 t347 t348 t349 t350 t351 t352 t353 t354 t355 t356 t357 t358 t359 _ A7.out).mono ?_); rintro e w18 ⟨rfl, hb⟩; have n0_ := Aside0.mk (Kd.R_below (by (with_reducible repeat (first | apply Kd.R_alloc | apply Kd.R_drewN | apply Kd.R_drew)); exact HO362.out) hb); have n1_ := Aside0.mk (blk_below (g := gb344) (o := .cells #[.int .i64 a0_0, .string a0_1, .string a0_2, .string a0_3, .int .i64 a0_4, .int .i64 a0_5, .int .i64 a0_6, .int .i64 a0_7, .int .i64 a0_8, .bool a0_9, .int .i64 a0_10, .string a0_11, .string a0_12] 24 (0, 0)) (by (with_reducible repeat (first | refine blk_drewN ?_ _ | refine blk_drew ?_ | refine blk_alloc ?_ _)); exact BK344.out) hb); have n2_ := Aside0.mk (below_step (by repeat (first | (with_reducible first | exact HB.out | apply below_alloc | apply pw_below_drewN | apply below_drew1 | refine below_set ?_ GE344.out) | exact HB.out)) hb); clear HO362; clear BK344; clear HB; have HO362 := n0_; have BK344 := n1_; have HB := n2_; clear n0_ n1_ n2_; (try clear hb); (try clear hb2); (try clear hk); (try clear hi)) | (go_at_call 21; (with_reducible refine (delivery_Legs.calls k t347 t348 t349 t350 t351 t352 t353 t354 t355 t356 t357 t358 t359 t360 t363 _ A6.out).mono ?_); rintro e w16 ⟨v361, rfl, ho0, hb⟩; have n0_ := Aside0.mk (Kd.R_lower ho0 (below_size (by repeat (first | (with_reducible first | exact HB.out | apply below_alloc | apply pw_below_drewN | apply below_drew1 | refine below_set ?_ GE344.out) | exact HB.out)))); have n1_ := Aside0.mk (blk_below (g := gb344) (o := .cells #[.int .i64 a0_0, .string a0_1, .string a0_2, .string a0_3, .int .i64 a0_4, .int .i64 a0_5, .int .i64 a0_6, .int .i64 a0_7, .int .i64 a0_8, .bool a0_9, .int .i64 a0_10, .string a0_11, .string a0_12] 24 (0, 0)) (by (with_reducible repeat (first | refine blk_drewN ?_ _ | refine blk_drew ?_ | refine blk_alloc ?_ _)); exact BK344.out) hb); have n2_ := Aside0.mk (below_step (by repeat (first | (with_reducible first | exact HB.out | apply below_alloc | apply pw_below_drewN | apply below_drew1 | refine below_set ?_ GE344.out) | exact HB.out)) hb); clear BK344; clear HB; have HO362 := n0_; have BK344 := n1_; have HB := n2_; clear n0_ n1_ n2_; (try clear hb); (try clear hb2); (try clear hk); (try clear hi); (try clear ho0); have hcz17_0 : w16.cell? ⟨gb344, 0, none⟩ = some (.int .i64 a0_0) := (blk_cell BK344.out 0).trans rfl; have hcz17_1 : w16.cell? ⟨gb344, 1, none⟩ = some (.string a0_1) := (blk_cell BK344.out 1).trans rfl; have hcz17_2 : w16.cell? ⟨gb344, 2, none⟩ = some (.string a0_2) := (blk_cell BK344.out 2).trans rfl; have hcz17_3 : w16.cell? ⟨gb344, 3, none⟩ = some (.string a0_3) := (blk_cell BK344.out 3).trans rfl; have hcz17_4 : w16.cell? ⟨gb344, 4, none⟩ = some (.int .i64 a0_4) := (blk_cell BK344.out 4).trans rfl; have hcz17_5 : w16.cell? ⟨gb344, 5, none⟩ = some (.int .i64 a0_5) := (blk_cell BK344.out 5).trans rfl; have hcz17_6 : w16.cell? ⟨gb344, 6, none⟩ = some (.int .i64 a0_6) := (blk_cell BK344.out 6).trans rfl; have hcz17_7 : w16.cell? ⟨gb344, 7, none⟩ = some (.int .i64 a0_7) := (blk_cell BK344.out 7).trans rfl; have hcz17_8 : w16.cell? ⟨gb344, 8, none⟩ = some (.int .i64 a0_8) := (blk_cell BK344.out 8).trans rfl; have hcz17_9 : w16.cell? ⟨gb344, 9, none⟩ = some (.bool a0_9) := (blk_cell BK344.out 9).trans rfl; have hcz17_10 : w16.cell? ⟨gb344, 10, none⟩ = some (.int .i64 a0_10) := (blk_cell BK344.out 10).trans rfl; have hcz17_11 : w16.cell? ⟨gb344, 11, none⟩ = some (.string a0_11) := (blk_cell BK344.out 11).trans rfl; have hcz17_12 : w16.cell? ⟨gb344, 12, none⟩ = some (.string a0_12) := (blk_cell BK344.out 12).trans rfl; have hfz17_0 := blk_frozen BK344.out 0; have hfz17_1 := blk_frozen BK344.out 1; have hfz17_2 := blk_frozen BK344.out 2; have hfz17_3 := blk_frozen BK344.out 3; have hfz17_4 := blk_frozen BK344.out 4; have hfz17_5 := blk_frozen BK344.out 5; have hfz17_6 := blk_frozen BK344.out 6; have hfz17_7 := blk_frozen BK344.out 7; have hfz17_8 := blk_frozen BK344.out 8; have hfz17_9 := blk_frozen BK344.out 9; have hfz17_10 := blk_frozen BK344.out 10; have hfz17_11 := blk_frozen BK344.out 11; have hfz17_12 := blk_frozen BK344.out 12) | (go_at_call 11; (with_reducible refine (girolaw23_Of.calls a0_0 a0_1 a0_2 a0_3 a0_4 a0_5 a0_6 a0_7 a0_8 a0_9 a0_10 a0_11 a0_12 t347 t348 t349 t350 t351 t352 t353 t354 t355 t356 t357 t358 t359 _ A5.out).mono ?_); rintro e w15 ⟨rfl, hb⟩; have n0_ := Aside0.mk (blk_below (g := gb344) (o := .cells #[.int .i64 a0_0, .string a0_1, .string a0_2, .string a0_3, .int .i64 a0_4, .int .i64 a0_5, .int .i64 a0_6, .int .i64 a0_7, .int .i64 a0_8, .bool a0_9, .int .i64 a0_10, .string a0_11, .string a0_12] 24 (0, 0)) (by (with_reducible repeat (first | refine blk_drewN ?_ _ | refine blk_drew ?_ | refine blk_alloc ?_ _)); exact BK344.out) hb); have n1_ := Aside0.mk (below_step (by repeat (first | (with_reducible first | exact HB.out | apply below_alloc | apply pw_below_drewN | apply below_drew1 | refine below_set ?_ GE344.out) | exact HB.out)) hb); clear BK344; clear HB; have BK344 := n0_; have HB := n1_; clear n0_ n1_; (try clear hb); (try clear hb2); (try clear hk); (try clear hi)) | (go_at_call 22; (with_reducible refine (delivery_Payments.calls k t347 t348 t349 t350 t351 t352 t353 t354 t355 t356 t357 t358 t359 t377 t380 _ A8.out).mono ?_); rintro e w19 ⟨v378, rfl, ho0, hb⟩; have n0_ := Aside0.mk (Kd.R_below (by (with_reducible repeat (first | apply Kd.R_alloc | apply Kd.R_drewN | apply Kd.R_drew)); exact HO362.out) hb); have n1_ := Aside0.mk (Kd.R_lower ho0 (below_size (by repeat (first | (with_reducible first | exact HB.out | apply below_alloc | apply pw_below_drewN | apply below_drew1 | refine below_set ?_ GE344.out) | exact HB.out)))); have n2_ := Aside0.mk (blk_below (g := gb344) (o := .cells #[.int .i64 a0_0, .string a0_1, .string a0_2, .string a0_3, .int .i64 a0_4, .int .i64 a0_5, .int .i64 a0_6, .int .i64 a0_7, .int .i64 a0_8, .bool a0_9, .int .i64 a0_10, .string a0_11, .string a0_12] 24 (0, 0)) (by (with_reducible repeat (first | refine blk_drewN ?_ _ | refine blk_drew ?_ | refine blk_alloc ?_ _)); exact BK344.out) hb); have n3_ := Aside0.mk (below_step (by repeat (first | (with_reducible first | exact HB.out | apply below_alloc | apply pw_below_drewN | apply below_drew1 | refine below_set ?_ GE344.out) | exact HB.out)) hb); clear HO362; clear BK344; clear HB; have HO362 := n0_; have HO379 := n1_; have BK344 := n2_; have HB := n3_; clear n0_ n1_ n2_ n3_; (try clear hb); (try clear hb2); (try clear hk); (try clear hi); (try clear ho0))); go_upto_region 6 with (first | ((with_reducible refine gate_dst (N := 1) rfl ?_); (try (refine gate_guard (by rfl) ?_; dsimp only)); refine box_event ?hg (N := 1) ?hd (cs := #[.int .i64 a0_0, .string a0_1, .string a0_2, .string a0_3, .int .i64 a0_4, .int .i64 a0_5, .int .i64 a0_6, .int .i64 a0_7, .int .i64 a0_8, .bool a0_9, .int .i64 a0_10, .string a0_11, .string a0_12]) (t := 24) ?hr ?_; (case hd => rfl); (case hg => rfl); (case hr => first | (go_simp; done) | (go_simp; rfl)); intro gb344 hg w10 hbox hb; have n0_ := Aside0.mk (below_step (by repeat (first | (with_reducible first | exact HB.out | apply below_alloc | apply pw_below_drewN | apply below_drew1) | exact HB.out)) hb); have n1_ := Aside0.mk (hbox); have n2_ := Aside0.mk ((by rw [hg]; exact (below_size (by repeat (first | (with_reducible first | exact HB.out | apply below_alloc | apply pw_below_drewN | apply below_drew1) | exact HB.out))) : w.heap.size ≤ gb344)); have n3_ := Aside0.mk ((by rw [hg]; exact (below_size (by repeat (first | (with_reducible first | exact HB.out | apply below_alloc | apply pw_below_drewN | apply below_drew1) | exact HB.out))) : w.heap.size ≤ gb344)); clear HB; have HB := n0_; have BK344 := n1_; have GW344 := n2_; have GE344 := n3_; clear n0_ n1_ n2_ n3_; clear hb hbox hg) | (go_at_call 8; (with_reducible refine (girolaw39_known.calls k  true _ A2.out).mono ?_); rintro e w11 ⟨rfl, hb⟩; have n0_ := Aside0.mk (blk_below (g := gb344) (o := .cells #[.int .i64 a0_0, .string a0_1, .string a0_2, .string a0_3, .int .i64 a0_4, .int .i64 a0_5, .int .i64 a0_6, .int .i64 a0_7, .int .i64 a0_8, .bool a0_9, .int .i64 a0_10, .string a0_11, .string a0_12] 24 (0, 0)) (by (with_reducible repeat (first | refine blk_drewN ?_ _ | refine blk_drew ?_ | refine blk_alloc ?_ _)); exact BK344.out) hb); have n1_ := Aside0.mk (below_step (by repeat (first | (with_reducible first | exact HB.out | apply below_alloc | apply pw_below_drewN | apply below_drew1 | refine below_set ?_ GE344.out) | exact HB.out)) hb); clear BK344; clear HB; have BK344 := n0_; have HB := n1_; clear n0_ n1_; (try clear hb); (try clear hb2); (try clear hk); (try clear hi); have hcz12_0 : w11.cell? ⟨gb344, 0, none⟩ = some (.int .i64 a0_0) := (blk_cell BK344.out 0).trans rfl; have hcz12_1 : w11.cell? ⟨gb344, 1, none⟩ = some (.string a0_1) := (blk_cell BK344.out 1).trans rfl; have hcz12_2 : w11.cell? ⟨gb344, 2, none⟩ = some (.string a0_2) := (blk_cell BK344.out 2).trans rfl; have hcz12_3 : w11.cell? ⟨gb344, 3, none⟩ = some (.string a0_3) := (blk_cell BK344.out 3).trans rfl; have hcz12_4 : w11.cell? ⟨gb344, 4, none⟩ = some (.int .i64 a0_4) := (blk_cell BK344.out 4).trans rfl; have hcz12_5 : w11.cell? ⟨gb344, 5, none⟩ = some (.int .i64 a0_5) := (blk_cell BK344.out 5).trans rfl; have hcz12_6 : w11.cell? ⟨gb344, 6, none⟩ = some (.int .i64 a0_6) := (blk_cell BK344.out 6).trans rfl; have hcz12_7 : w11.cell? ⟨gb344, 7, none⟩ = some (.int .i64 a0_7) := (blk_cell BK344.out 7).trans rfl; have hcz12_8 : w11.cell? ⟨gb344, 8, none⟩ = some (.int .i64 a0_8) := (blk_cell BK344.out 8).trans rfl; have hcz12_9 : w11.cell? ⟨gb344, 9, none⟩ = some (.bool a0_9) := (blk_cell BK344.out 9).trans rfl; have hcz12_10 : w11.cell? ⟨gb344, 10, none⟩ = some (.int .i64 a0_10) := (blk_cell BK344.out 10).trans rfl; have hcz12_11 : w11.cell? ⟨gb344, 11, none⟩ = some (.string a0_11) := (blk_cell BK344.out 11).trans rfl; have hcz12_12 : w11.cell? ⟨gb344, 12, none⟩ = some (.string a0_12) := (blk_cell BK344.out 12).trans rfl; have hfz12_0 := blk_frozen BK344.out 0; have hfz12_1 := blk_frozen BK344.out 1; have hfz12_2 := blk_frozen BK344.out 2; have hfz12_3 := blk_frozen BK344.out 3; have hfz12_4 := blk_frozen BK344.out 4; have hfz12_5 := blk_frozen BK344.out 5; have hfz12_6 := blk_frozen BK344.out 6; have hfz12_7 := blk_frozen BK344.out 7; have hfz12_8 := blk_frozen BK344.out 8; have hfz12_9 := blk_frozen BK344.out 9; have hfz12_10 := blk_frozen BK344.out 10; have hfz12_11 := blk_frozen BK344.out 11; have hfz12_12 := blk_frozen BK344.out 12) | (go_at_call 9; (with_reducible refine (giroref23_Check.calls k a0_0 a0_1 a0_2 a0_3 a0_4 a0_5 a0_6 a0_7 a0_8 a0_9 a0_10 a0_11 a0_12 t346 _ A4.out).mono ?_); rintro e w13 ⟨rfl, hb⟩; have n0_ := Aside0.mk (blk_below (g := gb344) (o := .cells #[.int .i64 a0_0, .string a0_1, .string a0_2, .string a0_3, .int .i64 a0_4, .int .i64 a0_5, .int .i64 a0_6, .int .i64 a0_7, .int .i64 a0_8, .bool a0_9, .int .i64 a0_10, .string a0_11, .string a0_12] 24 (0, 0)) (by (with_reducible repeat (first | refine blk_drewN ?_ _ | refine blk_drew ?_ | refine blk_alloc ?_ _)); exact BK344.out) hb); have n1_ := Aside0.mk (below_step (by repeat (first | (with_reducible first | exact HB.out | apply below_alloc | apply pw_below_drewN | apply below_drew1 | refine below_set ?_ GE344.out) | exact HB.out)) hb); clear BK344; clear HB; have BK344 := n0_; have HB := n1_; clear n0_ n1_; (try clear hb); (try clear hb2); (try clear hk); (try clear hi); have hcz14_0 : w13.cell? ⟨gb344, 0, none⟩ = some (.int .i64 a0_0) := (blk_cell BK344.out 0).trans rfl; have hcz14_1 : w13.cell? ⟨gb344, 1, none⟩ = some (.string a0_1) := (blk_cell BK344.out 1).trans rfl; have hcz14_2 : w13.cell? ⟨gb344, 2, none⟩ = some (.string a0_2) := (blk_cell BK344.out 2).trans rfl; have hcz14_3 : w13.cell? ⟨gb344, 3, none⟩ = some (.string a0_3) := (blk_cell BK344.out 3).trans rfl; have hcz14_4 : w13.cell? ⟨gb344, 4, none⟩ = some (.int .i64 a0_4) := (blk_cell BK344.out 4).trans rfl; have hcz14_5 : w13.cell? ⟨gb344, 5, none⟩ = some (.int .i64 a0_5) := (blk_cell BK344.out 5).trans rfl; have hcz14_6 : w13.cell? ⟨gb344, 6, none⟩ = some (.int .i64 a0_6) := (blk_cell BK344.out 6).trans rfl; have hcz14_7 : w13.cell? ⟨gb344, 7, none⟩ = some (.int .i64 a0_7) := (blk_cell BK344.out 7).trans rfl; have hcz14_8 : w13.cell? ⟨gb344, 8, none⟩ = some (.int .i64 a0_8) := (blk_cell BK344.out 8).trans rfl; have hcz14_9 : w13.cell? ⟨gb344, 9, none⟩ = some (.bool a0_9) := (blk_cell BK344.out 9).trans rfl; have hcz14_10 : w13.cell? ⟨gb344, 10, none⟩ = some (.int .i64 a0_10) := (blk_cell BK344.out 10).trans rfl; have hcz14_11 : w13.cell? ⟨gb344, 11, none⟩ = some (.string a0_11) := (blk_cell BK344.out 11).trans rfl; have hcz14_12 : w13.cell? ⟨gb344, 12, none⟩ = some (.string a0_12) := (blk_cell BK344.out 12).trans rfl; have hfz14_0 := blk_frozen BK344.out 0; have hfz14_1 := blk_frozen BK344.out 1; have hfz14_2 := blk_frozen BK344.out 2; have hfz14_3 := blk_frozen BK344.out 3; have hfz14_4 := blk_frozen BK344.out 4; have hfz14_5 := blk_frozen BK344.out 5; have hfz14_6 := blk_frozen BK344.out 6; have hfz14_7 := blk_frozen BK344.out 7; have hfz14_8 := blk_frozen BK344.out 8; have hfz14_9 := blk_frozen BK344.out 9; have hfz14_10 := blk_frozen BK344.out 10; have hfz14_11 := blk_frozen BK344.out 11; have hfz14_12 := blk_frozen BK344.out 12) | (go_at_call 11; (with_reducible refine (girolaw23_Of.calls a0_0 a0_1 a0_2 a0_3 a0_4 a0_5 a0_6 a0_7 a0_8 a0_9 a0_10 a0_11 a0_12 t347 t348 t349 t350 t351 t352 t353 t354 t355 t356 t357 t358 t359 _ A7.out).mono ?_); rintro e w18 ⟨rfl, hb⟩; have n0_ := Aside0.mk (Kd.R_below (by (with_reducible repeat (first | apply Kd.R_alloc | apply Kd.R_drewN | apply Kd.R_drew)); exact HO362.out) hb); have n1_ := Aside0.mk (blk_below (g := gb344) (o := .cells #[.int .i64 a0_0, .string a0_1, .string a0_2, .string a0_3, .int .i64 a0_4, .int .i64 a0_5, .int .i64 a0_6, .int .i64 a0_7, .int .i64 a0_8, .bool a0_9, .int .i64 a0_10, .string a0_11, .string a0_12] 24 (0, 0)) (by (with_reducible repeat (first | refine blk_drewN ?_ _ | refine blk_drew ?_ | refine blk_alloc ?_ _)); exact BK344.out) hb); have n2_ := Aside0.mk (below_step (by repeat (first | (with_reducible first | exact HB.out | apply below_alloc | apply pw_below_drewN | apply below_drew1 | refine below_set ?_ GE344.out) | exact HB.out)) hb); clear HO362; clear BK344; clear HB; have HO362 := n0_; have BK344 := n1_; have HB := n2_; clear n0_ n1_ n2_; (try clear hb); (try clear hb2); (try clear hk); (try clear hi)) | (go_at_call 21; (with_reducible refine (delivery_Legs.calls k t347 t348 t349 t350 t351 t352 t353 t354 t355 t356 t357 t358 t359 t360 t363 _ A6.out).mono ?_); rintro e w16 ⟨v361, rfl, ho0, hb⟩; have n0_ := Aside0.mk (Kd.R_lower ho0 (below_size (by repeat (first | (with_reducible first | exact HB.out | apply below_alloc | apply pw_below_drewN | apply below_drew1 | refine below_set ?_ GE344.out) | exact HB.out)))); have n1_ := Aside0.mk (blk_below (g := gb344) (o := .cells #[.int .i64 a0_0, .string a0_1, .string a0_2, .string a0_3, .int .i64 a0_4, .int .i64 a0_5, .int .i64 a0_6, .int .i64 a0_7, .int .i64 a0_8, .bool a0_9, .int .i64 a0_10, .string a0_11, .string a0_12] 24 (0, 0)) (by (with_reducible repeat (first | refine blk_drewN ?_ _ | refine blk_drew ?_ | refine blk_alloc ?_ _)); exact BK344.out) hb); have n2_ := Aside0.mk (below_step (by repeat (first | (with_reducible first | exact HB.out | apply below_alloc | apply pw_below_drewN | apply below_drew1 | refine below_set ?_ GE344.out) | exact HB.out)) hb); clear BK344; clear HB; have HO362 := n0_; have BK344 := n1_; have HB := n2_; clear n0_ n1_ n2_; (try clear hb); (try clear hb2); (try clear hk); (try clear hi); (try clear ho0); have hcz17_0 : w16.cell? ⟨gb344, 0, none⟩ = some (.int .i64 a0_0) := (blk_cell BK344.out 0).trans rfl; have hcz17_1 : w16.cell? ⟨gb344, 1, none⟩ = some (.string a0_1) := (blk_cell BK344.out 1).trans rfl; have hcz17_2 : w16.cell? ⟨gb344, 2, none⟩ = some (.string a0_2) := (blk_cell BK344.out 2).trans rfl; have hcz17_3 : w16.cell? ⟨gb344, 3, none⟩ = some (.string a0_3) := (blk_cell BK344.out 3).trans rfl; have hcz17_4 : w16.cell? ⟨gb344, 4, none⟩ = some (.int .i64 a0_4) := (blk_cell BK344.out 4).trans rfl; have hcz17_5 : w16.cell? ⟨gb344, 5, none⟩ = some (.int .i64 a0_5) := (blk_cell BK344.out 5).trans rfl; have hcz17_6 : w16.cell? ⟨gb344, 6, none⟩ = some (.int .i64 a0_6) := (blk_cell BK344.out 6).trans rfl; have hcz17_7 : w16.cell? ⟨gb344, 7, none⟩ = some (.int .i64 a0_7) := (blk_cell BK344.out 7).trans rfl; have hcz17_8 : w16.cell? ⟨gb344, 8, none⟩ = some (.int .i64 a0_8) := (blk_cell BK344.out 8).trans rfl; have hcz17_9 : w16.cell? ⟨gb344, 9, none⟩ = some (.bool a0_9) := (blk_cell BK344.out 9).trans rfl; have hcz17_10 : w16.cell? ⟨gb344, 10, none⟩ = some (.int .i64 a0_10) := (blk_cell BK344.out 10).trans rfl; have hcz17_11 : w16.cell? ⟨gb344, 11, none⟩ = some (.string a0_11) := (blk_cell BK344.out 11).trans rfl; have hcz17_12 : w16.cell? ⟨gb344, 12, none⟩ = some (.string a0_12) := (blk_cell BK344.out 12).trans rfl; have hfz17_0 := blk_frozen BK344.out 0; have hfz17_1 := blk_frozen BK344.out 1; have hfz17_2 := blk_frozen BK344.out 2; have hfz17_3 := blk_frozen BK344.out 3; have hfz17_4 := blk_frozen BK344.out 4; have hfz17_5 := blk_frozen BK344.out 5; have hfz17_6 := blk_frozen BK344.out 6; have hfz17_7 := blk_frozen BK344.out 7; have hfz17_8 := blk_frozen BK344.out 8; have hfz17_9 := blk_frozen BK344.out 9; have hfz17_10 := blk_frozen BK344.out 10; have hfz17_11 := blk_frozen BK344.out 11; have hfz17_12 := blk_frozen BK344.out 12) | (go_at_call 11; (with_reducible refine (girolaw23_Of.calls a0_0 a0_1 a0_2 a0_3 a0_4 a0_5 a0_6 a0_7 a0_8 a0_9 a0_10 a0_11 a0_12 t347 t348 t349 t350 t351 t352 t353 t354 t355 t356 t357 t358 t359 _ A5.out).mono ?_); rintro e w15 ⟨rfl, hb⟩; have n0_ := Aside0.mk (blk_below (g := gb344) (o := .cells #[.int .i64 a0_0, .string a0_1, .string a0_2, .string a0_3, .int .i64 a0_4, .int .i64 a0_5, .int .i64 a0_6, .int .i64 a0_7, .int .i64 a0_8, .bool a0_9, .int .i64 a0_10, .string a0_11, .string a0_12] 24 (0, 0)) (by (with_reducible repeat (first | refine blk_drewN ?_ _ | refine blk_drew ?_ | refine blk_alloc ?_ _)); exact BK344.out) hb); have n1_ := Aside0.mk (below_step (by repeat (first | (with_reducible first | exact HB.out | apply below_alloc | apply pw_below_drewN | apply below_drew1 | refine below_set ?_ GE344.out) | exact HB.out)) hb); clear BK344; clear HB; have BK344 := n0_; have HB := n1_; clear n0_ n1_; (try clear hb); (try clear hb2); (try clear hk); (try clear hi)) | (go_at_call 22; (with_reducible refine (delivery_Payments.calls k t347 t348 t349 t350 t351 t352 t353 t354 t355 t356 t357 t358 t359 t377 t380 _ A8.out).mono ?_); rintro e w19 ⟨v378, rfl, ho0, hb⟩; have n0_ := Aside0.mk (Kd.R_below (by (with_reducible repeat (first | apply Kd.R_alloc | apply Kd.R_drewN | apply Kd.R_drew)); exact HO362.out) hb); have n1_ := Aside0.mk (Kd.R_lower ho0 (below_size (by repeat (first | (with_reducible first | exact HB.out | apply below_alloc | apply pw_below_drewN | apply below_drew1 | refine below_set ?_ GE344.out) | exact HB.out)))); have n2_ := Aside0.mk (blk_below (g := gb344) (o := .cells #[.int .i64 a0_0, .string a0_1, .string a0_2, .string a0_3, .int .i64 a0_4, .int .i64 a0_5, .int .i64 a0_6, .int .i64 a0_7, .int .i64 a0_8, .bool a0_9, .int .i64 a0_10, .string a0_11, .string a0_12] 24 (0, 0)) (by (with_reducible repeat (first | refine blk_drewN ?_ _ | refine blk_drew ?_ | refine blk_alloc ?_ _)); exact BK344.out) hb); have n3_ := Aside0.mk (below_step (by repeat (first | (with_reducible first | exact HB.out | apply below_alloc | apply pw_below_drewN | apply below_drew1 | refine below_set ?_ GE344.out) | exact HB.out)) hb); clear HO362; clear BK344; clear HB; have HO362 := n0_; have HO379 := n1_; have BK344 := n2_; have HB := n3_; clear n0_ n1_ n2_ n3_; (try clear hb); (try clear hb2); (try clear hk); (try clear hi); (try clear ho0))))
  (try simp only [Act.put, List.setIfInBounds_toArray, List.set_cons_zero, List.set_cons_succ])
  go_cut [31] (fun v31 wc => ∃ (kq : Nat) (x31_8 : Bool), v31 = .bool x31_8 ∧ Aside0 (girolaw39_DeliveryLegs.j0 kq t346 t360 t377 x31_8 a0_0 a0_1 a0_2 a0_3 a0_4 a0_5 a0_6 a0_7 a0_8 a0_9 a0_10 a0_11 a0_12 = some r) ∧ Aside0 (kq ≤ k) ∧ Aside0 (Kd.R k71 71 wc w.heap.size (fun _ => True) v361 t360) ∧ Aside0 (Kd.R k56 56 wc w.heap.size (fun _ => True) v378 t377) ∧ Aside0 (wc.heap[gb344]? = some (.cells #[.int .i64 a0_0, .string a0_1, .string a0_2, .string a0_3, .int .i64 a0_4, .int .i64 a0_5, .int .i64 a0_6, .int .i64 a0_7, .int .i64 a0_8, .bool a0_9, .int .i64 a0_10, .string a0_11, .string a0_12] 24 (0, 0))) ∧ Aside0 (Below w.heap.size w wc))
  case first =>
   have H := HC9.out
   clear HC9
   by_cases c20 : t363 = t346
   ·rw [if_pos c20] at H
    have c20b0 : (t363 == t346) = true := beq_iff_eq.mpr c20
    have c20b1 : (t363 != t346) = false := bne_eq_false_iff_eq.mpr c20
    clear c20
    (first | rw [c20b0] | (simp only [i64_w, i32_w]; rw [c20b0]) | skip)
    have H' := Aside0.mk H
    clear H
    go_wp2
    repeat (go_quiet (fail); try go_wp2)
    go_meet
    case rel => exact ⟨_, ((t380 != t346)), (by first | rfl | (simp; done) | (simp [*]; done)), H', ⟨by first | omega | exact Nat.le_refl _⟩, ⟨by (with_reducible repeat (first | apply Kd.R_alloc | apply Kd.R_drewN | apply Kd.R_drew)); exact HO362.out⟩, ⟨by (with_reducible repeat (first | apply Kd.R_alloc | apply Kd.R_drewN | apply Kd.R_drew)); exact HO379.out⟩, ⟨by (with_reducible repeat (first | refine blk_drewN ?_ _ | refine blk_drew ?_ | refine blk_alloc ?_ _)); exact BK344.out⟩, ⟨by repeat (first | (with_reducible first | exact HB.out | apply below_alloc | apply pw_below_drewN | apply below_drew1 | refine below_set ?_ GE344.out) | exact HB.out)⟩⟩
   ·rw [if_neg c20] at H
    have c20b0 : (t363 == t346) = false := beq_eq_false_iff_ne.mpr c20
    have c20b1 : (t363 != t346) = true := bne_iff_ne.mpr c20
    (first | rw [c20b0] | (simp only [i64_w, i32_w]; rw [c20b0]) | skip)
    have H' := Aside0.mk H
    clear H
    go_wp2
    repeat (go_quiet (fail); try go_wp2)
    go_meet
    case rel => exact ⟨_, (true), (by first | rfl | (simp; done) | (simp [*]; done)), H', ⟨by first | omega | exact Nat.le_refl _⟩, ⟨by (with_reducible repeat (first | apply Kd.R_alloc | apply Kd.R_drewN | apply Kd.R_drew)); exact HO362.out⟩, ⟨by (with_reducible repeat (first | apply Kd.R_alloc | apply Kd.R_drewN | apply Kd.R_drew)); exact HO379.out⟩, ⟨by (with_reducible repeat (first | refine blk_drewN ?_ _ | refine blk_drew ?_ | refine blk_alloc ?_ _)); exact BK344.out⟩, ⟨by repeat (first | (with_reducible first | exact HB.out | apply below_alloc | apply pw_below_drewN | apply below_drew1 | refine below_set ?_ GE344.out) | exact HB.out)⟩⟩
  case rest =>
   clear HC9
   try clear c2
   try clear p2
   try clear c3
   try clear c6
   try clear c20
   try clear c20b0
   try clear c20b1
   try clear hcz12_0 hcz12_1 hcz12_10 hcz12_11 hcz12_12 hcz12_2 hcz12_3 hcz12_4 hcz12_5 hcz12_6 hcz12_7 hcz12_8 hcz12_9
   try clear hcz14_0 hcz14_1 hcz14_10 hcz14_11 hcz14_12 hcz14_2 hcz14_3 hcz14_4 hcz14_5 hcz14_6 hcz14_7 hcz14_8 hcz14_9
   try clear hcz17_0 hcz17_1 hcz17_10 hcz17_11 hcz17_12 hcz17_2 hcz17_3 hcz17_4 hcz17_5 hcz17_6 hcz17_7 hcz17_8 hcz17_9
   try clear hfz12_0 hfz12_1 hfz12_10 hfz12_11 hfz12_12 hfz12_2 hfz12_3 hfz12_4 hfz12_5 hfz12_6 hfz12_7 hfz12_8 hfz12_9
   try clear hfz14_0 hfz14_1 hfz14_10 hfz14_11 hfz14_12 hfz14_2 hfz14_3 hfz14_4 hfz14_5 hfz14_6 hfz14_7 hfz14_8 hfz14_9
   try clear hfz17_0 hfz17_1 hfz17_10 hfz17_11 hfz17_12 hfz17_2 hfz17_3 hfz17_4 hfz17_5 hfz17_6 hfz17_7 hfz17_8 hfz17_9
   obtain ⟨kq, x31_8, rfl, HA, HJ8, HO_4, HO_6, BK344, HB⟩ := hcut
   cases kq with
   | zero => exact absurd HA.out (by simp [girolaw39_DeliveryLegs.j0])
   | succ kj8 =>
    have H := HA.out
    clear HA
    simp only [girolaw39_DeliveryLegs.j0] at H
    by_cases c21 : x31_8 = true
    ·subst c21
     have H1 : (some false) = some r := by rw [if_pos rfl] at H; exact H
     clear H
     have H := H1
     clear H1
     obtain rfl := Option.some.inj H
     go_wp2
     repeat (go_quiet (fail); try go_wp2)
     go_ret
     exact ⟨by first | rfl | (simp [errW_none, errW_some] <;> rfl) | (simp [*, errW_none, errW_some] <;> rfl), by repeat (first | (with_reducible first | exact HB.out | apply below_alloc | apply pw_below_drewN | apply below_drew1 | refine below_set ?_ GE344.out) | exact HB.out)⟩
    ·replace c21 := Bool.eq_false_iff.mpr c21
     subst c21
     have H1 : (if t346 = 0 then ((giroref39_Legs.f a0_0 a0_1 a0_2 a0_3 a0_4 a0_5 a0_6 a0_7 a0_8 a0_9 a0_10 a0_11 a0_12).bind fun t381 => ((girolaw39_legs.f kj8 t360 t381).bind fun t384 => (if t384 = true then (if a0_0 = 2 then (some ((t377.length : Int) == 0)) else (if (t377.length : Int) = 1 then (if 0 < (t377.length : Int) then (some ((((rd_T56 t377 0).f0).toList) == a0_2.toList && ((((rd_T56 t377 0).f1).toList) == a0_1.toList && (((rd_T56 t377 0).f2) == a0_5)))) else (none)) else (some false))) else (some false)))) else (if (t360.length : Int) = 0 then (some ((t377.length : Int) == 0)) else (some false))) = some r := by rw [if_neg (show ¬ (false = true) by decide)] at H; exact H
     clear H
     have H := H1
     clear H1
     by_cases c22 : t346 = 0
     ·rw [if_pos c22] at H
      have c22b0 : (t346 == 0) = true := beq_iff_eq.mpr c22
      have c22b1 : (t346 != 0) = false := bne_eq_false_iff_eq.mpr c22
      clear c22
      replace H := Option.bind_eq_some_iff.mp H
      obtain ⟨t381, A230, H⟩ := H
      replace H : ((girolaw39_legs.f kj8 t360 t381).bind fun t384 => (if t384 = true then (if a0_0 = 2 then (some ((t377.length : Int) == 0)) else (if (t377.length : Int) = 1 then (if 0 < (t377.length : Int) then (some ((((rd_T56 t377 0).f0).toList) == a0_2.toList && ((((rd_T56 t377 0).f1).toList) == a0_1.toList && (((rd_T56 t377 0).f2) == a0_5)))) else (none)) else (some false))) else (some false))) = some r := H
      have A23 := Aside0.mk A230
      clear A230
      replace H := Option.bind_eq_some_iff.mp H
      obtain ⟨t384, A240, H⟩ := H
      replace H : (if t384 = true then (if a0_0 = 2 then (some ((t377.length : Int) == 0)) else (if (t377.length : Int) = 1 then (if 0 < (t377.length : Int) then (some ((((rd_T56 t377 0).f0).toList) == a0_2.toList && ((((rd_T56 t377 0).f1).toList) == a0_1.toList && (((rd_T56 t377 0).f2) == a0_5)))) else (none)) else (some false))) else (some false)) = some r := H
      have A24 := Aside0.mk A240
      clear A240
      by_cases c25 : t384 = true
      ·subst c25
       have H1 : (if a0_0 = 2 then (some ((t377.length : Int) == 0)) else (if (t377.length : Int) = 1 then (if 0 < (t377.length : Int) then (some ((((rd_T56 t377 0).f0).toList) == a0_2.toList && ((((rd_T56 t377 0).f1).toList) == a0_1.toList && (((rd_T56 t377 0).f2) == a0_5)))) else (none)) else (some false))) = some r := by rw [if_pos rfl] at H; exact H
       clear H
       have H := H1
       clear H1
       by_cases c26 : a0_0 = 2
       ·rw [if_pos c26] at H
        have c26b0 : (a0_0 == 2) = true := beq_iff_eq.mpr c26
        have c26b1 : (a0_0 != 2) = false := bne_eq_false_iff_eq.mpr c26
        clear c26
        obtain rfl := Option.some.inj H
        have hcz27_0 : wc.cell? ⟨gb344, 0, none⟩ = some (.int .i64 a0_0) := (blk_cell BK344.out 0).trans rfl
        have hcz27_1 : wc.cell? ⟨gb344, 1, none⟩ = some (.string a0_1) := (blk_cell BK344.out 1).trans rfl
        have hcz27_2 : wc.cell? ⟨gb344, 2, none⟩ = some (.string a0_2) := (blk_cell BK344.out 2).trans rfl
        have hcz27_3 : wc.cell? ⟨gb344, 3, none⟩ = some (.string a0_3) := (blk_cell BK344.out 3).trans rfl
        have hcz27_4 : wc.cell? ⟨gb344, 4, none⟩ = some (.int .i64 a0_4) := (blk_cell BK344.out 4).trans rfl
        have hcz27_5 : wc.cell? ⟨gb344, 5, none⟩ = some (.int .i64 a0_5) := (blk_cell BK344.out 5).trans rfl
        have hcz27_6 : wc.cell? ⟨gb344, 6, none⟩ = some (.int .i64 a0_6) := (blk_cell BK344.out 6).trans rfl
        have hcz27_7 : wc.cell? ⟨gb344, 7, none⟩ = some (.int .i64 a0_7) := (blk_cell BK344.out 7).trans rfl
        have hcz27_8 : wc.cell? ⟨gb344, 8, none⟩ = some (.int .i64 a0_8) := (blk_cell BK344.out 8).trans rfl
        have hcz27_9 : wc.cell? ⟨gb344, 9, none⟩ = some (.bool a0_9) := (blk_cell BK344.out 9).trans rfl
        have hcz27_10 : wc.cell? ⟨gb344, 10, none⟩ = some (.int .i64 a0_10) := (blk_cell BK344.out 10).trans rfl
        have hcz27_11 : wc.cell? ⟨gb344, 11, none⟩ = some (.string a0_11) := (blk_cell BK344.out 11).trans rfl
        have hcz27_12 : wc.cell? ⟨gb344, 12, none⟩ = some (.string a0_12) := (blk_cell BK344.out 12).trans rfl
        have hfz27_0 := blk_frozen BK344.out 0
        have hfz27_1 := blk_frozen BK344.out 1
        have hfz27_2 := blk_frozen BK344.out 2
        have hfz27_3 := blk_frozen BK344.out 3
        have hfz27_4 := blk_frozen BK344.out 4
        have hfz27_5 := blk_frozen BK344.out 5
        have hfz27_6 := blk_frozen BK344.out 6
        have hfz27_7 := blk_frozen BK344.out 7
        have hfz27_8 := blk_frozen BK344.out 8
        have hfz27_9 := blk_frozen BK344.out 9
        have hfz27_10 := blk_frozen BK344.out 10
        have hfz27_11 := blk_frozen BK344.out 11
        have hfz27_12 := blk_frozen BK344.out 12
        go_wp2_with (first | (go_at_call 20; (with_reducible refine (giroref39_Legs.calls a0_0 a0_1 a0_2 a0_3 a0_4 a0_5 a0_6 a0_7 a0_8 a0_9 a0_10 a0_11 a0_12 t381 _ A23.out).mono ?_); rintro e w28 ⟨v382, rfl, ho0, hb⟩; have n0_ := Aside0.mk (Kd.R_below (by (with_reducible repeat (first | apply Kd.R_alloc | apply Kd.R_drewN | apply Kd.R_drew)); exact HO_4.out) hb); have n1_ := Aside0.mk (Kd.R_below (by (with_reducible repeat (first | apply Kd.R_alloc | apply Kd.R_drewN | apply Kd.R_drew)); exact HO_6.out) hb); have n2_ := Aside0.mk (Kd.R_lower ho0 (below_size (by repeat (first | (with_reducible first | exact HB.out | apply below_alloc | apply pw_below_drewN | apply below_drew1 | refine below_set ?_ GE344.out) | exact HB.out)))); have n3_ := Aside0.mk (blk_below (g := gb344) (o := .cells #[.int .i64 a0_0, .string a0_1, .string a0_2, .string a0_3, .int .i64 a0_4, .int .i64 a0_5, .int .i64 a0_6, .int .i64 a0_7, .int .i64 a0_8, .bool a0_9, .int .i64 a0_10, .string a0_11, .string a0_12] 24 (0, 0)) (by (with_reducible repeat (first | refine blk_drewN ?_ _ | refine blk_drew ?_ | refine blk_alloc ?_ _)); exact BK344.out) hb); have n4_ := Aside0.mk (below_step (by repeat (first | (with_reducible first | exact HB.out | apply below_alloc | apply pw_below_drewN | apply below_drew1 | refine below_set ?_ GE344.out) | exact HB.out)) hb); clear HO_4; clear HO_6; clear BK344; clear HB; have HO_4 := n0_; have HO_6 := n1_; have HO383 := n2_; have BK344 := n3_; have HB := n4_; clear n0_ n1_ n2_ n3_ n4_; (try clear hb); (try clear hb2); (try clear hk); (try clear hi); (try clear ho0); obtain ⟨Ao29, co29, eo29⟩ := Kd.R_slice HO_4.out; subst eo29; obtain ⟨Ao30, co30, eo30⟩ := Kd.R_slice HO383.out; subst eo30) | (go_at_call 17; (with_reducible refine (girolaw39_legs.calls kj8 _ _ t360 _ _ t381 true _ ?side1 ?side2 ?side3 ?side4 A24.out).mono ?_); (case side1 => repeat (first | exact (Kd.R_reads' HO_4.out).2.2 | (with_reducible refine Kd.C_alloc ?_ _) | (with_reducible refine Kd.C_drewN ?_ _) | (with_reducible refine Kd.C_drew ?_))); (case side2 => exact (Kd.R_reads' HO_4.out).2.1); (case side3 => repeat (first | exact (Kd.R_reads' HO383.out).2.2 | (with_reducible refine Kd.C_alloc ?_ _) | (with_reducible refine Kd.C_drewN ?_ _) | (with_reducible refine Kd.C_drew ?_))); (case side4 => exact (Kd.R_reads' HO383.out).2.1); rintro e w' ⟨rfl, ⟨nd, rfl⟩⟩; (try first | exact ⟨rfl, _, World.drewN_drewN _ _ _⟩ | exact ⟨rfl, _, Eq.trans (World.drewN_drewN _ _ _) (congrArg (World.drewN _) (Nat.add_assoc _ _ _))⟩); have hcz31_0 : w28.cell? ⟨gb344, 0, none⟩ = some (.int .i64 a0_0) := (blk_cell BK344.out 0).trans rfl; have hcz31_1 : w28.cell? ⟨gb344, 1, none⟩ = some (.string a0_1) := (blk_cell BK344.out 1).trans rfl; have hcz31_2 : w28.cell? ⟨gb344, 2, none⟩ = some (.string a0_2) := (blk_cell BK344.out 2).trans rfl; have hcz31_3 : w28.cell? ⟨gb344, 3, none⟩ = some (.string a0_3) := (blk_cell BK344.out 3).trans rfl; have hcz31_4 : w28.cell? ⟨gb344, 4, none⟩ = some (.int .i64 a0_4) := (blk_cell BK344.out 4).trans rfl; have hcz31_5 : w28.cell? ⟨gb344, 5, none⟩ = some (.int .i64 a0_5) := (blk_cell BK344.out 5).trans rfl; have hcz31_6 : w28.cell? ⟨gb344, 6, none⟩ = some (.int .i64 a0_6) := (blk_cell BK344.out 6).trans rfl; have hcz31_7 : w28.cell? ⟨gb344, 7, none⟩ = some (.int .i64 a0_7) := (blk_cell BK344.out 7).trans rfl; have hcz31_8 : w28.cell? ⟨gb344, 8, none⟩ = some (.int .i64 a0_8) := (blk_cell BK344.out 8).trans rfl; have hcz31_9 : w28.cell? ⟨gb344, 9, none⟩ = some (.bool a0_9) := (blk_cell BK344.out 9).trans rfl; have hcz31_10 : w28.cell? ⟨gb344, 10, none⟩ = some (.int .i64 a0_10) := (blk_cell BK344.out 10).trans rfl; have hcz31_11 : w28.cell? ⟨gb344, 11, none⟩ = some (.string a0_11) := (blk_cell BK344.out 11).trans rfl; have hcz31_12 : w28.cell? ⟨gb344, 12, none⟩ = some (.string a0_12) := (blk_cell BK344.out 12).trans rfl; have hfz31_0 := blk_frozen BK344.out 0; have hfz31_1 := blk_frozen BK344.out 1; have hfz31_2 := blk_frozen BK344.out 2; have hfz31_3 := blk_frozen BK344.out 3; have hfz31_4 := blk_frozen BK344.out 4; have hfz31_5 := blk_frozen BK344.out 5; have hfz31_6 := blk_frozen BK344.out 6; have hfz31_7 := blk_frozen BK344.out 7; have hfz31_8 := blk_frozen BK344.out 8; have hfz31_9 := blk_frozen BK344.out 9; have hfz31_10 := blk_frozen BK344.out 10; have hfz31_11 := blk_frozen BK344.out 11; have hfz31_12 := blk_frozen BK344.out 12; obtain ⟨Ao32, co32, eo32⟩ := Kd.R_slice HO_6.out; subst eo32))
        repeat (go_quiet (first | (go_at_call 20; (with_reducible refine (giroref39_Legs.calls a0_0 a0_1 a0_2 a0_3 a0_4 a0_5 a0_6 a0_7 a0_8 a0_9 a0_10 a0_11 a0_12 t381 _ A23.out).mono ?_); rintro e w28 ⟨v382, rfl, ho0, hb⟩; have n0_ := Aside0.mk (Kd.R_below (by (with_reducible repeat (first | apply Kd.R_alloc | apply Kd.R_drewN | apply Kd.R_drew)); exact HO_4.out) hb); have n1_ := Aside0.mk (Kd.R_below (by (with_reducible repeat (first | apply Kd.R_alloc | apply Kd.R_drewN | apply Kd.R_drew)); exact HO_6.out) hb); have n2_ := Aside0.mk (Kd.R_lower ho0 (below_size (by repeat (first | (with_reducible first | exact HB.out | apply below_alloc | apply pw_below_drewN | apply below_drew1 | refine below_set ?_ GE344.out) | exact HB.out)))); have n3_ := Aside0.mk (blk_below (g := gb344) (o := .cells #[.int .i64 a0_0, .string a0_1, .string a0_2, .string a0_3, .int .i64 a0_4, .int .i64 a0_5, .int .i64 a0_6, .int .i64 a0_7, .int .i64 a0_8, .bool a0_9, .int .i64 a0_10, .string a0_11, .string a0_12] 24 (0, 0)) (by (with_reducible repeat (first | refine blk_drewN ?_ _ | refine blk_drew ?_ | refine blk_alloc ?_ _)); exact BK344.out) hb); have n4_ := Aside0.mk (below_step (by repeat (first | (with_reducible first | exact HB.out | apply below_alloc | apply pw_below_drewN | apply below_drew1 | refine below_set ?_ GE344.out) | exact HB.out)) hb); clear HO_4; clear HO_6; clear BK344; clear HB; have HO_4 := n0_; have HO_6 := n1_; have HO383 := n2_; have BK344 := n3_; have HB := n4_; clear n0_ n1_ n2_ n3_ n4_; (try clear hb); (try clear hb2); (try clear hk); (try clear hi); (try clear ho0); obtain ⟨Ao29, co29, eo29⟩ := Kd.R_slice HO_4.out; subst eo29; obtain ⟨Ao30, co30, eo30⟩ := Kd.R_slice HO383.out; subst eo30) | (go_at_call 17; (with_reducible refine (girolaw39_legs.calls kj8 _ _ t360 _ _ t381 true _ ?side1 ?side2 ?side3 ?side4 A24.out).mono ?_); (case side1 => repeat (first | exact (Kd.R_reads' HO_4.out).2.2 | (with_reducible refine Kd.C_alloc ?_ _) | (with_reducible refine Kd.C_drewN ?_ _) | (with_reducible refine Kd.C_drew ?_))); (case side2 => exact (Kd.R_reads' HO_4.out).2.1); (case side3 => repeat (first | exact (Kd.R_reads' HO383.out).2.2 | (with_reducible refine Kd.C_alloc ?_ _) | (with_reducible refine Kd.C_drewN ?_ _) | (with_reducible refine Kd.C_drew ?_))); (case side4 => exact (Kd.R_reads' HO383.out).2.1); rintro e w' ⟨rfl, ⟨nd, rfl⟩⟩; (try first | exact ⟨rfl, _, World.drewN_drewN _ _ _⟩ | exact ⟨rfl, _, Eq.trans (World.drewN_drewN _ _ _) (congrArg (World.drewN _) (Nat.add_assoc _ _ _))⟩); have hcz31_0 : w28.cell? ⟨gb344, 0, none⟩ = some (.int .i64 a0_0) := (blk_cell BK344.out 0).trans rfl; have hcz31_1 : w28.cell? ⟨gb344, 1, none⟩ = some (.string a0_1) := (blk_cell BK344.out 1).trans rfl; have hcz31_2 : w28.cell? ⟨gb344, 2, none⟩ = some (.string a0_2) := (blk_cell BK344.out 2).trans rfl; have hcz31_3 : w28.cell? ⟨gb344, 3, none⟩ = some (.string a0_3) := (blk_cell BK344.out 3).trans rfl; have hcz31_4 : w28.cell? ⟨gb344, 4, none⟩ = some (.int .i64 a0_4) := (blk_cell BK344.out 4).trans rfl; have hcz31_5 : w28.cell? ⟨gb344, 5, none⟩ = some (.int .i64 a0_5) := (blk_cell BK344.out 5).trans rfl; have hcz31_6 : w28.cell? ⟨gb344, 6, none⟩ = some (.int .i64 a0_6) := (blk_cell BK344.out 6).trans rfl; have hcz31_7 : w28.cell? ⟨gb344, 7, none⟩ = some (.int .i64 a0_7) := (blk_cell BK344.out 7).trans rfl; have hcz31_8 : w28.cell? ⟨gb344, 8, none⟩ = some (.int .i64 a0_8) := (blk_cell BK344.out 8).trans rfl; have hcz31_9 : w28.cell? ⟨gb344, 9, none⟩ = some (.bool a0_9) := (blk_cell BK344.out 9).trans rfl; have hcz31_10 : w28.cell? ⟨gb344, 10, none⟩ = some (.int .i64 a0_10) := (blk_cell BK344.out 10).trans rfl; have hcz31_11 : w28.cell? ⟨gb344, 11, none⟩ = some (.string a0_11) := (blk_cell BK344.out 11).trans rfl; have hcz31_12 : w28.cell? ⟨gb344, 12, none⟩ = some (.string a0_12) := (blk_cell BK344.out 12).trans rfl; have hfz31_0 := blk_frozen BK344.out 0; have hfz31_1 := blk_frozen BK344.out 1; have hfz31_2 := blk_frozen BK344.out 2; have hfz31_3 := blk_frozen BK344.out 3; have hfz31_4 := blk_frozen BK344.out 4; have hfz31_5 := blk_frozen BK344.out 5; have hfz31_6 := blk_frozen BK344.out 6; have hfz31_7 := blk_frozen BK344.out 7; have hfz31_8 := blk_frozen BK344.out 8; have hfz31_9 := blk_frozen BK344.out 9; have hfz31_10 := blk_frozen BK344.out 10; have hfz31_11 := blk_frozen BK344.out 11; have hfz31_12 := blk_frozen BK344.out 12; obtain ⟨Ao32, co32, eo32⟩ := Kd.R_slice HO_6.out; subst eo32)); try go_wp2_with (first | (go_at_call 20; (with_reducible refine (giroref39_Legs.calls a0_0 a0_1 a0_2 a0_3 a0_4 a0_5 a0_6 a0_7 a0_8 a0_9 a0_10 a0_11 a0_12 t381 _ A23.out).mono ?_); rintro e w28 ⟨v382, rfl, ho0, hb⟩; have n0_ := Aside0.mk (Kd.R_below (by (with_reducible repeat (first | apply Kd.R_alloc | apply Kd.R_drewN | apply Kd.R_drew)); exact HO_4.out) hb); have n1_ := Aside0.mk (Kd.R_below (by (with_reducible repeat (first | apply Kd.R_alloc | apply Kd.R_drewN | apply Kd.R_drew)); exact HO_6.out) hb); have n2_ := Aside0.mk (Kd.R_lower ho0 (below_size (by repeat (first | (with_reducible first | exact HB.out | apply below_alloc | apply pw_below_drewN | apply below_drew1 | refine below_set ?_ GE344.out) | exact HB.out)))); have n3_ := Aside0.mk (blk_below (g := gb344) (o := .cells #[.int .i64 a0_0, .string a0_1, .string a0_2, .string a0_3, .int .i64 a0_4, .int .i64 a0_5, .int .i64 a0_6, .int .i64 a0_7, .int .i64 a0_8, .bool a0_9, .int .i64 a0_10, .string a0_11, .string a0_12] 24 (0, 0)) (by (with_reducible repeat (first | refine blk_drewN ?_ _ | refine blk_drew ?_ | refine blk_alloc ?_ _)); exact BK344.out) hb); have n4_ := Aside0.mk (below_step (by repeat (first | (with_reducible first | exact HB.out | apply below_alloc | apply pw_below_drewN | apply below_drew1 | refine below_set ?_ GE344.out) | exact HB.out)) hb); clear HO_4; clear HO_6; clear BK344; clear HB; have HO_4 := n0_; have HO_6 := n1_; have HO383 := n2_; have BK344 := n3_; have HB := n4_; clear n0_ n1_ n2_ n3_ n4_; (try clear hb); (try clear hb2); (try clear hk); (try clear hi); (try clear ho0); obtain ⟨Ao29, co29, eo29⟩ := Kd.R_slice HO_4.out; subst eo29; obtain ⟨Ao30, co30, eo30⟩ := Kd.R_slice HO383.out; subst eo30) | (go_at_call 17; (with_reducible refine (girolaw39_legs.calls kj8 _ _ t360 _ _ t381 true _ ?side1 ?side2 ?side3 ?side4 A24.out).mono ?_); (case side1 => repeat (first | exact (Kd.R_reads' HO_4.out).2.2 | (with_reducible refine Kd.C_alloc ?_ _) | (with_reducible refine Kd.C_drewN ?_ _) | (with_reducible refine Kd.C_drew ?_))); (case side2 => exact (Kd.R_reads' HO_4.out).2.1); (case side3 => repeat (first | exact (Kd.R_reads' HO383.out).2.2 | (with_reducible refine Kd.C_alloc ?_ _) | (with_reducible refine Kd.C_drewN ?_ _) | (with_reducible refine Kd.C_drew ?_))); (case side4 => exact (Kd.R_reads' HO383.out).2.1); rintro e w' ⟨rfl, ⟨nd, rfl⟩⟩; (try first | exact ⟨rfl, _, World.drewN_drewN _ _ _⟩ | exact ⟨rfl, _, Eq.trans (World.drewN_drewN _ _ _) (congrArg (World.drewN _) (Nat.add_assoc _ _ _))⟩); have hcz31_0 : w28.cell? ⟨gb344, 0, none⟩ = some (.int .i64 a0_0) := (blk_cell BK344.out 0).trans rfl; have hcz31_1 : w28.cell? ⟨gb344, 1, none⟩ = some (.string a0_1) := (blk_cell BK344.out 1).trans rfl; have hcz31_2 : w28.cell? ⟨gb344, 2, none⟩ = some (.string a0_2) := (blk_cell BK344.out 2).trans rfl; have hcz31_3 : w28.cell? ⟨gb344, 3, none⟩ = some (.string a0_3) := (blk_cell BK344.out 3).trans rfl; have hcz31_4 : w28.cell? ⟨gb344, 4, none⟩ = some (.int .i64 a0_4) := (blk_cell BK344.out 4).trans rfl; have hcz31_5 : w28.cell? ⟨gb344, 5, none⟩ = some (.int .i64 a0_5) := (blk_cell BK344.out 5).trans rfl; have hcz31_6 : w28.cell? ⟨gb344, 6, none⟩ = some (.int .i64 a0_6) := (blk_cell BK344.out 6).trans rfl; have hcz31_7 : w28.cell? ⟨gb344, 7, none⟩ = some (.int .i64 a0_7) := (blk_cell BK344.out 7).trans rfl; have hcz31_8 : w28.cell? ⟨gb344, 8, none⟩ = some (.int .i64 a0_8) := (blk_cell BK344.out 8).trans rfl; have hcz31_9 : w28.cell? ⟨gb344, 9, none⟩ = some (.bool a0_9) := (blk_cell BK344.out 9).trans rfl; have hcz31_10 : w28.cell? ⟨gb344, 10, none⟩ = some (.int .i64 a0_10) := (blk_cell BK344.out 10).trans rfl; have hcz31_11 : w28.cell? ⟨gb344, 11, none⟩ = some (.string a0_11) := (blk_cell BK344.out 11).trans rfl; have hcz31_12 : w28.cell? ⟨gb344, 12, none⟩ = some (.string a0_12) := (blk_cell BK344.out 12).trans rfl; have hfz31_0 := blk_frozen BK344.out 0; have hfz31_1 := blk_frozen BK344.out 1; have hfz31_2 := blk_frozen BK344.out 2; have hfz31_3 := blk_frozen BK344.out 3; have hfz31_4 := blk_frozen BK344.out 4; have hfz31_5 := blk_frozen BK344.out 5; have hfz31_6 := blk_frozen BK344.out 6; have hfz31_7 := blk_frozen BK344.out 7; have hfz31_8 := blk_frozen BK344.out 8; have hfz31_9 := blk_frozen BK344.out 9; have hfz31_10 := blk_frozen BK344.out 10; have hfz31_11 := blk_frozen BK344.out 11; have hfz31_12 := blk_frozen BK344.out 12; obtain ⟨Ao32, co32, eo32⟩ := Kd.R_slice HO_6.out; subst eo32)))
        go_ret
        exact ⟨by first | rfl | (simp [errW_none, errW_some] <;> rfl) | (simp [*, errW_none, errW_some] <;> rfl), by repeat (first | (with_reducible first | exact HB.out | apply below_alloc | apply pw_below_drewN | apply below_drew1 | refine below_set ?_ GE344.out) | exact HB.out)⟩
       ·rw [if_neg c26] at H
        have c26b0 : (a0_0 == 2) = false := beq_eq_false_iff_ne.mpr c26
        have c26b1 : (a0_0 != 2) = true := bne_iff_ne.mpr c26
        by_cases c33 : (t377.length : Int) = 1
        ·rw [if_pos c33] at H
         have c33b0 : ((t377.length : Int) == 1) = true := beq_iff_eq.mpr c33
         have c33b1 : ((t377.length : Int) != 1) = false := bne_eq_false_iff_eq.mpr c33
         clear c33
         by_cases c34 : 0 < (t377.length : Int)
         ·rw [if_pos c34] at H
          have c34b0 : decide (0 < (t377.length : Int)) = true := decide_eq_true c34
          have c34b1 : decide (0 < t377.length) = true := decide_eq_true (by omega)
          clear c34
          obtain rfl := Option.some.inj H
          have hcz35_0 : wc.cell? ⟨gb344, 0, none⟩ = some (.int .i64 a0_0) := (blk_cell BK344.out 0).trans rfl
          have hcz35_1 : wc.cell? ⟨gb344, 1, none⟩ = some (.string a0_1) := (blk_cell BK344.out 1).trans rfl
          have hcz35_2 : wc.cell? ⟨gb344, 2, none⟩ = some (.string a0_2) := (blk_cell BK344.out 2).trans rfl
          have hcz35_3 : wc.cell? ⟨gb344, 3, none⟩ = some (.string a0_3) := (blk_cell BK344.out 3).trans rfl
          have hcz35_4 : wc.cell? ⟨gb344, 4, none⟩ = some (.int .i64 a0_4) := (blk_cell BK344.out 4).trans rfl
          have hcz35_5 : wc.cell? ⟨gb344, 5, none⟩ = some (.int .i64 a0_5) := (blk_cell BK344.out 5).trans rfl
          have hcz35_6 : wc.cell? ⟨gb344, 6, none⟩ = some (.int .i64 a0_6) := (blk_cell BK344.out 6).trans rfl
          have hcz35_7 : wc.cell? ⟨gb344, 7, none⟩ = some (.int .i64 a0_7) := (blk_cell BK344.out 7).trans rfl
          have hcz35_8 : wc.cell? ⟨gb344, 8, none⟩ = some (.int .i64 a0_8) := (blk_cell BK344.out 8).trans rfl
          have hcz35_9 : wc.cell? ⟨gb344, 9, none⟩ = some (.bool a0_9) := (blk_cell BK344.out 9).trans rfl
          have hcz35_10 : wc.cell? ⟨gb344, 10, none⟩ = some (.int .i64 a0_10) := (blk_cell BK344.out 10).trans rfl
          have hcz35_11 : wc.cell? ⟨gb344, 11, none⟩ = some (.string a0_11) := (blk_cell BK344.out 11).trans rfl
          have hcz35_12 : wc.cell? ⟨gb344, 12, none⟩ = some (.string a0_12) := (blk_cell BK344.out 12).trans rfl
          have hfz35_0 := blk_frozen BK344.out 0
          have hfz35_1 := blk_frozen BK344.out 1
          have hfz35_2 := blk_frozen BK344.out 2
          have hfz35_3 := blk_frozen BK344.out 3
          have hfz35_4 := blk_frozen BK344.out 4
          have hfz35_5 := blk_frozen BK344.out 5
          have hfz35_6 := blk_frozen BK344.out 6
          have hfz35_7 := blk_frozen BK344.out 7
          have hfz35_8 := blk_frozen BK344.out 8
          have hfz35_9 := blk_frozen BK344.out 9
          have hfz35_10 := blk_frozen BK344.out 10
          have hfz35_11 := blk_frozen BK344.out 11
          have hfz35_12 := blk_frozen BK344.out 12
          go_wp2_with (first | (go_at_call 20; (with_reducible refine (giroref39_Legs.calls a0_0 a0_1 a0_2 a0_3 a0_4 a0_5 a0_6 a0_7 a0_8 a0_9 a0_10 a0_11 a0_12 t381 _ A23.out).mono ?_); rintro e w36 ⟨v382, rfl, ho0, hb⟩; have n0_ := Aside0.mk (Kd.R_below (by (with_reducible repeat (first | apply Kd.R_alloc | apply Kd.R_drewN | apply Kd.R_drew)); exact HO_4.out) hb); have n1_ := Aside0.mk (Kd.R_below (by (with_reducible repeat (first | apply Kd.R_alloc | apply Kd.R_drewN | apply Kd.R_drew)); exact HO_6.out) hb); have n2_ := Aside0.mk (Kd.R_lower ho0 (below_size (by repeat (first | (with_reducible first | exact HB.out | apply below_alloc | apply pw_below_drewN | apply below_drew1 | refine below_set ?_ GE344.out) | exact HB.out)))); have n3_ := Aside0.mk (blk_below (g := gb344) (o := .cells #[.int .i64 a0_0, .string a0_1, .string a0_2, .string a0_3, .int .i64 a0_4, .int .i64 a0_5, .int .i64 a0_6, .int .i64 a0_7, .int .i64 a0_8, .bool a0_9, .int .i64 a0_10, .string a0_11, .string a0_12] 24 (0, 0)) (by (with_reducible repeat (first | refine blk_drewN ?_ _ | refine blk_drew ?_ | refine blk_alloc ?_ _)); exact BK344.out) hb); have n4_ := Aside0.mk (below_step (by repeat (first | (with_reducible first | exact HB.out | apply below_alloc | apply pw_below_drewN | apply below_drew1 | refine below_set ?_ GE344.out) | exact HB.out)) hb); clear HO_4; clear HO_6; clear BK344; clear HB; have HO_4 := n0_; have HO_6 := n1_; have HO383 := n2_; have BK344 := n3_; have HB := n4_; clear n0_ n1_ n2_ n3_ n4_; (try clear hb); (try clear hb2); (try clear hk); (try clear hi); (try clear ho0); obtain ⟨Ao37, co37, eo37⟩ := Kd.R_slice HO_4.out; subst eo37; obtain ⟨Ao38, co38, eo38⟩ := Kd.R_slice HO383.out; subst eo38) | (go_at_call 17; (with_reducible refine (girolaw39_legs.calls kj8 _ _ t360 _ _ t381 true _ ?side1 ?side2 ?side3 ?side4 A24.out).mono ?_); (case side1 => repeat (first | exact (Kd.R_reads' HO_4.out).2.2 | (with_reducible refine Kd.C_alloc ?_ _) | (with_reducible refine Kd.C_drewN ?_ _) | (with_reducible refine Kd.C_drew ?_))); (case side2 => exact (Kd.R_reads' HO_4.out).2.1); (case side3 => repeat (first | exact (Kd.R_reads' HO383.out).2.2 | (with_reducible refine Kd.C_alloc ?_ _) | (with_reducible refine Kd.C_drewN ?_ _) | (with_reducible refine Kd.C_drew ?_))); (case side4 => exact (Kd.R_reads' HO383.out).2.1); rintro e w' ⟨rfl, ⟨nd, rfl⟩⟩; (try first | exact ⟨rfl, _, World.drewN_drewN _ _ _⟩ | exact ⟨rfl, _, Eq.trans (World.drewN_drewN _ _ _) (congrArg (World.drewN _) (Nat.add_assoc _ _ _))⟩); have hcz39_0 : w36.cell? ⟨gb344, 0, none⟩ = some (.int .i64 a0_0) := (blk_cell BK344.out 0).trans rfl; have hcz39_1 : w36.cell? ⟨gb344, 1, none⟩ = some (.string a0_1) := (blk_cell BK344.out 1).trans rfl; have hcz39_2 : w36.cell? ⟨gb344, 2, none⟩ = some (.string a0_2) := (blk_cell BK344.out 2).trans rfl; have hcz39_3 : w36.cell? ⟨gb344, 3, none⟩ = some (.string a0_3) := (blk_cell BK344.out 3).trans rfl; have hcz39_4 : w36.cell? ⟨gb344, 4, none⟩ = some (.int .i64 a0_4) := (blk_cell BK344.out 4).trans rfl; have hcz39_5 : w36.cell? ⟨gb344, 5, none⟩ = some (.int .i64 a0_5) := (blk_cell BK344.out 5).trans rfl; have hcz39_6 : w36.cell? ⟨gb344, 6, none⟩ = some (.int .i64 a0_6) := (blk_cell BK344.out 6).trans rfl; have hcz39_7 : w36.cell? ⟨gb344, 7, none⟩ = some (.int .i64 a0_7) := (blk_cell BK344.out 7).trans rfl; have hcz39_8 : w36.cell? ⟨gb344, 8, none⟩ = some (.int .i64 a0_8) := (blk_cell BK344.out 8).trans rfl; have hcz39_9 : w36.cell? ⟨gb344, 9, none⟩ = some (.bool a0_9) := (blk_cell BK344.out 9).trans rfl; have hcz39_10 : w36.cell? ⟨gb344, 10, none⟩ = some (.int .i64 a0_10) := (blk_cell BK344.out 10).trans rfl; have hcz39_11 : w36.cell? ⟨gb344, 11, none⟩ = some (.string a0_11) := (blk_cell BK344.out 11).trans rfl; have hcz39_12 : w36.cell? ⟨gb344, 12, none⟩ = some (.string a0_12) := (blk_cell BK344.out 12).trans rfl; have hfz39_0 := blk_frozen BK344.out 0; have hfz39_1 := blk_frozen BK344.out 1; have hfz39_2 := blk_frozen BK344.out 2; have hfz39_3 := blk_frozen BK344.out 3; have hfz39_4 := blk_frozen BK344.out 4; have hfz39_5 := blk_frozen BK344.out 5; have hfz39_6 := blk_frozen BK344.out 6; have hfz39_7 := blk_frozen BK344.out 7; have hfz39_8 := blk_frozen BK344.out 8; have hfz39_9 := blk_frozen BK344.out 9; have hfz39_10 := blk_frozen BK344.out 10; have hfz39_11 := blk_frozen BK344.out 11; have hfz39_12 := blk_frozen BK344.out 12; obtain ⟨Ao40, co40, eo40⟩ := Kd.R_slice HO_6.out; subst eo40; have p385 : 0 ≤ (0 : Int) := (by omega); have q385 : 0 < (t377.length : Int) := of_decide_eq_true (by first | (with_reducible assumption) | assumption); obtain ⟨ad385, e385, hx385_0, hx385_1, hx385_2⟩ := at_T56 (Kd.R_reads' HO_6.out).2.2 0 p385 q385; cases e385; have qi385 : (0 < t377.length) = True := eq_true (by omega); (try rw [show ((0 : Int)).toNat = 0 from rfl] at hx385_0); (try rw [show 0 * 3 = 0 from rfl] at hx385_0); (try rw [Addr.add_zero'] at hx385_0); (try rw [show ((0 : Int)).toNat = 0 from rfl] at hx385_1); (try rw [show 0 * 3 = 0 from rfl] at hx385_1); (try rw [Addr.add_zero'] at hx385_1); (try rw [show ((0 : Int)).toNat = 0 from rfl] at hx385_2); (try rw [show 0 * 3 = 0 from rfl] at hx385_2); (try rw [Addr.add_zero'] at hx385_2); replace p385 := eq_true p385; replace q385 := eq_true q385))
          repeat (go_quiet (first | (go_at_call 20; (with_reducible refine (giroref39_Legs.calls a0_0 a0_1 a0_2 a0_3 a0_4 a0_5 a0_6 a0_7 a0_8 a0_9 a0_10 a0_11 a0_12 t381 _ A23.out).mono ?_); rintro e w36 ⟨v382, rfl, ho0, hb⟩; have n0_ := Aside0.mk (Kd.R_below (by (with_reducible repeat (first | apply Kd.R_alloc | apply Kd.R_drewN | apply Kd.R_drew)); exact HO_4.out) hb); have n1_ := Aside0.mk (Kd.R_below (by (with_reducible repeat (first | apply Kd.R_alloc | apply Kd.R_drewN | apply Kd.R_drew)); exact HO_6.out) hb); have n2_ := Aside0.mk (Kd.R_lower ho0 (below_size (by repeat (first | (with_reducible first | exact HB.out | apply below_alloc | apply pw_below_drewN | apply below_drew1 | refine below_set ?_ GE344.out) | exact HB.out)))); have n3_ := Aside0.mk (blk_below (g := gb344) (o := .cells #[.int .i64 a0_0, .string a0_1, .string a0_2, .string a0_3, .int .i64 a0_4, .int .i64 a0_5, .int .i64 a0_6, .int .i64 a0_7, .int .i64 a0_8, .bool a0_9, .int .i64 a0_10, .string a0_11, .string a0_12] 24 (0, 0)) (by (with_reducible repeat (first | refine blk_drewN ?_ _ | refine blk_drew ?_ | refine blk_alloc ?_ _)); exact BK344.out) hb); have n4_ := Aside0.mk (below_step (by repeat (first | (with_reducible first | exact HB.out | apply below_alloc | apply pw_below_drewN | apply below_drew1 | refine below_set ?_ GE344.out) | exact HB.out)) hb); clear HO_4; clear HO_6; clear BK344; clear HB; have HO_4 := n0_; have HO_6 := n1_; have HO383 := n2_; have BK344 := n3_; have HB := n4_; clear n0_ n1_ n2_ n3_ n4_; (try clear hb); (try clear hb2); (try clear hk); (try clear hi); (try clear ho0); obtain ⟨Ao37, co37, eo37⟩ := Kd.R_slice HO_4.out; subst eo37; obtain ⟨Ao38, co38, eo38⟩ := Kd.R_slice HO383.out; subst eo38) | (go_at_call 17; (with_reducible refine (girolaw39_legs.calls kj8 _ _ t360 _ _ t381 true _ ?side1 ?side2 ?side3 ?side4 A24.out).mono ?_); (case side1 => repeat (first | exact (Kd.R_reads' HO_4.out).2.2 | (with_reducible refine Kd.C_alloc ?_ _) | (with_reducible refine Kd.C_drewN ?_ _) | (with_reducible refine Kd.C_drew ?_))); (case side2 => exact (Kd.R_reads' HO_4.out).2.1); (case side3 => repeat (first | exact (Kd.R_reads' HO383.out).2.2 | (with_reducible refine Kd.C_alloc ?_ _) | (with_reducible refine Kd.C_drewN ?_ _) | (with_reducible refine Kd.C_drew ?_))); (case side4 => exact (Kd.R_reads' HO383.out).2.1); rintro e w' ⟨rfl, ⟨nd, rfl⟩⟩; (try first | exact ⟨rfl, _, World.drewN_drewN _ _ _⟩ | exact ⟨rfl, _, Eq.trans (World.drewN_drewN _ _ _) (congrArg (World.drewN _) (Nat.add_assoc _ _ _))⟩); have hcz39_0 : w36.cell? ⟨gb344, 0, none⟩ = some (.int .i64 a0_0) := (blk_cell BK344.out 0).trans rfl; have hcz39_1 : w36.cell? ⟨gb344, 1, none⟩ = some (.string a0_1) := (blk_cell BK344.out 1).trans rfl; have hcz39_2 : w36.cell? ⟨gb344, 2, none⟩ = some (.string a0_2) := (blk_cell BK344.out 2).trans rfl; have hcz39_3 : w36.cell? ⟨gb344, 3, none⟩ = some (.string a0_3) := (blk_cell BK344.out 3).trans rfl; have hcz39_4 : w36.cell? ⟨gb344, 4, none⟩ = some (.int .i64 a0_4) := (blk_cell BK344.out 4).trans rfl; have hcz39_5 : w36.cell? ⟨gb344, 5, none⟩ = some (.int .i64 a0_5) := (blk_cell BK344.out 5).trans rfl; have hcz39_6 : w36.cell? ⟨gb344, 6, none⟩ = some (.int .i64 a0_6) := (blk_cell BK344.out 6).trans rfl; have hcz39_7 : w36.cell? ⟨gb344, 7, none⟩ = some (.int .i64 a0_7) := (blk_cell BK344.out 7).trans rfl; have hcz39_8 : w36.cell? ⟨gb344, 8, none⟩ = some (.int .i64 a0_8) := (blk_cell BK344.out 8).trans rfl; have hcz39_9 : w36.cell? ⟨gb344, 9, none⟩ = some (.bool a0_9) := (blk_cell BK344.out 9).trans rfl; have hcz39_10 : w36.cell? ⟨gb344, 10, none⟩ = some (.int .i64 a0_10) := (blk_cell BK344.out 10).trans rfl; have hcz39_11 : w36.cell? ⟨gb344, 11, none⟩ = some (.string a0_11) := (blk_cell BK344.out 11).trans rfl; have hcz39_12 : w36.cell? ⟨gb344, 12, none⟩ = some (.string a0_12) := (blk_cell BK344.out 12).trans rfl; have hfz39_0 := blk_frozen BK344.out 0; have hfz39_1 := blk_frozen BK344.out 1; have hfz39_2 := blk_frozen BK344.out 2; have hfz39_3 := blk_frozen BK344.out 3; have hfz39_4 := blk_frozen BK344.out 4; have hfz39_5 := blk_frozen BK344.out 5; have hfz39_6 := blk_frozen BK344.out 6; have hfz39_7 := blk_frozen BK344.out 7; have hfz39_8 := blk_frozen BK344.out 8; have hfz39_9 := blk_frozen BK344.out 9; have hfz39_10 := blk_frozen BK344.out 10; have hfz39_11 := blk_frozen BK344.out 11; have hfz39_12 := blk_frozen BK344.out 12; obtain ⟨Ao40, co40, eo40⟩ := Kd.R_slice HO_6.out; subst eo40; have p385 : 0 ≤ (0 : Int) := (by omega); have q385 : 0 < (t377.length : Int) := of_decide_eq_true (by first | (with_reducible assumption) | assumption); obtain ⟨ad385, e385, hx385_0, hx385_1, hx385_2⟩ := at_T56 (Kd.R_reads' HO_6.out).2.2 0 p385 q385; cases e385; have qi385 : (0 < t377.length) = True := eq_true (by omega); (try rw [show ((0 : Int)).toNat = 0 from rfl] at hx385_0); (try rw [show 0 * 3 = 0 from rfl] at hx385_0); (try rw [Addr.add_zero'] at hx385_0); (try rw [show ((0 : Int)).toNat = 0 from rfl] at hx385_1); (try rw [show 0 * 3 = 0 from rfl] at hx385_1); (try rw [Addr.add_zero'] at hx385_1); (try rw [show ((0 : Int)).toNat = 0 from rfl] at hx385_2); (try rw [show 0 * 3 = 0 from rfl] at hx385_2); (try rw [Addr.add_zero'] at hx385_2); replace p385 := eq_true p385; replace q385 := eq_true q385)); try go_wp2_with (first | (go_at_call 20; (with_reducible refine (giroref39_Legs.calls a0_0 a0_1 a0_2 a0_3 a0_4 a0_5 a0_6 a0_7 a0_8 a0_9 a0_10 a0_11 a0_12 t381 _ A23.out).mono ?_); rintro e w36 ⟨v382, rfl, ho0, hb⟩; have n0_ := Aside0.mk (Kd.R_below (by (with_reducible repeat (first | apply Kd.R_alloc | apply Kd.R_drewN | apply Kd.R_drew)); exact HO_4.out) hb); have n1_ := Aside0.mk (Kd.R_below (by (with_reducible repeat (first | apply Kd.R_alloc | apply Kd.R_drewN | apply Kd.R_drew)); exact HO_6.out) hb); have n2_ := Aside0.mk (Kd.R_lower ho0 (below_size (by repeat (first | (with_reducible first | exact HB.out | apply below_alloc | apply pw_below_drewN | apply below_drew1 | refine below_set ?_ GE344.out) | exact HB.out)))); have n3_ := Aside0.mk (blk_below (g := gb344) (o := .cells #[.int .i64 a0_0, .string a0_1, .string a0_2, .string a0_3, .int .i64 a0_4, .int .i64 a0_5, .int .i64 a0_6, .int .i64 a0_7, .int .i64 a0_8, .bool a0_9, .int .i64 a0_10, .string a0_11, .string a0_12] 24 (0, 0)) (by (with_reducible repeat (first | refine blk_drewN ?_ _ | refine blk_drew ?_ | refine blk_alloc ?_ _)); exact BK344.out) hb); have n4_ := Aside0.mk (below_step (by repeat (first | (with_reducible first | exact HB.out | apply below_alloc | apply pw_below_drewN | apply below_drew1 | refine below_set ?_ GE344.out) | exact HB.out)) hb); clear HO_4; clear HO_6; clear BK344; clear HB; have HO_4 := n0_; have HO_6 := n1_; have HO383 := n2_; have BK344 := n3_; have HB := n4_; clear n0_ n1_ n2_ n3_ n4_; (try clear hb); (try clear hb2); (try clear hk); (try clear hi); (try clear ho0); obtain ⟨Ao37, co37, eo37⟩ := Kd.R_slice HO_4.out; subst eo37; obtain ⟨Ao38, co38, eo38⟩ := Kd.R_slice HO383.out; subst eo38) | (go_at_call 17; (with_reducible refine (girolaw39_legs.calls kj8 _ _ t360 _ _ t381 true _ ?side1 ?side2 ?side3 ?side4 A24.out).mono ?_); (case side1 => repeat (first | exact (Kd.R_reads' HO_4.out).2.2 | (with_reducible refine Kd.C_alloc ?_ _) | (with_reducible refine Kd.C_drewN ?_ _) | (with_reducible refine Kd.C_drew ?_))); (case side2 => exact (Kd.R_reads' HO_4.out).2.1); (case side3 => repeat (first | exact (Kd.R_reads' HO383.out).2.2 | (with_reducible refine Kd.C_alloc ?_ _) | (with_reducible refine Kd.C_drewN ?_ _) | (with_reducible refine Kd.C_drew ?_))); (case side4 => exact (Kd.R_reads' HO383.out).2.1); rintro e w' ⟨rfl, ⟨nd, rfl⟩⟩; (try first | exact ⟨rfl, _, World.drewN_drewN _ _ _⟩ | exact ⟨rfl, _, Eq.trans (World.drewN_drewN _ _ _) (congrArg (World.drewN _) (Nat.add_assoc _ _ _))⟩); have hcz39_0 : w36.cell? ⟨gb344, 0, none⟩ = some (.int .i64 a0_0) := (blk_cell BK344.out 0).trans rfl; have hcz39_1 : w36.cell? ⟨gb344, 1, none⟩ = some (.string a0_1) := (blk_cell BK344.out 1).trans rfl; have hcz39_2 : w36.cell? ⟨gb344, 2, none⟩ = some (.string a0_2) := (blk_cell BK344.out 2).trans rfl; have hcz39_3 : w36.cell? ⟨gb344, 3, none⟩ = some (.string a0_3) := (blk_cell BK344.out 3).trans rfl; have hcz39_4 : w36.cell? ⟨gb344, 4, none⟩ = some (.int .i64 a0_4) := (blk_cell BK344.out 4).trans rfl; have hcz39_5 : w36.cell? ⟨gb344, 5, none⟩ = some (.int .i64 a0_5) := (blk_cell BK344.out 5).trans rfl; have hcz39_6 : w36.cell? ⟨gb344, 6, none⟩ = some (.int .i64 a0_6) := (blk_cell BK344.out 6).trans rfl; have hcz39_7 : w36.cell? ⟨gb344, 7, none⟩ = some (.int .i64 a0_7) := (blk_cell BK344.out 7).trans rfl; have hcz39_8 : w36.cell? ⟨gb344, 8, none⟩ = some (.int .i64 a0_8) := (blk_cell BK344.out 8).trans rfl; have hcz39_9 : w36.cell? ⟨gb344, 9, none⟩ = some (.bool a0_9) := (blk_cell BK344.out 9).trans rfl; have hcz39_10 : w36.cell? ⟨gb344, 10, none⟩ = some (.int .i64 a0_10) := (blk_cell BK344.out 10).trans rfl; have hcz39_11 : w36.cell? ⟨gb344, 11, none⟩ = some (.string a0_11) := (blk_cell BK344.out 11).trans rfl; have hcz39_12 : w36.cell? ⟨gb344, 12, none⟩ = some (.string a0_12) := (blk_cell BK344.out 12).trans rfl; have hfz39_0 := blk_frozen BK344.out 0; have hfz39_1 := blk_frozen BK344.out 1; have hfz39_2 := blk_frozen BK344.out 2; have hfz39_3 := blk_frozen BK344.out 3; have hfz39_4 := blk_frozen BK344.out 4; have hfz39_5 := blk_frozen BK344.out 5; have hfz39_6 := blk_frozen BK344.out 6; have hfz39_7 := blk_frozen BK344.out 7; have hfz39_8 := blk_frozen BK344.out 8; have hfz39_9 := blk_frozen BK344.out 9; have hfz39_10 := blk_frozen BK344.out 10; have hfz39_11 := blk_frozen BK344.out 11; have hfz39_12 := blk_frozen BK344.out 12; obtain ⟨Ao40, co40, eo40⟩ := Kd.R_slice HO_6.out; subst eo40; have p385 : 0 ≤ (0 : Int) := (by omega); have q385 : 0 < (t377.length : Int) := of_decide_eq_true (by first | (with_reducible assumption) | assumption); obtain ⟨ad385, e385, hx385_0, hx385_1, hx385_2⟩ := at_T56 (Kd.R_reads' HO_6.out).2.2 0 p385 q385; cases e385; have qi385 : (0 < t377.length) = True := eq_true (by omega); (try rw [show ((0 : Int)).toNat = 0 from rfl] at hx385_0); (try rw [show 0 * 3 = 0 from rfl] at hx385_0); (try rw [Addr.add_zero'] at hx385_0); (try rw [show ((0 : Int)).toNat = 0 from rfl] at hx385_1); (try rw [show 0 * 3 = 0 from rfl] at hx385_1); (try rw [Addr.add_zero'] at hx385_1); (try rw [show ((0 : Int)).toNat = 0 from rfl] at hx385_2); (try rw [show 0 * 3 = 0 from rfl] at hx385_2); (try rw [Addr.add_zero'] at hx385_2); replace p385 := eq_true p385; replace q385 := eq_true q385)))
          go_ret
          exact ⟨by first | rfl | (simp [errW_none, errW_some] <;> rfl) | (simp [*, errW_none, errW_some] <;> rfl), by repeat (first | (with_reducible first | exact HB.out | apply below_alloc | apply pw_below_drewN | apply below_drew1 | refine below_set ?_ GE344.out) | exact HB.out)⟩
         ·rw [if_neg c34] at H
          exact absurd H (by simp)
        ·rw [if_neg c33] at H
         have c33b0 : ((t377.length : Int) == 1) = false := beq_eq_false_iff_ne.mpr c33
         have c33b1 : ((t377.length : Int) != 1) = true := bne_iff_ne.mpr c33
         obtain rfl := Option.some.inj H
         have hcz41_0 : wc.cell? ⟨gb344, 0, none⟩ = some (.int .i64 a0_0) := (blk_cell BK344.out 0).trans rfl
         have hcz41_1 : wc.cell? ⟨gb344, 1, none⟩ = some (.string a0_1) := (blk_cell BK344.out 1).trans rfl
         have hcz41_2 : wc.cell? ⟨gb344, 2, none⟩ = some (.string a0_2) := (blk_cell BK344.out 2).trans rfl
         have hcz41_3 : wc.cell? ⟨gb344, 3, none⟩ = some (.string a0_3) := (blk_cell BK344.out 3).trans rfl
         have hcz41_4 : wc.cell? ⟨gb344, 4, none⟩ = some (.int .i64 a0_4) := (blk_cell BK344.out 4).trans rfl
         have hcz41_5 : wc.cell? ⟨gb344, 5, none⟩ = some (.int .i64 a0_5) := (blk_cell BK344.out 5).trans rfl
         have hcz41_6 : wc.cell? ⟨gb344, 6, none⟩ = some (.int .i64 a0_6) := (blk_cell BK344.out 6).trans rfl
         have hcz41_7 : wc.cell? ⟨gb344, 7, none⟩ = some (.int .i64 a0_7) := (blk_cell BK344.out 7).trans rfl
         have hcz41_8 : wc.cell? ⟨gb344, 8, none⟩ = some (.int .i64 a0_8) := (blk_cell BK344.out 8).trans rfl
         have hcz41_9 : wc.cell? ⟨gb344, 9, none⟩ = some (.bool a0_9) := (blk_cell BK344.out 9).trans rfl
         have hcz41_10 : wc.cell? ⟨gb344, 10, none⟩ = some (.int .i64 a0_10) := (blk_cell BK344.out 10).trans rfl
         have hcz41_11 : wc.cell? ⟨gb344, 11, none⟩ = some (.string a0_11) := (blk_cell BK344.out 11).trans rfl
         have hcz41_12 : wc.cell? ⟨gb344, 12, none⟩ = some (.string a0_12) := (blk_cell BK344.out 12).trans rfl
         have hfz41_0 := blk_frozen BK344.out 0
         have hfz41_1 := blk_frozen BK344.out 1
         have hfz41_2 := blk_frozen BK344.out 2
         have hfz41_3 := blk_frozen BK344.out 3
         have hfz41_4 := blk_frozen BK344.out 4
         have hfz41_5 := blk_frozen BK344.out 5
         have hfz41_6 := blk_frozen BK344.out 6
         have hfz41_7 := blk_frozen BK344.out 7
         have hfz41_8 := blk_frozen BK344.out 8
         have hfz41_9 := blk_frozen BK344.out 9
         have hfz41_10 := blk_frozen BK344.out 10
         have hfz41_11 := blk_frozen BK344.out 11
         have hfz41_12 := blk_frozen BK344.out 12
         go_wp2_with (first | (go_at_call 20; (with_reducible refine (giroref39_Legs.calls a0_0 a0_1 a0_2 a0_3 a0_4 a0_5 a0_6 a0_7 a0_8 a0_9 a0_10 a0_11 a0_12 t381 _ A23.out).mono ?_); rintro e w42 ⟨v382, rfl, ho0, hb⟩; have n0_ := Aside0.mk (Kd.R_below (by (with_reducible repeat (first | apply Kd.R_alloc | apply Kd.R_drewN | apply Kd.R_drew)); exact HO_4.out) hb); have n1_ := Aside0.mk (Kd.R_below (by (with_reducible repeat (first | apply Kd.R_alloc | apply Kd.R_drewN | apply Kd.R_drew)); exact HO_6.out) hb); have n2_ := Aside0.mk (Kd.R_lower ho0 (below_size (by repeat (first | (with_reducible first | exact HB.out | apply below_alloc | apply pw_below_drewN | apply below_drew1 | refine below_set ?_ GE344.out) | exact HB.out)))); have n3_ := Aside0.mk (blk_below (g := gb344) (o := .cells #[.int .i64 a0_0, .string a0_1, .string a0_2, .string a0_3, .int .i64 a0_4, .int .i64 a0_5, .int .i64 a0_6, .int .i64 a0_7, .int .i64 a0_8, .bool a0_9, .int .i64 a0_10, .string a0_11, .string a0_12] 24 (0, 0)) (by (with_reducible repeat (first | refine blk_drewN ?_ _ | refine blk_drew ?_ | refine blk_alloc ?_ _)); exact BK344.out) hb); have n4_ := Aside0.mk (below_step (by repeat (first | (with_reducible first | exact HB.out | apply below_alloc | apply pw_below_drewN | apply below_drew1 | refine below_set ?_ GE344.out) | exact HB.out)) hb); clear HO_4; clear HO_6; clear BK344; clear HB; have HO_4 := n0_; have HO_6 := n1_; have HO383 := n2_; have BK344 := n3_; have HB := n4_; clear n0_ n1_ n2_ n3_ n4_; (try clear hb); (try clear hb2); (try clear hk); (try clear hi); (try clear ho0); obtain ⟨Ao43, co43, eo43⟩ := Kd.R_slice HO_4.out; subst eo43; obtain ⟨Ao44, co44, eo44⟩ := Kd.R_slice HO383.out; subst eo44) | (go_at_call 17; (with_reducible refine (girolaw39_legs.calls kj8 _ _ t360 _ _ t381 true _ ?side1 ?side2 ?side3 ?side4 A24.out).mono ?_); (case side1 => repeat (first | exact (Kd.R_reads' HO_4.out).2.2 | (with_reducible refine Kd.C_alloc ?_ _) | (with_reducible refine Kd.C_drewN ?_ _) | (with_reducible refine Kd.C_drew ?_))); (case side2 => exact (Kd.R_reads' HO_4.out).2.1); (case side3 => repeat (first | exact (Kd.R_reads' HO383.out).2.2 | (with_reducible refine Kd.C_alloc ?_ _) | (with_reducible refine Kd.C_drewN ?_ _) | (with_reducible refine Kd.C_drew ?_))); (case side4 => exact (Kd.R_reads' HO383.out).2.1); rintro e w' ⟨rfl, ⟨nd, rfl⟩⟩; (try first | exact ⟨rfl, _, World.drewN_drewN _ _ _⟩ | exact ⟨rfl, _, Eq.trans (World.drewN_drewN _ _ _) (congrArg (World.drewN _) (Nat.add_assoc _ _ _))⟩); have hcz45_0 : w42.cell? ⟨gb344, 0, none⟩ = some (.int .i64 a0_0) := (blk_cell BK344.out 0).trans rfl; have hcz45_1 : w42.cell? ⟨gb344, 1, none⟩ = some (.string a0_1) := (blk_cell BK344.out 1).trans rfl; have hcz45_2 : w42.cell? ⟨gb344, 2, none⟩ = some (.string a0_2) := (blk_cell BK344.out 2).trans rfl; have hcz45_3 : w42.cell? ⟨gb344, 3, none⟩ = some (.string a0_3) := (blk_cell BK344.out 3).trans rfl; have hcz45_4 : w42.cell? ⟨gb344, 4, none⟩ = some (.int .i64 a0_4) := (blk_cell BK344.out 4).trans rfl; have hcz45_5 : w42.cell? ⟨gb344, 5, none⟩ = some (.int .i64 a0_5) := (blk_cell BK344.out 5).trans rfl; have hcz45_6 : w42.cell? ⟨gb344, 6, none⟩ = some (.int .i64 a0_6) := (blk_cell BK344.out 6).trans rfl; have hcz45_7 : w42.cell? ⟨gb344, 7, none⟩ = some (.int .i64 a0_7) := (blk_cell BK344.out 7).trans rfl; have hcz45_8 : w42.cell? ⟨gb344, 8, none⟩ = some (.int .i64 a0_8) := (blk_cell BK344.out 8).trans rfl; have hcz45_9 : w42.cell? ⟨gb344, 9, none⟩ = some (.bool a0_9) := (blk_cell BK344.out 9).trans rfl; have hcz45_10 : w42.cell? ⟨gb344, 10, none⟩ = some (.int .i64 a0_10) := (blk_cell BK344.out 10).trans rfl; have hcz45_11 : w42.cell? ⟨gb344, 11, none⟩ = some (.string a0_11) := (blk_cell BK344.out 11).trans rfl; have hcz45_12 : w42.cell? ⟨gb344, 12, none⟩ = some (.string a0_12) := (blk_cell BK344.out 12).trans rfl; have hfz45_0 := blk_frozen BK344.out 0; have hfz45_1 := blk_frozen BK344.out 1; have hfz45_2 := blk_frozen BK344.out 2; have hfz45_3 := blk_frozen BK344.out 3; have hfz45_4 := blk_frozen BK344.out 4; have hfz45_5 := blk_frozen BK344.out 5; have hfz45_6 := blk_frozen BK344.out 6; have hfz45_7 := blk_frozen BK344.out 7; have hfz45_8 := blk_frozen BK344.out 8; have hfz45_9 := blk_frozen BK344.out 9; have hfz45_10 := blk_frozen BK344.out 10; have hfz45_11 := blk_frozen BK344.out 11; have hfz45_12 := blk_frozen BK344.out 12; obtain ⟨Ao46, co46, eo46⟩ := Kd.R_slice HO_6.out; subst eo46))
         repeat (go_quiet (first | (go_at_call 20; (with_reducible refine (giroref39_Legs.calls a0_0 a0_1 a0_2 a0_3 a0_4 a0_5 a0_6 a0_7 a0_8 a0_9 a0_10 a0_11 a0_12 t381 _ A23.out).mono ?_); rintro e w42 ⟨v382, rfl, ho0, hb⟩; have n0_ := Aside0.mk (Kd.R_below (by (with_reducible repeat (first | apply Kd.R_alloc | apply Kd.R_drewN | apply Kd.R_drew)); exact HO_4.out) hb); have n1_ := Aside0.mk (Kd.R_below (by (with_reducible repeat (first | apply Kd.R_alloc | apply Kd.R_drewN | apply Kd.R_drew)); exact HO_6.out) hb); have n2_ := Aside0.mk (Kd.R_lower ho0 (below_size (by repeat (first | (with_reducible first | exact HB.out | apply below_alloc | apply pw_below_drewN | apply below_drew1 | refine below_set ?_ GE344.out) | exact HB.out)))); have n3_ := Aside0.mk (blk_below (g := gb344) (o := .cells #[.int .i64 a0_0, .string a0_1, .string a0_2, .string a0_3, .int .i64 a0_4, .int .i64 a0_5, .int .i64 a0_6, .int .i64 a0_7, .int .i64 a0_8, .bool a0_9, .int .i64 a0_10, .string a0_11, .string a0_12] 24 (0, 0)) (by (with_reducible repeat (first | refine blk_drewN ?_ _ | refine blk_drew ?_ | refine blk_alloc ?_ _)); exact BK344.out) hb); have n4_ := Aside0.mk (below_step (by repeat (first | (with_reducible first | exact HB.out | apply below_alloc | apply pw_below_drewN | apply below_drew1 | refine below_set ?_ GE344.out) | exact HB.out)) hb); clear HO_4; clear HO_6; clear BK344; clear HB; have HO_4 := n0_; have HO_6 := n1_; have HO383 := n2_; have BK344 := n3_; have HB := n4_; clear n0_ n1_ n2_ n3_ n4_; (try clear hb); (try clear hb2); (try clear hk); (try clear hi); (try clear ho0); obtain ⟨Ao43, co43, eo43⟩ := Kd.R_slice HO_4.out; subst eo43; obtain ⟨Ao44, co44, eo44⟩ := Kd.R_slice HO383.out; subst eo44) | (go_at_call 17; (with_reducible refine (girolaw39_legs.calls kj8 _ _ t360 _ _ t381 true _ ?side1 ?side2 ?side3 ?side4 A24.out).mono ?_); (case side1 => repeat (first | exact (Kd.R_reads' HO_4.out).2.2 | (with_reducible refine Kd.C_alloc ?_ _) | (with_reducible refine Kd.C_drewN ?_ _) | (with_reducible refine Kd.C_drew ?_))); (case side2 => exact (Kd.R_reads' HO_4.out).2.1); (case side3 => repeat (first | exact (Kd.R_reads' HO383.out).2.2 | (with_reducible refine Kd.C_alloc ?_ _) | (with_reducible refine Kd.C_drewN ?_ _) | (with_reducible refine Kd.C_drew ?_))); (case side4 => exact (Kd.R_reads' HO383.out).2.1); rintro e w' ⟨rfl, ⟨nd, rfl⟩⟩; (try first | exact ⟨rfl, _, World.drewN_drewN _ _ _⟩ | exact ⟨rfl, _, Eq.trans (World.drewN_drewN _ _ _) (congrArg (World.drewN _) (Nat.add_assoc _ _ _))⟩); have hcz45_0 : w42.cell? ⟨gb344, 0, none⟩ = some (.int .i64 a0_0) := (blk_cell BK344.out 0).trans rfl; have hcz45_1 : w42.cell? ⟨gb344, 1, none⟩ = some (.string a0_1) := (blk_cell BK344.out 1).trans rfl; have hcz45_2 : w42.cell? ⟨gb344, 2, none⟩ = some (.string a0_2) := (blk_cell BK344.out 2).trans rfl; have hcz45_3 : w42.cell? ⟨gb344, 3, none⟩ = some (.string a0_3) := (blk_cell BK344.out 3).trans rfl; have hcz45_4 : w42.cell? ⟨gb344, 4, none⟩ = some (.int .i64 a0_4) := (blk_cell BK344.out 4).trans rfl; have hcz45_5 : w42.cell? ⟨gb344, 5, none⟩ = some (.int .i64 a0_5) := (blk_cell BK344.out 5).trans rfl; have hcz45_6 : w42.cell? ⟨gb344, 6, none⟩ = some (.int .i64 a0_6) := (blk_cell BK344.out 6).trans rfl; have hcz45_7 : w42.cell? ⟨gb344, 7, none⟩ = some (.int .i64 a0_7) := (blk_cell BK344.out 7).trans rfl; have hcz45_8 : w42.cell? ⟨gb344, 8, none⟩ = some (.int .i64 a0_8) := (blk_cell BK344.out 8).trans rfl; have hcz45_9 : w42.cell? ⟨gb344, 9, none⟩ = some (.bool a0_9) := (blk_cell BK344.out 9).trans rfl; have hcz45_10 : w42.cell? ⟨gb344, 10, none⟩ = some (.int .i64 a0_10) := (blk_cell BK344.out 10).trans rfl; have hcz45_11 : w42.cell? ⟨gb344, 11, none⟩ = some (.string a0_11) := (blk_cell BK344.out 11).trans rfl; have hcz45_12 : w42.cell? ⟨gb344, 12, none⟩ = some (.string a0_12) := (blk_cell BK344.out 12).trans rfl; have hfz45_0 := blk_frozen BK344.out 0; have hfz45_1 := blk_frozen BK344.out 1; have hfz45_2 := blk_frozen BK344.out 2; have hfz45_3 := blk_frozen BK344.out 3; have hfz45_4 := blk_frozen BK344.out 4; have hfz45_5 := blk_frozen BK344.out 5; have hfz45_6 := blk_frozen BK344.out 6; have hfz45_7 := blk_frozen BK344.out 7; have hfz45_8 := blk_frozen BK344.out 8; have hfz45_9 := blk_frozen BK344.out 9; have hfz45_10 := blk_frozen BK344.out 10; have hfz45_11 := blk_frozen BK344.out 11; have hfz45_12 := blk_frozen BK344.out 12; obtain ⟨Ao46, co46, eo46⟩ := Kd.R_slice HO_6.out; subst eo46)); try go_wp2_with (first | (go_at_call 20; (with_reducible refine (giroref39_Legs.calls a0_0 a0_1 a0_2 a0_3 a0_4 a0_5 a0_6 a0_7 a0_8 a0_9 a0_10 a0_11 a0_12 t381 _ A23.out).mono ?_); rintro e w42 ⟨v382, rfl, ho0, hb⟩; have n0_ := Aside0.mk (Kd.R_below (by (with_reducible repeat (first | apply Kd.R_alloc | apply Kd.R_drewN | apply Kd.R_drew)); exact HO_4.out) hb); have n1_ := Aside0.mk (Kd.R_below (by (with_reducible repeat (first | apply Kd.R_alloc | apply Kd.R_drewN | apply Kd.R_drew)); exact HO_6.out) hb); have n2_ := Aside0.mk (Kd.R_lower ho0 (below_size (by repeat (first | (with_reducible first | exact HB.out | apply below_alloc | apply pw_below_drewN | apply below_drew1 | refine below_set ?_ GE344.out) | exact HB.out)))); have n3_ := Aside0.mk (blk_below (g := gb344) (o := .cells #[.int .i64 a0_0, .string a0_1, .string a0_2, .string a0_3, .int .i64 a0_4, .int .i64 a0_5, .int .i64 a0_6, .int .i64 a0_7, .int .i64 a0_8, .bool a0_9, .int .i64 a0_10, .string a0_11, .string a0_12] 24 (0, 0)) (by (with_reducible repeat (first | refine blk_drewN ?_ _ | refine blk_drew ?_ | refine blk_alloc ?_ _)); exact BK344.out) hb); have n4_ := Aside0.mk (below_step (by repeat (first | (with_reducible first | exact HB.out | apply below_alloc | apply pw_below_drewN | apply below_drew1 | refine below_set ?_ GE344.out) | exact HB.out)) hb); clear HO_4; clear HO_6; clear BK344; clear HB; have HO_4 := n0_; have HO_6 := n1_; have HO383 := n2_; have BK344 := n3_; have HB := n4_; clear n0_ n1_ n2_ n3_ n4_; (try clear hb); (try clear hb2); (try clear hk); (try clear hi); (try clear ho0); obtain ⟨Ao43, co43, eo43⟩ := Kd.R_slice HO_4.out; subst eo43; obtain ⟨Ao44, co44, eo44⟩ := Kd.R_slice HO383.out; subst eo44) | (go_at_call 17; (with_reducible refine (girolaw39_legs.calls kj8 _ _ t360 _ _ t381 true _ ?side1 ?side2 ?side3 ?side4 A24.out).mono ?_); (case side1 => repeat (first | exact (Kd.R_reads' HO_4.out).2.2 | (with_reducible refine Kd.C_alloc ?_ _) | (with_reducible refine Kd.C_drewN ?_ _) | (with_reducible refine Kd.C_drew ?_))); (case side2 => exact (Kd.R_reads' HO_4.out).2.1); (case side3 => repeat (first | exact (Kd.R_reads' HO383.out).2.2 | (with_reducible refine Kd.C_alloc ?_ _) | (with_reducible refine Kd.C_drewN ?_ _) | (with_reducible refine Kd.C_drew ?_))); (case side4 => exact (Kd.R_reads' HO383.out).2.1); rintro e w' ⟨rfl, ⟨nd, rfl⟩⟩; (try first | exact ⟨rfl, _, World.drewN_drewN _ _ _⟩ | exact ⟨rfl, _, Eq.trans (World.drewN_drewN _ _ _) (congrArg (World.drewN _) (Nat.add_assoc _ _ _))⟩); have hcz45_0 : w42.cell? ⟨gb344, 0, none⟩ = some (.int .i64 a0_0) := (blk_cell BK344.out 0).trans rfl; have hcz45_1 : w42.cell? ⟨gb344, 1, none⟩ = some (.string a0_1) := (blk_cell BK344.out 1).trans rfl; have hcz45_2 : w42.cell? ⟨gb344, 2, none⟩ = some (.string a0_2) := (blk_cell BK344.out 2).trans rfl; have hcz45_3 : w42.cell? ⟨gb344, 3, none⟩ = some (.string a0_3) := (blk_cell BK344.out 3).trans rfl; have hcz45_4 : w42.cell? ⟨gb344, 4, none⟩ = some (.int .i64 a0_4) := (blk_cell BK344.out 4).trans rfl; have hcz45_5 : w42.cell? ⟨gb344, 5, none⟩ = some (.int .i64 a0_5) := (blk_cell BK344.out 5).trans rfl; have hcz45_6 : w42.cell? ⟨gb344, 6, none⟩ = some (.int .i64 a0_6) := (blk_cell BK344.out 6).trans rfl; have hcz45_7 : w42.cell? ⟨gb344, 7, none⟩ = some (.int .i64 a0_7) := (blk_cell BK344.out 7).trans rfl; have hcz45_8 : w42.cell? ⟨gb344, 8, none⟩ = some (.int .i64 a0_8) := (blk_cell BK344.out 8).trans rfl; have hcz45_9 : w42.cell? ⟨gb344, 9, none⟩ = some (.bool a0_9) := (blk_cell BK344.out 9).trans rfl; have hcz45_10 : w42.cell? ⟨gb344, 10, none⟩ = some (.int .i64 a0_10) := (blk_cell BK344.out 10).trans rfl; have hcz45_11 : w42.cell? ⟨gb344, 11, none⟩ = some (.string a0_11) := (blk_cell BK344.out 11).trans rfl; have hcz45_12 : w42.cell? ⟨gb344, 12, none⟩ = some (.string a0_12) := (blk_cell BK344.out 12).trans rfl; have hfz45_0 := blk_frozen BK344.out 0; have hfz45_1 := blk_frozen BK344.out 1; have hfz45_2 := blk_frozen BK344.out 2; have hfz45_3 := blk_frozen BK344.out 3; have hfz45_4 := blk_frozen BK344.out 4; have hfz45_5 := blk_frozen BK344.out 5; have hfz45_6 := blk_frozen BK344.out 6; have hfz45_7 := blk_frozen BK344.out 7; have hfz45_8 := blk_frozen BK344.out 8; have hfz45_9 := blk_frozen BK344.out 9; have hfz45_10 := blk_frozen BK344.out 10; have hfz45_11 := blk_frozen BK344.out 11; have hfz45_12 := blk_frozen BK344.out 12; obtain ⟨Ao46, co46, eo46⟩ := Kd.R_slice HO_6.out; subst eo46)))
         go_ret
         exact ⟨by first | rfl | (simp [errW_none, errW_some] <;> rfl) | (simp [*, errW_none, errW_some] <;> rfl), by repeat (first | (with_reducible first | exact HB.out | apply below_alloc | apply pw_below_drewN | apply below_drew1 | refine below_set ?_ GE344.out) | exact HB.out)⟩
      ·replace c25 := Bool.eq_false_iff.mpr c25
       subst c25
       have H1 : (some false) = some r := by rw [if_neg (show ¬ (false = true) by decide)] at H; exact H
       clear H
       have H := H1
       clear H1
       obtain rfl := Option.some.inj H
       have hcz47_0 : wc.cell? ⟨gb344, 0, none⟩ = some (.int .i64 a0_0) := (blk_cell BK344.out 0).trans rfl
       have hcz47_1 : wc.cell? ⟨gb344, 1, none⟩ = some (.string a0_1) := (blk_cell BK344.out 1).trans rfl
       have hcz47_2 : wc.cell? ⟨gb344, 2, none⟩ = some (.string a0_2) := (blk_cell BK344.out 2).trans rfl
       have hcz47_3 : wc.cell? ⟨gb344, 3, none⟩ = some (.string a0_3) := (blk_cell BK344.out 3).trans rfl
       have hcz47_4 : wc.cell? ⟨gb344, 4, none⟩ = some (.int .i64 a0_4) := (blk_cell BK344.out 4).trans rfl
       have hcz47_5 : wc.cell? ⟨gb344, 5, none⟩ = some (.int .i64 a0_5) := (blk_cell BK344.out 5).trans rfl
       have hcz47_6 : wc.cell? ⟨gb344, 6, none⟩ = some (.int .i64 a0_6) := (blk_cell BK344.out 6).trans rfl
       have hcz47_7 : wc.cell? ⟨gb344, 7, none⟩ = some (.int .i64 a0_7) := (blk_cell BK344.out 7).trans rfl
       have hcz47_8 : wc.cell? ⟨gb344, 8, none⟩ = some (.int .i64 a0_8) := (blk_cell BK344.out 8).trans rfl
       have hcz47_9 : wc.cell? ⟨gb344, 9, none⟩ = some (.bool a0_9) := (blk_cell BK344.out 9).trans rfl
       have hcz47_10 : wc.cell? ⟨gb344, 10, none⟩ = some (.int .i64 a0_10) := (blk_cell BK344.out 10).trans rfl
       have hcz47_11 : wc.cell? ⟨gb344, 11, none⟩ = some (.string a0_11) := (blk_cell BK344.out 11).trans rfl
       have hcz47_12 : wc.cell? ⟨gb344, 12, none⟩ = some (.string a0_12) := (blk_cell BK344.out 12).trans rfl
       have hfz47_0 := blk_frozen BK344.out 0
       have hfz47_1 := blk_frozen BK344.out 1
       have hfz47_2 := blk_frozen BK344.out 2
       have hfz47_3 := blk_frozen BK344.out 3
       have hfz47_4 := blk_frozen BK344.out 4
       have hfz47_5 := blk_frozen BK344.out 5
       have hfz47_6 := blk_frozen BK344.out 6
       have hfz47_7 := blk_frozen BK344.out 7
       have hfz47_8 := blk_frozen BK344.out 8
       have hfz47_9 := blk_frozen BK344.out 9
       have hfz47_10 := blk_frozen BK344.out 10
       have hfz47_11 := blk_frozen BK344.out 11
       have hfz47_12 := blk_frozen BK344.out 12
       go_wp2_with (first | (go_at_call 20; (with_reducible refine (giroref39_Legs.calls a0_0 a0_1 a0_2 a0_3 a0_4 a0_5 a0_6 a0_7 a0_8 a0_9 a0_10 a0_11 a0_12 t381 _ A23.out).mono ?_); rintro e w48 ⟨v382, rfl, ho0, hb⟩; have n0_ := Aside0.mk (Kd.R_below (by (with_reducible repeat (first | apply Kd.R_alloc | apply Kd.R_drewN | apply Kd.R_drew)); exact HO_4.out) hb); have n1_ := Aside0.mk (Kd.R_below (by (with_reducible repeat (first | apply Kd.R_alloc | apply Kd.R_drewN | apply Kd.R_drew)); exact HO_6.out) hb); have n2_ := Aside0.mk (Kd.R_lower ho0 (below_size (by repeat (first | (with_reducible first | exact HB.out | apply below_alloc | apply pw_below_drewN | apply below_drew1 | refine below_set ?_ GE344.out) | exact HB.out)))); have n3_ := Aside0.mk (blk_below (g := gb344) (o := .cells #[.int .i64 a0_0, .string a0_1, .string a0_2, .string a0_3, .int .i64 a0_4, .int .i64 a0_5, .int .i64 a0_6, .int .i64 a0_7, .int .i64 a0_8, .bool a0_9, .int .i64 a0_10, .string a0_11, .string a0_12] 24 (0, 0)) (by (with_reducible repeat (first | refine blk_drewN ?_ _ | refine blk_drew ?_ | refine blk_alloc ?_ _)); exact BK344.out) hb); have n4_ := Aside0.mk (below_step (by repeat (first | (with_reducible first | exact HB.out | apply below_alloc | apply pw_below_drewN | apply below_drew1 | refine below_set ?_ GE344.out) | exact HB.out)) hb); clear HO_4; clear HO_6; clear BK344; clear HB; have HO_4 := n0_; have HO_6 := n1_; have HO383 := n2_; have BK344 := n3_; have HB := n4_; clear n0_ n1_ n2_ n3_ n4_; (try clear hb); (try clear hb2); (try clear hk); (try clear hi); (try clear ho0); obtain ⟨Ao49, co49, eo49⟩ := Kd.R_slice HO_4.out; subst eo49; obtain ⟨Ao50, co50, eo50⟩ := Kd.R_slice HO383.out; subst eo50) | (go_at_call 17; (with_reducible refine (girolaw39_legs.calls kj8 _ _ t360 _ _ t381 false _ ?side1 ?side2 ?side3 ?side4 A24.out).mono ?_); (case side1 => repeat (first | exact (Kd.R_reads' HO_4.out).2.2 | (with_reducible refine Kd.C_alloc ?_ _) | (with_reducible refine Kd.C_drewN ?_ _) | (with_reducible refine Kd.C_drew ?_))); (case side2 => exact (Kd.R_reads' HO_4.out).2.1); (case side3 => repeat (first | exact (Kd.R_reads' HO383.out).2.2 | (with_reducible refine Kd.C_alloc ?_ _) | (with_reducible refine Kd.C_drewN ?_ _) | (with_reducible refine Kd.C_drew ?_))); (case side4 => exact (Kd.R_reads' HO383.out).2.1); rintro e w' ⟨rfl, ⟨nd, rfl⟩⟩; (try first | exact ⟨rfl, _, World.drewN_drewN _ _ _⟩ | exact ⟨rfl, _, Eq.trans (World.drewN_drewN _ _ _) (congrArg (World.drewN _) (Nat.add_assoc _ _ _))⟩)))
       repeat (go_quiet (first | (go_at_call 20; (with_reducible refine (giroref39_Legs.calls a0_0 a0_1 a0_2 a0_3 a0_4 a0_5 a0_6 a0_7 a0_8 a0_9 a0_10 a0_11 a0_12 t381 _ A23.out).mono ?_); rintro e w48 ⟨v382, rfl, ho0, hb⟩; have n0_ := Aside0.mk (Kd.R_below (by (with_reducible repeat (first | apply Kd.R_alloc | apply Kd.R_drewN | apply Kd.R_drew)); exact HO_4.out) hb); have n1_ := Aside0.mk (Kd.R_below (by (with_reducible repeat (first | apply Kd.R_alloc | apply Kd.R_drewN | apply Kd.R_drew)); exact HO_6.out) hb); have n2_ := Aside0.mk (Kd.R_lower ho0 (below_size (by repeat (first | (with_reducible first | exact HB.out | apply below_alloc | apply pw_below_drewN | apply below_drew1 | refine below_set ?_ GE344.out) | exact HB.out)))); have n3_ := Aside0.mk (blk_below (g := gb344) (o := .cells #[.int .i64 a0_0, .string a0_1, .string a0_2, .string a0_3, .int .i64 a0_4, .int .i64 a0_5, .int .i64 a0_6, .int .i64 a0_7, .int .i64 a0_8, .bool a0_9, .int .i64 a0_10, .string a0_11, .string a0_12] 24 (0, 0)) (by (with_reducible repeat (first | refine blk_drewN ?_ _ | refine blk_drew ?_ | refine blk_alloc ?_ _)); exact BK344.out) hb); have n4_ := Aside0.mk (below_step (by repeat (first | (with_reducible first | exact HB.out | apply below_alloc | apply pw_below_drewN | apply below_drew1 | refine below_set ?_ GE344.out) | exact HB.out)) hb); clear HO_4; clear HO_6; clear BK344; clear HB; have HO_4 := n0_; have HO_6 := n1_; have HO383 := n2_; have BK344 := n3_; have HB := n4_; clear n0_ n1_ n2_ n3_ n4_; (try clear hb); (try clear hb2); (try clear hk); (try clear hi); (try clear ho0); obtain ⟨Ao49, co49, eo49⟩ := Kd.R_slice HO_4.out; subst eo49; obtain ⟨Ao50, co50, eo50⟩ := Kd.R_slice HO383.out; subst eo50) | (go_at_call 17; (with_reducible refine (girolaw39_legs.calls kj8 _ _ t360 _ _ t381 false _ ?side1 ?side2 ?side3 ?side4 A24.out).mono ?_); (case side1 => repeat (first | exact (Kd.R_reads' HO_4.out).2.2 | (with_reducible refine Kd.C_alloc ?_ _) | (with_reducible refine Kd.C_drewN ?_ _) | (with_reducible refine Kd.C_drew ?_))); (case side2 => exact (Kd.R_reads' HO_4.out).2.1); (case side3 => repeat (first | exact (Kd.R_reads' HO383.out).2.2 | (with_reducible refine Kd.C_alloc ?_ _) | (with_reducible refine Kd.C_drewN ?_ _) | (with_reducible refine Kd.C_drew ?_))); (case side4 => exact (Kd.R_reads' HO383.out).2.1); rintro e w' ⟨rfl, ⟨nd, rfl⟩⟩; (try first | exact ⟨rfl, _, World.drewN_drewN _ _ _⟩ | exact ⟨rfl, _, Eq.trans (World.drewN_drewN _ _ _) (congrArg (World.drewN _) (Nat.add_assoc _ _ _))⟩))); try go_wp2_with (first | (go_at_call 20; (with_reducible refine (giroref39_Legs.calls a0_0 a0_1 a0_2 a0_3 a0_4 a0_5 a0_6 a0_7 a0_8 a0_9 a0_10 a0_11 a0_12 t381 _ A23.out).mono ?_); rintro e w48 ⟨v382, rfl, ho0, hb⟩; have n0_ := Aside0.mk (Kd.R_below (by (with_reducible repeat (first | apply Kd.R_alloc | apply Kd.R_drewN | apply Kd.R_drew)); exact HO_4.out) hb); have n1_ := Aside0.mk (Kd.R_below (by (with_reducible repeat (first | apply Kd.R_alloc | apply Kd.R_drewN | apply Kd.R_drew)); exact HO_6.out) hb); have n2_ := Aside0.mk (Kd.R_lower ho0 (below_size (by repeat (first | (with_reducible first | exact HB.out | apply below_alloc | apply pw_below_drewN | apply below_drew1 | refine below_set ?_ GE344.out) | exact HB.out)))); have n3_ := Aside0.mk (blk_below (g := gb344) (o := .cells #[.int .i64 a0_0, .string a0_1, .string a0_2, .string a0_3, .int .i64 a0_4, .int .i64 a0_5, .int .i64 a0_6, .int .i64 a0_7, .int .i64 a0_8, .bool a0_9, .int .i64 a0_10, .string a0_11, .string a0_12] 24 (0, 0)) (by (with_reducible repeat (first | refine blk_drewN ?_ _ | refine blk_drew ?_ | refine blk_alloc ?_ _)); exact BK344.out) hb); have n4_ := Aside0.mk (below_step (by repeat (first | (with_reducible first | exact HB.out | apply below_alloc | apply pw_below_drewN | apply below_drew1 | refine below_set ?_ GE344.out) | exact HB.out)) hb); clear HO_4; clear HO_6; clear BK344; clear HB; have HO_4 := n0_; have HO_6 := n1_; have HO383 := n2_; have BK344 := n3_; have HB := n4_; clear n0_ n1_ n2_ n3_ n4_; (try clear hb); (try clear hb2); (try clear hk); (try clear hi); (try clear ho0); obtain ⟨Ao49, co49, eo49⟩ := Kd.R_slice HO_4.out; subst eo49; obtain ⟨Ao50, co50, eo50⟩ := Kd.R_slice HO383.out; subst eo50) | (go_at_call 17; (with_reducible refine (girolaw39_legs.calls kj8 _ _ t360 _ _ t381 false _ ?side1 ?side2 ?side3 ?side4 A24.out).mono ?_); (case side1 => repeat (first | exact (Kd.R_reads' HO_4.out).2.2 | (with_reducible refine Kd.C_alloc ?_ _) | (with_reducible refine Kd.C_drewN ?_ _) | (with_reducible refine Kd.C_drew ?_))); (case side2 => exact (Kd.R_reads' HO_4.out).2.1); (case side3 => repeat (first | exact (Kd.R_reads' HO383.out).2.2 | (with_reducible refine Kd.C_alloc ?_ _) | (with_reducible refine Kd.C_drewN ?_ _) | (with_reducible refine Kd.C_drew ?_))); (case side4 => exact (Kd.R_reads' HO383.out).2.1); rintro e w' ⟨rfl, ⟨nd, rfl⟩⟩; (try first | exact ⟨rfl, _, World.drewN_drewN _ _ _⟩ | exact ⟨rfl, _, Eq.trans (World.drewN_drewN _ _ _) (congrArg (World.drewN _) (Nat.add_assoc _ _ _))⟩))))
       go_ret
       exact ⟨by first | rfl | (simp [errW_none, errW_some] <;> rfl) | (simp [*, errW_none, errW_some] <;> rfl), by repeat (first | (with_reducible first | exact HB.out | apply below_alloc | apply pw_below_drewN | apply below_drew1 | refine below_set ?_ GE344.out) | exact HB.out)⟩
     ·rw [if_neg c22] at H
      have c22b0 : (t346 == 0) = false := beq_eq_false_iff_ne.mpr c22
      have c22b1 : (t346 != 0) = true := bne_iff_ne.mpr c22
      by_cases c51 : (t360.length : Int) = 0
      ·rw [if_pos c51] at H
       have c51b0 : ((t360.length : Int) == 0) = true := beq_iff_eq.mpr c51
       have c51b1 : ((t360.length : Int) != 0) = false := bne_eq_false_iff_eq.mpr c51
       clear c51
       obtain rfl := Option.some.inj H
       obtain ⟨Ao52, co52, eo52⟩ := Kd.R_slice HO_4.out
       subst eo52
       obtain ⟨Ao53, co53, eo53⟩ := Kd.R_slice HO_6.out
       subst eo53
       go_wp2
       repeat (go_quiet (fail); try go_wp2)
       go_ret
       exact ⟨by first | rfl | (simp [errW_none, errW_some] <;> rfl) | (simp [*, errW_none, errW_some] <;> rfl), by repeat (first | (with_reducible first | exact HB.out | apply below_alloc | apply pw_below_drewN | apply below_drew1 | refine below_set ?_ GE344.out) | exact HB.out)⟩
      ·rw [if_neg c51] at H
       have c51b0 : ((t360.length : Int) == 0) = false := beq_eq_false_iff_ne.mpr c51
       have c51b1 : ((t360.length : Int) != 0) = true := bne_iff_ne.mpr c51
       have c51b2 : ¬ (t360 = []) := fun h_ => c51 (by rw [h_]; rfl)
       obtain rfl := Option.some.inj H
       obtain ⟨Ao54, co54, eo54⟩ := Kd.R_slice HO_4.out
       subst eo54
       go_wp2
       repeat (go_quiet (fail); try go_wp2)
       go_ret
       exact ⟨by first | rfl | (simp [errW_none, errW_some] <;> rfl) | (simp [*, errW_none, errW_some] <;> rfl), by repeat (first | (with_reducible first | exact HB.out | apply below_alloc | apply pw_below_drewN | apply below_drew1 | refine below_set ?_ GE344.out) | exact HB.out)⟩
 ·replace c3 := Bool.eq_false_iff.mpr c3
  subst c3
  have H1 : (some false) = some r := by rw [if_neg (show ¬ (false = true) by decide)] at H; exact H
  clear H
  have H := H1
  clear H1
  obtain rfl := Option.some.inj H
  go_enter Tryd.func6, Tryd.ntmps6
  go_wp2_with (first | ((with_reducible refine gate_dst (N := 1) rfl ?_); (try (refine gate_guard (by rfl) ?_; dsimp only)); refine box_event ?hg (N := 1) ?hd (cs := #[.int .i64 a0_0, .string a0_1, .string a0_2, .string a0_3, .int .i64 a0_4, .int .i64 a0_5, .int .i64 a0_6, .int .i64 a0_7, .int .i64 a0_8, .bool a0_9, .int .i64 a0_10, .string a0_11, .string a0_12]) (t := 24) ?hr ?_; (case hd => rfl); (case hg => rfl); (case hr => first | (go_simp; done) | (go_simp; rfl)); intro gb344 hg w55 hbox hb; have n0_ := Aside0.mk (below_step (by repeat (first | (with_reducible first | exact HB.out | apply below_alloc | apply pw_below_drewN | apply below_drew1) | exact HB.out)) hb); have n1_ := Aside0.mk (hbox); have n2_ := Aside0.mk ((by rw [hg]; exact (below_size (by repeat (first | (with_reducible first | exact HB.out | apply below_alloc | apply pw_below_drewN | apply below_drew1) | exact HB.out))) : w.heap.size ≤ gb344)); have n3_ := Aside0.mk ((by rw [hg]; exact (below_size (by repeat (first | (with_reducible first | exact HB.out | apply below_alloc | apply pw_below_drewN | apply below_drew1) | exact HB.out))) : w.heap.size ≤ gb344)); clear HB; have HB := n0_; have BK344 := n1_; have GW344 := n2_; have GE344 := n3_; clear n0_ n1_ n2_ n3_; clear hb hbox hg) | (go_at_call 8; (with_reducible refine (girolaw39_known.calls k  false _ A2.out).mono ?_); rintro e w56 ⟨rfl, hb⟩; have n0_ := Aside0.mk (blk_below (g := gb344) (o := .cells #[.int .i64 a0_0, .string a0_1, .string a0_2, .string a0_3, .int .i64 a0_4, .int .i64 a0_5, .int .i64 a0_6, .int .i64 a0_7, .int .i64 a0_8, .bool a0_9, .int .i64 a0_10, .string a0_11, .string a0_12] 24 (0, 0)) (by (with_reducible repeat (first | refine blk_drewN ?_ _ | refine blk_drew ?_ | refine blk_alloc ?_ _)); exact BK344.out) hb); have n1_ := Aside0.mk (below_step (by repeat (first | (with_reducible first | exact HB.out | apply below_alloc | apply pw_below_drewN | apply below_drew1 | refine below_set ?_ GE344.out) | exact HB.out)) hb); clear BK344; clear HB; have BK344 := n0_; have HB := n1_; clear n0_ n1_; (try clear hb); (try clear hb2); (try clear hk); (try clear hi)))
  repeat (go_quiet (first | ((with_reducible refine gate_dst (N := 1) rfl ?_); (try (refine gate_guard (by rfl) ?_; dsimp only)); refine box_event ?hg (N := 1) ?hd (cs := #[.int .i64 a0_0, .string a0_1, .string a0_2, .string a0_3, .int .i64 a0_4, .int .i64 a0_5, .int .i64 a0_6, .int .i64 a0_7, .int .i64 a0_8, .bool a0_9, .int .i64 a0_10, .string a0_11, .string a0_12]) (t := 24) ?hr ?_; (case hd => rfl); (case hg => rfl); (case hr => first | (go_simp; done) | (go_simp; rfl)); intro gb344 hg w55 hbox hb; have n0_ := Aside0.mk (below_step (by repeat (first | (with_reducible first | exact HB.out | apply below_alloc | apply pw_below_drewN | apply below_drew1) | exact HB.out)) hb); have n1_ := Aside0.mk (hbox); have n2_ := Aside0.mk ((by rw [hg]; exact (below_size (by repeat (first | (with_reducible first | exact HB.out | apply below_alloc | apply pw_below_drewN | apply below_drew1) | exact HB.out))) : w.heap.size ≤ gb344)); have n3_ := Aside0.mk ((by rw [hg]; exact (below_size (by repeat (first | (with_reducible first | exact HB.out | apply below_alloc | apply pw_below_drewN | apply below_drew1) | exact HB.out))) : w.heap.size ≤ gb344)); clear HB; have HB := n0_; have BK344 := n1_; have GW344 := n2_; have GE344 := n3_; clear n0_ n1_ n2_ n3_; clear hb hbox hg) | (go_at_call 8; (with_reducible refine (girolaw39_known.calls k  false _ A2.out).mono ?_); rintro e w56 ⟨rfl, hb⟩; have n0_ := Aside0.mk (blk_below (g := gb344) (o := .cells #[.int .i64 a0_0, .string a0_1, .string a0_2, .string a0_3, .int .i64 a0_4, .int .i64 a0_5, .int .i64 a0_6, .int .i64 a0_7, .int .i64 a0_8, .bool a0_9, .int .i64 a0_10, .string a0_11, .string a0_12] 24 (0, 0)) (by (with_reducible repeat (first | refine blk_drewN ?_ _ | refine blk_drew ?_ | refine blk_alloc ?_ _)); exact BK344.out) hb); have n1_ := Aside0.mk (below_step (by repeat (first | (with_reducible first | exact HB.out | apply below_alloc | apply pw_below_drewN | apply below_drew1 | refine below_set ?_ GE344.out) | exact HB.out)) hb); clear BK344; clear HB; have BK344 := n0_; have HB := n1_; clear n0_ n1_; (try clear hb); (try clear hb2); (try clear hk); (try clear hi))); try go_wp2_with (first | ((with_reducible refine gate_dst (N := 1) rfl ?_); (try (refine gate_guard (by rfl) ?_; dsimp only)); refine box_event ?hg (N := 1) ?hd (cs := #[.int .i64 a0_0, .string a0_1, .string a0_2, .string a0_3, .int .i64 a0_4, .int .i64 a0_5, .int .i64 a0_6, .int .i64 a0_7, .int .i64 a0_8, .bool a0_9, .int .i64 a0_10, .string a0_11, .string a0_12]) (t := 24) ?hr ?_; (case hd => rfl); (case hg => rfl); (case hr => first | (go_simp; done) | (go_simp; rfl)); intro gb344 hg w55 hbox hb; have n0_ := Aside0.mk (below_step (by repeat (first | (with_reducible first | exact HB.out | apply below_alloc | apply pw_below_drewN | apply below_drew1) | exact HB.out)) hb); have n1_ := Aside0.mk (hbox); have n2_ := Aside0.mk ((by rw [hg]; exact (below_size (by repeat (first | (with_reducible first | exact HB.out | apply below_alloc | apply pw_below_drewN | apply below_drew1) | exact HB.out))) : w.heap.size ≤ gb344)); have n3_ := Aside0.mk ((by rw [hg]; exact (below_size (by repeat (first | (with_reducible first | exact HB.out | apply below_alloc | apply pw_below_drewN | apply below_drew1) | exact HB.out))) : w.heap.size ≤ gb344)); clear HB; have HB := n0_; have BK344 := n1_; have GW344 := n2_; have GE344 := n3_; clear n0_ n1_ n2_ n3_; clear hb hbox hg) | (go_at_call 8; (with_reducible refine (girolaw39_known.calls k  false _ A2.out).mono ?_); rintro e w56 ⟨rfl, hb⟩; have n0_ := Aside0.mk (blk_below (g := gb344) (o := .cells #[.int .i64 a0_0, .string a0_1, .string a0_2, .string a0_3, .int .i64 a0_4, .int .i64 a0_5, .int .i64 a0_6, .int .i64 a0_7, .int .i64 a0_8, .bool a0_9, .int .i64 a0_10, .string a0_11, .string a0_12] 24 (0, 0)) (by (with_reducible repeat (first | refine blk_drewN ?_ _ | refine blk_drew ?_ | refine blk_alloc ?_ _)); exact BK344.out) hb); have n1_ := Aside0.mk (below_step (by repeat (first | (with_reducible first | exact HB.out | apply below_alloc | apply pw_below_drewN | apply below_drew1 | refine below_set ?_ GE344.out) | exact HB.out)) hb); clear BK344; clear HB; have BK344 := n0_; have HB := n1_; clear n0_ n1_; (try clear hb); (try clear hb2); (try clear hk); (try clear hi))))
  go_ret
  exact ⟨by first | rfl | (simp [errW_none, errW_some] <;> rfl) | (simp [*, errW_none, errW_some] <;> rfl), by repeat (first | (with_reducible first | exact HB.out | apply below_alloc | apply pw_below_drewN | apply below_drew1 | refine below_set ?_ GE344.out) | exact HB.out)⟩
end Go.Proofs.YtpclapnmiacfpaaDoor.Q
end
section
namespace Go.Proofs.YtpclapnmiacfpaaDoor.Q
open Go.RowKit Go.Proofs.YtpclapnmiacfpaaDoorW.PrintWords Go.Proofs.YtpclapnmiacfpaaDoorW.PrintLast Go.Proofs.YtpclapnmiacfpaaDoorW.PrintMore
attribute [local go_sem] max2_int min2_int max_two min_two max_three min_three max_four min_four
set_option linter.unusedVariables false
set_option linter.unusedSimpArgs false
def giroref39_Postings.l0 : Nat → Int → List (S77) → List (S49) → Int → Option ((List (S77)))
 | 0, _, _, _, _ => none
 | k + 1, x1, x5, x6, x7 => if x7 < (x6.length : Int) then (if 0 ≤ x7 then (if x7 = 0 then ((some (([(⟨(⟨(rd_T49 x6 x7).f0, x1, (rd_T49 x6 x7).f2⟩ : S75), wrap64 (-((rd_T49 x6 x7).f3))⟩ : S77), (⟨(⟨(rd_T49 x6 x7).f1, 0, (rd_T49 x6 x7).f2⟩ : S75), (rd_T49 x6 x7).f3⟩ : S77)] : List (S77)) : List (S77))).bind fun y198 => (if x5.length + y198.length < 2932031007402 then (giroref39_Postings.l0 k x1 (x5 ++ y198) x6 (wrap64 (x7 + 1))) else (none))) else ((some (([(⟨(⟨(rd_T49 x6 x7).f0, 0, (rd_T49 x6 x7).f2⟩ : S75), wrap64 (-((rd_T49 x6 x7).f3))⟩ : S77), (⟨(⟨(rd_T49 x6 x7).f1, 0, (rd_T49 x6 x7).f2⟩ : S75), (rd_T49 x6 x7).f3⟩ : S77)] : List (S77)) : List (S77))).bind fun y208 => (if x5.length + y208.length < 2932031007402 then (giroref39_Postings.l0 k x1 (x5 ++ y208) x6 (wrap64 (x7 + 1))) else (none)))) else (none)) else (some x5)
def giroref39_Postings.f (k : Nat) (a0_0 : Int) (a0_1 : ByteArray) (a0_2 : ByteArray) (a0_3 : ByteArray) (a0_4 : Int) (a0_5 : Int) (a0_6 : Int) (a0_7 : Int) (a0_8 : Int) (a0_9 : Bool) (a0_10 : Int) (a0_11 : ByteArray) (a0_12 : ByteArray) (a1 : Int) : Option ((List (S77))) := (giroref39_Legs.f a0_0 a0_1 a0_2 a0_3 a0_4 a0_5 a0_6 a0_7 a0_8 a0_9 a0_10 a0_11 a0_12).bind fun t188 => (giroref39_Postings.l0 k a1 ([] : List (S77)) t188 0)
theorem giroref39_Postings.mono_l : ∀ k, (∀ y0 y1 y2 y3, LeO (giroref39_Postings.l0 k y0 y1 y2 y3) (giroref39_Postings.l0 (k + 1) y0 y1 y2 y3))
 | 0 => fun _ _ _ _ r h => by simp [giroref39_Postings.l0] at h
 | k + 1 => by
  have ih0 := giroref39_Postings.mono_l k
  ·intro y0 y1 y2 y3
   unfold giroref39_Postings.l0
   repeat' first
   | (with_reducible exact ih0 _ _ _ _)
   | (with_reducible exact LeO.refl _)
   | (with_reducible exact LeO.none _)
   | (with_reducible refine LeO.ite ?_ ?_)
   | (with_reducible refine LeO.bind ?_ (fun _ => ?_))
   | exact ih0 _ _ _ _
   | exact LeO.none _
   | refine LeO.ite ?_ ?_
   | refine LeO.bind ?_ (fun _ => ?_)
theorem giroref39_Postings.mono : ∀ a0 a1 a2 a3 a4 a5 a6 a7 a8 a9 a10 a11 a12 a13 k, LeO (giroref39_Postings.f k a0 a1 a2 a3 a4 a5 a6 a7 a8 a9 a10 a11 a12 a13) (giroref39_Postings.f (k + 1) a0 a1 a2 a3 a4 a5 a6 a7 a8 a9 a10 a11 a12 a13) := by
 intro a0 a1 a2 a3 a4 a5 a6 a7 a8 a9 a10 a11 a12 a13 k
 have ih0 := giroref39_Postings.mono_l k
 unfold giroref39_Postings.f
 repeat' first
   | (with_reducible exact ih0 _ _ _ _)
   | (with_reducible exact LeO.refl _)
   | (with_reducible exact LeO.none _)
   | (with_reducible refine LeO.ite ?_ ?_)
   | (with_reducible refine LeO.bind ?_ (fun _ => ?_))
   | exact ih0 _ _ _ _
   | exact LeO.none _
   | refine LeO.ite ?_ ?_
   | refine LeO.bind ?_ (fun _ => ?_)
def giroref39_Postings.T6 : Bool × List (List Nat × List Nat) := (true, [([], []), ([], []), ([0, 1], [0, 1]), ([2], [2]), ([3], [3]), ([], []), ([], []), ([5, 6], [5, 6]), ([7], [7]), ([8], [8]), ([4, 9], [4, 9]), ([], []), ([11, 10, 0, 1, 2, 3, 4, 5, 6, 7, 8, 9, 10, 11], [10, 11])])
def giroref39_Postings.B6 : List Nat := [0, 0, 3, 7, 15, 0, 0, 96, 224, 480, 1023, 0, 4095]
theorem giroref39_Postings.tab6 : rtab .any (opsOf Tryd.f14 6) = giroref39_Postings.T6 := by kernel_rfl
theorem giroref39_Postings.bits6 : waitsOk giroref39_Postings.T6.2 giroref39_Postings.B6 = true := by kernel_rfl
def giroref39_Postings.T9 : Bool × List (List Nat × List Nat) := (true, [([], []), ([], []), ([], []), ([], []), ([2, 3], [2, 3]), ([4], [4]), ([5], [5]), ([6], [6]), ([1, 7], [1, 7]), ([], []), ([], []), ([9, 10], [9, 10]), ([11], [11]), ([12], [12]), ([], []), ([], []), ([14, 15], [14, 15]), ([16], [16]), ([17], [17]), ([13, 18], [13, 18]), ([], []), ([], []), ([20, 21], [20, 21]), ([22], [22]), ([23], [23]), ([19, 24], [19, 24]), ([8, 25], [8, 25]), ([0, 26], [0, 26]), ([27, 27, 0, 1, 2, 3, 4, 5, 6, 7, 8, 9, 10, 11, 12, 13, 14, 15, 16, 17, 18, 19, 20, 21, 22, 23, 24, 25, 26, 27], [0, 27])])
def giroref39_Postings.B9 : List Nat := [0, 0, 0, 0, 12, 28, 60, 124, 254, 0, 0, 1536, 3584, 7680, 0, 0, 49152, 114688, 245760, 523776, 0, 0, 3145728, 7340032, 15728640, 33553920, 67108862, 134217727, 268435455]
theorem giroref39_Postings.tab9 : rtab .any (opsOf Tryd.f14 9) = giroref39_Postings.T9 := by kernel_rfl
theorem giroref39_Postings.bits9 : waitsOk giroref39_Postings.T9.2 giroref39_Postings.B9 = true := by kernel_rfl
set_option maxHeartbeats 8000000 in
set_option maxRecDepth 100000 in
theorem giroref39_Postings.calls (k : Nat) (a0_0 : Int) (a0_1 : ByteArray) (a0_2 : ByteArray) (a0_3 : ByteArray) (a0_4 : Int) (a0_5 : Int) (a0_6 : Int) (a0_7 : Int) (a0_8 : Int) (a0_9 : Bool) (a0_10 : Int) (a0_11 : ByteArray) (a0_12 : ByteArray) (a1 : Int) (r : List (S77)) (w : World) (h : giroref39_Postings.f k a0_0 a0_1 a0_2 a0_3 a0_4 a0_5 a0_6 a0_7 a0_8 a0_9 a0_10 a0_11 a0_12 a1 = some r) :
  Calls Tryd.prog 14 #[.agg #[.int .i64 a0_0, .string a0_1, .string a0_2, .string a0_3, .int .i64 a0_4, .int .i64 a0_5, .int .i64 a0_6, .int .i64 a0_7, .int .i64 a0_8, .bool a0_9, .int .i64 a0_10, .string a0_11, .string a0_12], .int .i64 a1] w fun e w' => ∃ v0_ : Value, e = .returned (v0_) ∧ Kd.R k77 77 w' w.heap.size (fun _ => True) v0_ r ∧ Below w.heap.size w w' := by
 have hu24 := Tryd.underlying24
 have hu75 := Tryd.underlying75
 have hu77 := Tryd.underlying77
 have HB := Aside0.mk (Below.refl w.heap.size w)
 have H : ((giroref39_Legs.f a0_0 a0_1 a0_2 a0_3 a0_4 a0_5 a0_6 a0_7 a0_8 a0_9 a0_10 a0_11 a0_12).bind fun t188 => (giroref39_Postings.l0 k a1 ([] : List (S77)) t188 0)) = some r := h
 clear h
 replace H := Option.bind_eq_some_iff.mp H
 obtain ⟨t188, A30, H⟩ := H
 replace H : (giroref39_Postings.l0 k a1 ([] : List (S77)) t188 0) = some r := H
 have A3 := Aside0.mk A30
 clear A30
 have H' := Aside0.mk H
 clear H
 go_enter Tryd.func14, Tryd.ntmps14
 go_wp2_with (first | ((with_reducible refine gate_dst (N := 2) rfl ?_); refine box_event ?hg (N := 2) ?hd (cs := #[.int .i64 a0_0, .string a0_1, .string a0_2, .string a0_3, .int .i64 a0_4, .int .i64 a0_5, .int .i64 a0_6, .int .i64 a0_7, .int .i64 a0_8, .bool a0_9, .int .i64 a0_10, .string a0_11, .string a0_12]) (t := 24) ?hr ?_; (case hd => rfl); (case hg => rfl); (case hr => first | (go_simp; done) | (go_simp; rfl)); intro gb187 hg w4 hbox hb; have n0_ := Aside0.mk (below_step (by repeat (first | (with_reducible first | exact HB.out | apply below_alloc | apply pw_below_drewN | apply below_drew1) | exact HB.out)) hb); have n1_ := Aside0.mk (hbox); have n2_ := Aside0.mk ((by rw [hg]; exact (below_size (by repeat (first | (with_reducible first | exact HB.out | apply below_alloc | apply pw_below_drewN | apply below_drew1) | exact HB.out))) : w.heap.size ≤ gb187)); have n3_ := Aside0.mk ((by rw [hg]; exact (below_size (by repeat (first | (with_reducible first | exact HB.out | apply below_alloc | apply pw_below_drewN | apply below_drew1) | exact HB.out))) : w.heap.size ≤ gb187)); clear HB; have HB := n0_; have BK187 := n1_; have GW187 := n2_; have GE187 := n3_; clear n0_ n1_ n2_ n3_; clear hb hbox hg; have hcz5_0 : w4.cell? ⟨gb187, 0, none⟩ = some (.int .i64 a0_0) := (blk_cell BK187.out 0).trans rfl; have hcz5_1 : w4.cell? ⟨gb187, 1, none⟩ = some (.string a0_1) := (blk_cell BK187.out 1).trans rfl; have hcz5_2 : w4.cell? ⟨gb187, 2, none⟩ = some (.string a0_2) := (blk_cell BK187.out 2).trans rfl; have hcz5_3 : w4.cell? ⟨gb187, 3, none⟩ = some (.string a0_3) := (blk_cell BK187.out 3).trans rfl; have hcz5_4 : w4.cell? ⟨gb187, 4, none⟩ = some (.int .i64 a0_4) := (blk_cell BK187.out 4).trans rfl; have hcz5_5 : w4.cell? ⟨gb187, 5, none⟩ = some (.int .i64 a0_5) := (blk_cell BK187.out 5).trans rfl; have hcz5_6 : w4.cell? ⟨gb187, 6, none⟩ = some (.int .i64 a0_6) := (blk_cell BK187.out 6).trans rfl; have hcz5_7 : w4.cell? ⟨gb187, 7, none⟩ = some (.int .i64 a0_7) := (blk_cell BK187.out 7).trans rfl; have hcz5_8 : w4.cell? ⟨gb187, 8, none⟩ = some (.int .i64 a0_8) := (blk_cell BK187.out 8).trans rfl; have hcz5_9 : w4.cell? ⟨gb187, 9, none⟩ = some (.bool a0_9) := (blk_cell BK187.out 9).trans rfl; have hcz5_10 : w4.cell? ⟨gb187, 10, none⟩ = some (.int .i64 a0_10) := (blk_cell BK187.out 10).trans rfl; have hcz5_11 : w4.cell? ⟨gb187, 11, none⟩ = some (.string a0_11) := (blk_cell BK187.out 11).trans rfl; have hcz5_12 : w4.cell? ⟨gb187, 12, none⟩ = some (.string a0_12) := (blk_cell BK187.out 12).trans rfl; have hfz5_0 := blk_frozen BK187.out 0; have hfz5_1 := blk_frozen BK187.out 1; have hfz5_2 := blk_frozen BK187.out 2; have hfz5_3 := blk_frozen BK187.out 3; have hfz5_4 := blk_frozen BK187.out 4; have hfz5_5 := blk_frozen BK187.out 5; have hfz5_6 := blk_frozen BK187.out 6; have hfz5_7 := blk_frozen BK187.out 7; have hfz5_8 := blk_frozen BK187.out 8; have hfz5_9 := blk_frozen BK187.out 9; have hfz5_10 := blk_frozen BK187.out 10; have hfz5_11 := blk_frozen BK187.out 11; have hfz5_12 := blk_frozen BK187.out 12) | ((with_reducible refine gate_callee (f := 20) rfl ?_); refine goesL_ (some 10) rfl rfl Tryd.func20 (by kernel_rfl) rfl #[.agg #[.int .i64 a0_0, .string a0_1, .string a0_2, .string a0_3, .int .i64 a0_4, .int .i64 a0_5, .int .i64 a0_6, .int .i64 a0_7, .int .i64 a0_8, .bool a0_9, .int .i64 a0_10, .string a0_11, .string a0_12]] rfl (by (try simp only [List.map_toArray, List.map_cons, List.map_nil]); first | done | rfl | (simp only [List.length_drop, List.length_take]; rfl)) ?_; (with_reducible refine (giroref39_Legs.calls a0_0 a0_1 a0_2 a0_3 a0_4 a0_5 a0_6 a0_7 a0_8 a0_9 a0_10 a0_11 a0_12 t188 _ A3.out).mono ?_); rintro e w6 ⟨v189, rfl, ho0, hb⟩; refine ⟨_, rfl, ?_⟩; have n0_ := Aside0.mk (Kd.R_lower ho0 (below_size (by repeat (first | (with_reducible first | exact HB.out | apply below_alloc | apply pw_below_drewN | apply below_drew1 | refine below_set ?_ GE187.out) | exact HB.out)))); have n1_ := Aside0.mk (blk_below (g := gb187) (o := .cells #[.int .i64 a0_0, .string a0_1, .string a0_2, .string a0_3, .int .i64 a0_4, .int .i64 a0_5, .int .i64 a0_6, .int .i64 a0_7, .int .i64 a0_8, .bool a0_9, .int .i64 a0_10, .string a0_11, .string a0_12] 24 (0, 0)) (by (with_reducible repeat (first | refine blk_drewN ?_ _ | refine blk_drew ?_ | refine blk_alloc ?_ _)); exact BK187.out) hb); have n2_ := Aside0.mk (below_step (by repeat (first | (with_reducible first | exact HB.out | apply below_alloc | apply pw_below_drewN | apply below_drew1 | refine below_set ?_ GE187.out) | exact HB.out)) hb); clear BK187; clear HB; have HO190 := n0_; have BK187 := n1_; have HB := n2_; clear n0_ n1_ n2_; (try clear hb); (try clear hb2); (try clear hk); (try clear hi); (try clear ho0)))
 go_loopg [5, 7] k (fun kq v5 v7 w' => ∃ (x5_1 : List (S77)) (x7_1 : Int), v7 = .int .i64 x7_1 ∧ Aside0 (giroref39_Postings.l0 kq a1 x5_1 t188 x7_1 = some r) ∧ Aside0 (kq ≤ k) ∧ Aside0 (Kd.R k77 77 w' w.heap.size (fun _ => True) v5 x5_1) ∧ Aside0 (Kd.R k49 49 w' w.heap.size (fun _ => True) v189 t188) ∧ Aside0 (w'.heap[gb187]? = some (.cells #[.int .i64 a0_0, .string a0_1, .string a0_2, .string a0_3, .int .i64 a0_4, .int .i64 a0_5, .int .i64 a0_6, .int .i64 a0_7, .int .i64 a0_8, .bool a0_9, .int .i64 a0_10, .string a0_11, .string a0_12] 24 (0, 0))) ∧ Aside0 (Below w.heap.size w w'))
 case atStart => exact ⟨(([] : List (S77))), (0), (by first | rfl | (simp; done) | (simp [*]; done)), H', ⟨Nat.le_refl _⟩, ⟨by first | exact Kd.R_nil _ _ _ _ _ | exact Kd.N_nil _ _ _ _ _ | exact Kd.V_nil _ _ _ _ _ | exact Kd.Q_nil _ _ _ _ _ | exact Kd.S_nil _ _ _ _ _⟩, ⟨by (with_reducible repeat (first | apply Kd.R_alloc | apply Kd.R_drewN | apply Kd.R_drew)); exact HO190.out⟩, ⟨by (with_reducible repeat (first | refine blk_drewN ?_ _ | refine blk_drew ?_ | refine blk_alloc ?_ _)); exact BK187.out⟩, ⟨by repeat (first | (with_reducible first | exact HB.out | apply below_alloc | apply pw_below_drewN | apply below_drew1 | refine below_set ?_ GE187.out) | exact HB.out)⟩⟩
 case round =>
  clear H'
  try clear c1
  try clear c2
  try clear p2
  try clear hcz5_0 hcz5_1 hcz5_10 hcz5_11 hcz5_12 hcz5_2 hcz5_3 hcz5_4 hcz5_5 hcz5_6 hcz5_7 hcz5_8 hcz5_9
  try clear hfz5_0 hfz5_1 hfz5_10 hfz5_11 hfz5_12 hfz5_2 hfz5_3 hfz5_4 hfz5_5 hfz5_6 hfz5_7 hfz5_8 hfz5_9
  obtain ⟨x5_1, x7_1, rfl, HA, HK1, HO_5, HO_6, BK187, HB⟩ := hrel
  cases gk with
  | zero => exact absurd HA.out (by simp [giroref39_Postings.l0])
  | succ k1 =>
   have H := HA.out
   clear HA
   simp only [giroref39_Postings.l0] at H
   by_cases c7 : x7_1 < (t188.length : Int)
   ·rw [if_pos c7] at H
    have c7b0 : decide (x7_1 < (t188.length : Int)) = true := decide_eq_true c7
    clear c7
    by_cases c8 : 0 ≤ x7_1
    ·rw [if_pos c8] at H
     have c8b0 : decide (0 ≤ x7_1) = true := decide_eq_true c8
     clear c8
     by_cases c9 : x7_1 = 0
     ·rw [if_pos c9] at H
      have c9b0 : (x7_1 == 0) = true := beq_iff_eq.mpr c9
      have c9b1 : (x7_1 != 0) = false := bne_eq_false_iff_eq.mpr c9
      clear c9
      obtain ⟨y198, hy198⟩ : ∃ y_ : List (S77), y_ = (([(⟨(⟨(rd_T49 t188 x7_1).f0, a1, (rd_T49 t188 x7_1).f2⟩ : S75), wrap64 (-((rd_T49 t188 x7_1).f3))⟩ : S77), (⟨(⟨(rd_T49 t188 x7_1).f1, 0, (rd_T49 t188 x7_1).f2⟩ : S75), (rd_T49 t188 x7_1).f3⟩ : S77)] : List (S77))) := ⟨_, rfl⟩
      replace H : (if x5_1.length + y198.length < 2932031007402 then (giroref39_Postings.l0 k1 a1 (x5_1 ++ y198) t188 (wrap64 (x7_1 + 1))) else (none)) = some r := by first | (rw [hy198]; with_reducible exact H) | (have H2_ := (Option.bind_some _ _).symm.trans H; rw [hy198]; with_reducible exact H2_) | (have H2_ := (Option.bind_some _ _).symm.trans H; with_reducible exact H2_) | with_reducible exact H | (rw [hy198]; exact H) | exact H
      have Ny198 := Aside0.mk hy198
      clear hy198
      by_cases c10 : x5_1.length + y198.length < 2932031007402
      ·rw [if_pos c10] at H
       have LMc10 := Aside0.mk c10
       clear c10
       obtain ⟨y201, hy201⟩ : ∃ y_ : List (S77), y_ = (x5_1 ++ y198) := ⟨_, rfl⟩
       replace H : (giroref39_Postings.l0 k1 a1 y201 t188 (wrap64 (x7_1 + 1))) = some r := by first | (rw [hy201]; with_reducible exact H) | (have H2_ := (Option.bind_some _ _).symm.trans H; rw [hy201]; with_reducible exact H2_) | (have H2_ := (Option.bind_some _ _).symm.trans H; with_reducible exact H2_) | with_reducible exact H | (rw [hy201]; exact H) | exact H
       have Ny201 := Aside0.mk hy201
       clear hy201
       have H' := Aside0.mk H
       clear H
       obtain ⟨Ao11, co11, eo11⟩ := Kd.R_slice HO_6.out
       subst eo11
       try go_wp2
       have n0_ := Aside0.mk (Kd.R_drew HO_5.out)
       have n1_ := Aside0.mk (Kd.R_drew HO_6.out)
       have n2_ := Aside0.mk (blk_drew BK187.out)
       have n3_ := Aside0.mk (below_drew1 HB.out)
       clear HO_5
       clear HO_6
       clear BK187
       clear HB
       have HO_5 := n0_
       have HO_6 := n1_
       have BK187 := n2_
       have HB := n3_
       clear n0_ n1_ n2_ n3_
       have p191 : 0 ≤ (x7_1 : Int) := of_decide_eq_true (by first | (with_reducible assumption) | assumption)
       have q191 : x7_1 < (t188.length : Int) := of_decide_eq_true (by first | (with_reducible assumption) | assumption)
       obtain ⟨ad191, e191, hx191_0, hx191_1, hx191_2, hx191_3⟩ := at_T49 (Kd.R_reads' HO_6.out).2.2 x7_1 p191 q191
       cases e191
       replace p191 := eq_true p191
       replace q191 := eq_true q191
       have p192 : 0 ≤ (x7_1 : Int) := of_decide_eq_true (by first | (with_reducible assumption) | assumption)
       have q192 : x7_1 < (t188.length : Int) := of_decide_eq_true (by first | (with_reducible assumption) | assumption)
       obtain ⟨ad192, e192, hx192_0, hx192_1, hx192_2, hx192_3⟩ := at_T49 (Kd.R_reads' HO_6.out).2.2 x7_1 p192 q192
       obtain rfl : ad191 = ad192 := (by injection e192)
       replace p192 := eq_true p192
       replace q192 := eq_true q192
       refine start_ (n := 13) (S := fun w' => w'.cell? (ad191.add ((x7_1).toNat * 4)) = some (.string ((rd_T49 t188 x7_1).f0)) ∧ w'.cell? ⟨(ad191.add ((x7_1).toNat * 4)).block, (ad191.add ((x7_1).toNat * 4)).off + 1, none⟩ = some (.string ((rd_T49 t188 x7_1).f1)) ∧ w'.cell? ⟨(ad191.add ((x7_1).toNat * 4)).block, (ad191.add ((x7_1).toNat * 4)).off + 2, none⟩ = some (.string ((rd_T49 t188 x7_1).f2)) ∧ w'.cell? ⟨(ad191.add ((x7_1).toNat * 4)).block, (ad191.add ((x7_1).toNat * 4)).off + 3, none⟩ = some (.int .i64 ((rd_T49 t188 x7_1).f3)) ∧ w'.cell? (ad191.add ((x7_1).toNat * 4)) = some (.string ((rd_T49 t188 x7_1).f0)) ∧ w'.cell? ⟨(ad191.add ((x7_1).toNat * 4)).block, (ad191.add ((x7_1).toNat * 4)).off + 1, none⟩ = some (.string ((rd_T49 t188 x7_1).f1)) ∧ w'.cell? ⟨(ad191.add ((x7_1).toNat * 4)).block, (ad191.add ((x7_1).toNat * 4)).off + 2, none⟩ = some (.string ((rd_T49 t188 x7_1).f2)) ∧ w'.cell? ⟨(ad191.add ((x7_1).toNat * 4)).block, (ad191.add ((x7_1).toNat * 4)).off + 3, none⟩ = some (.int .i64 ((rd_T49 t188 x7_1).f3))) (ds := []) #[false, false, false, false, false, false, false, false, false, false, false, false, false] (by kernel_rfl) rfl rfl ⟨hx191_0, hx191_1, hx191_2, hx191_3, hx192_0, hx192_1, hx192_2, hx192_3⟩ (fun hHeld => ?_); refine with_tabW giroref39_Postings.tab6 giroref39_Postings.bits6 (fun HT_ HW_ => ?_)
       generalize wr.drew = w12 at HO_5 HO_6 BK187 HB hx191_0 hx191_1 hx191_2 hx191_3 hx192_0 hx192_1 hx192_2 hx192_3 hHeld ⊢
       refine pure_ (i := 0) (N := some 17) (v := ?_) (a' := ?_) #[true, false, false, false, false, false, false, false, false, false, false, false, false] rfl rfl (any_of HT_.out (by kernel_rfl)) (fun _ _ _ h => h) (Or.inl ⟨by rfl, ?_⟩) ?_ ?_
       rotate_left
       ·intro w'
        go_simp
        with_reducible rfl
       rotate_left
       ·simp only [Act.put, List.setIfInBounds_toArray, List.set_cons_zero, List.set_cons_succ, i64_w, i32_w]
        rfl
       refine pure_ (i := 1) (N := some 18) (v := ?_) (a' := ?_) #[true, true, false, false, false, false, false, false, false, false, false, false, false] rfl rfl (any_of HT_.out (by kernel_rfl)) (fun _ _ _ h => h) (Or.inl ⟨by rfl, ?_⟩) ?_ ?_
       rotate_left
       ·intro w'
        go_simp
        with_reducible rfl
       rotate_left
       ·simp only [Act.put, List.setIfInBounds_toArray, List.set_cons_zero, List.set_cons_succ, i64_w, i32_w]
        rfl
       refine pure_ (i := 2) (N := some 19) (v := ?_) (a' := ?_) #[true, true, true, false, false, false, false, false, false, false, false, false, false] rfl rfl (any_of HT_.out (by kernel_rfl)) (fun _ _ _ h => h) (Or.inl ⟨by rfl, ?_⟩) ?_ ?_
       rotate_left
       ·intro w'
        go_simp
        with_reducible rfl
       rotate_left
       ·simp only [Act.put, List.setIfInBounds_toArray, List.set_cons_zero, List.set_cons_succ, i64_w, i32_w]
        rfl
       refine pure_ (i := 3) (N := some 20) (v := ?_) (a' := ?_) #[true, true, true, true, false, false, false, false, false, false, false, false, false] rfl rfl (any_of HT_.out (by kernel_rfl)) (fun _ _ _ h => h) (Or.inl ⟨by rfl, ?_⟩) ?_ ?_
       rotate_left
       ·intro w'
        go_simp
        with_reducible rfl
       rotate_left
       ·simp only [Act.put, List.setIfInBounds_toArray, List.set_cons_zero, List.set_cons_succ, i64_w, i32_w]
        rfl
       refine pure_ (i := 5) (N := some 22) (v := ?_) (a' := ?_) #[true, true, true, true, false, true, false, false, false, false, false, false, false] rfl rfl (any_of HT_.out (by kernel_rfl)) (fun _ _ _ h => h) (Or.inl ⟨by rfl, ?_⟩) ?_ ?_
       rotate_left
       ·intro w'
        go_simp
        with_reducible rfl
       rotate_left
       ·simp only [Act.put, List.setIfInBounds_toArray, List.set_cons_zero, List.set_cons_succ, i64_w, i32_w]
        rfl
       refine pure_ (i := 6) (N := some 23) (v := ?_) (a' := ?_) #[true, true, true, true, false, true, true, false, false, false, false, false, false] rfl rfl (any_of HT_.out (by kernel_rfl)) (fun _ _ _ h => h) (Or.inl ⟨by rfl, ?_⟩) ?_ ?_
       rotate_left
       ·intro w'
        go_simp
        with_reducible rfl
       rotate_left
       ·simp only [Act.put, List.setIfInBounds_toArray, List.set_cons_zero, List.set_cons_succ, i64_w, i32_w]
        rfl
       refine pure_ (i := 7) (N := some 24) (v := ?_) (a' := ?_) #[true, true, true, true, false, true, true, true, false, false, false, false, false] rfl rfl (any_of HT_.out (by kernel_rfl)) (fun _ _ _ h => h) (Or.inl ⟨by rfl, ?_⟩) ?_ ?_
       rotate_left
       ·intro w'
        go_simp
        with_reducible rfl
       rotate_left
       ·simp only [Act.put, List.setIfInBounds_toArray, List.set_cons_zero, List.set_cons_succ, i64_w, i32_w]
        rfl
       refine pure_ (i := 8) (N := some 25) (v := ?_) (a' := ?_) #[true, true, true, true, false, true, true, true, true, false, false, false, false] rfl rfl (any_of HT_.out (by kernel_rfl)) (fun _ _ _ h => h) (Or.inl ⟨by rfl, ?_⟩) ?_ ?_
       rotate_left
       ·intro w'
        go_simp
        with_reducible rfl
       rotate_left
       ·simp only [Act.put, List.setIfInBounds_toArray, List.set_cons_zero, List.set_cons_succ, i64_w, i32_w]
        rfl
       refine take_ (i := 4) (N := some 21) (v := ?_) (a' := ?_) #[true, true, true, true, true, true, true, true, true, false, false, false, false] rfl rfl (take_ofW HT_.out HW_.out (by kernel_rfl)) (fun _ _ _ h => h) (Or.inl ⟨by rfl, ?_⟩) hHeld ?_ ?_
       rotate_left
       ·rintro w' ⟨s0, s1, s2, s3, s4, s5, s6, s7⟩
        go_simp
        with_reducible rfl
       rotate_left
       ·simp only [Act.put, List.setIfInBounds_toArray, List.set_cons_zero, List.set_cons_succ, i64_w, i32_w]
        rfl
       refine take_ (i := 9) (N := some 26) (v := ?_) (a' := ?_) #[true, true, true, true, true, true, true, true, true, true, false, false, false] rfl rfl (take_ofW HT_.out HW_.out (by kernel_rfl)) (fun _ _ _ h => h) (Or.inl ⟨by rfl, ?_⟩) hHeld ?_ ?_
       rotate_left
       ·rintro w' ⟨s0, s1, s2, s3, s4, s5, s6, s7⟩
        go_simp
        with_reducible rfl
       rotate_left
       ·simp only [Act.put, List.setIfInBounds_toArray, List.set_cons_zero, List.set_cons_succ, i64_w, i32_w]
        rfl
       refine pure_ (i := 10) (N := some 27) (v := ?_) (a' := ?_) #[true, true, true, true, true, true, true, true, true, true, true, false, false] rfl rfl (any_of HT_.out (by kernel_rfl)) (fun _ _ _ h => h) (Or.inl ⟨by rfl, ?_⟩) ?_ ?_
       rotate_left
       ·intro w'
        go_simp
        with_reducible rfl
       rotate_left
       ·simp only [Act.put, List.setIfInBounds_toArray, List.set_cons_zero, List.set_cons_succ, i64_w, i32_w]
        rfl
       refine one_ (i := 11) (N := some 8) #[true, true, true, true, true, true, true, true, true, true, true, true, false] rfl rfl (one_of HT_.out (by kernel_rfl)) (by decide) (fun K hK => ?_)
       refine box_step ?hg (N := 8) ?hd (cs := #[.string (⟨#[]⟩ : ByteArray), .int .i64 0, .string (⟨#[]⟩ : ByteArray)]) (t := 75) ?hr ?_; (case hd => rfl); (case hg => rfl); (case hr => first | (go_simp; done) | (go_simp; rfl))
       intro gb193 hg w13 hbox hb
       have HS0_ := (hb.cell (World.block_lt_of_cell? _ _ (hHeld.1))).trans (hHeld.1)
       have HS1_ := (hb.cell (World.block_lt_of_cell? _ _ (hHeld.2.1))).trans (hHeld.2.1)
       have HS2_ := (hb.cell (World.block_lt_of_cell? _ _ (hHeld.2.2.1))).trans (hHeld.2.2.1)
       have HS3_ := (hb.cell (World.block_lt_of_cell? _ _ (hHeld.2.2.2.1))).trans (hHeld.2.2.2.1)
       have HS4_ := (hb.cell (World.block_lt_of_cell? _ _ (hHeld.2.2.2.2.1))).trans (hHeld.2.2.2.2.1)
       have HS5_ := (hb.cell (World.block_lt_of_cell? _ _ (hHeld.2.2.2.2.2.1))).trans (hHeld.2.2.2.2.2.1)
       have HS6_ := (hb.cell (World.block_lt_of_cell? _ _ (hHeld.2.2.2.2.2.2.1))).trans (hHeld.2.2.2.2.2.2.1)
       have HS7_ := (hb.cell (World.block_lt_of_cell? _ _ (hHeld.2.2.2.2.2.2.2))).trans (hHeld.2.2.2.2.2.2.2)
       have n0_ := Aside0.mk (Kd.R_below (by (with_reducible repeat (first | apply Kd.R_alloc | apply Kd.R_drewN | apply Kd.R_drew)); exact HO_5.out) hb)
       have n1_ := Aside0.mk (Kd.R_below (by (with_reducible repeat (first | apply Kd.R_alloc | apply Kd.R_drewN | apply Kd.R_drew)); exact HO_6.out) hb)
       have n2_ := Aside0.mk (blk_below (g := gb187) (o := .cells #[.int .i64 a0_0, .string a0_1, .string a0_2, .string a0_3, .int .i64 a0_4, .int .i64 a0_5, .int .i64 a0_6, .int .i64 a0_7, .int .i64 a0_8, .bool a0_9, .int .i64 a0_10, .string a0_11, .string a0_12] 24 (0, 0)) (by (with_reducible repeat (first | refine blk_drewN ?_ _ | refine blk_drew ?_ | refine blk_alloc ?_ _)); exact BK187.out) hb)
       have n3_ := Aside0.mk (below_step (by repeat (first | (with_reducible first | exact HB.out | apply below_alloc | apply pw_below_drewN | apply below_drew1 | refine below_set ?_ GE187.out) | exact HB.out)) hb)
       have n4_ := Aside0.mk (hbox)
       have n5_ := Aside0.mk ((by rw [hg]; exact (below_size (by repeat (first | (with_reducible first | exact HB.out | apply below_alloc | apply pw_below_drewN | apply below_drew1 | refine below_set ?_ GE187.out) | exact HB.out))) : w.heap.size ≤ gb193))
       have n6_ := Aside0.mk ((by rw [hg]; exact (below_size (by repeat (first | (with_reducible first | exact HB.out | apply below_alloc | apply pw_below_drewN | apply below_drew1 | refine below_set ?_ GE187.out) | exact HB.out))) : w.heap.size ≤ gb193))
       have n7_ := Aside0.mk ((by rw [hg]; exact Nat.ne_of_lt (blk_lt (g := gb187) (o := .cells #[.int .i64 a0_0, .string a0_1, .string a0_2, .string a0_3, .int .i64 a0_4, .int .i64 a0_5, .int .i64 a0_6, .int .i64 a0_7, .int .i64 a0_8, .bool a0_9, .int .i64 a0_10, .string a0_11, .string a0_12] 24 (0, 0)) (by (with_reducible repeat (first | refine blk_drewN ?_ _ | refine blk_drew ?_ | refine blk_alloc ?_ _)); exact BK187.out)) : gb187 ≠ gb193))
       have n8_ := Aside0.mk ((by rw [hg]; exact Nat.ne_of_gt (blk_lt (g := gb187) (o := .cells #[.int .i64 a0_0, .string a0_1, .string a0_2, .string a0_3, .int .i64 a0_4, .int .i64 a0_5, .int .i64 a0_6, .int .i64 a0_7, .int .i64 a0_8, .bool a0_9, .int .i64 a0_10, .string a0_11, .string a0_12] 24 (0, 0)) (by (with_reducible repeat (first | refine blk_drewN ?_ _ | refine blk_drew ?_ | refine blk_alloc ?_ _)); exact BK187.out)) : gb193 ≠ gb187))
       clear HO_5
       clear HO_6
       clear BK187
       clear HB
       have HO_5 := n0_
       have HO_6 := n1_
       have BK187 := n2_
       have HB := n3_
       have BK193 := n4_
       have GW193 := n5_
       have GE193 := n6_
       have NB187_193 := n7_
       have NB193_187 := n8_
       clear n0_ n1_ n2_ n3_ n4_ n5_ n6_ n7_ n8_
       clear hb hbox hg
       refine hK.out _ _ ⟨HS0_, HS1_, HS2_, HS3_, HS4_, HS5_, HS6_, HS7_⟩ (fun hHeld => ?_)
       clear hK K
       refine norm_ (a' := ?_) ?_ ?_
       rotate_left
       ·show Act.put _ (some 8) _ = _
        simp only [Act.put, List.setIfInBounds_toArray, List.set_cons_zero, List.set_cons_succ, i64_w, i32_w]
        rfl
       refine one_ (i := 12) (N := none) #[true, true, true, true, true, true, true, true, true, true, true, true, true] rfl rfl (one_of HT_.out (by kernel_rfl)) (by decide) (fun K hK => ?_)
       have hs14 : w13.cell? ⟨gb193, 0, none⟩ = some (.string (⟨#[]⟩ : ByteArray)) := (blk_cell BK193.out 0).trans rfl
       have hfs14 := blk_frozen BK193.out 0
       have hns14_0 := NB187_193.out
       have hms14_0 := NB193_187.out
       have hs15 : w13.cell? ⟨gb193, 1, none⟩ = some (.int .i64 0) := (blk_cell BK193.out 1).trans rfl
       have hfs15 := blk_frozen BK193.out 1
       have hns15_0 := NB187_193.out
       have hms15_0 := NB193_187.out
       have hs16 : w13.cell? ⟨gb193, 2, none⟩ = some (.string (⟨#[]⟩ : ByteArray)) := (blk_cell BK193.out 2).trans rfl
       have hfs16 := blk_frozen BK193.out 2
       have hns16_0 := NB187_193.out
       have hms16_0 := NB193_187.out
       refine skip_ (w1 := ?_) (by rfl) rfl ?_ ?_
       rotate_left
       ·go_simp
        rfl
       refine hK.out _ _ ⟨((cell_far (p := ⟨gb193, _, none⟩) (by first | exact Kd.own_blk (Kd.R_ne HO_6.out BK193.out (by decide)) | (rw [add_block]; exact Kd.own_blk (Kd.R_ne HO_6.out BK193.out (by decide))) | (show (Addr.add _ _).block ≠ _; rw [add_block]; exact Kd.own_blk (Kd.R_ne HO_6.out BK193.out (by decide))) | (dsimp only; exact Kd.own_blk (Kd.R_ne HO_6.out BK193.out (by decide)))) _).trans (((cell_far (p := ⟨gb193, _, none⟩) (by first | exact Kd.own_blk (Kd.R_ne HO_6.out BK193.out (by decide)) | (rw [add_block]; exact Kd.own_blk (Kd.R_ne HO_6.out BK193.out (by decide))) | (show (Addr.add _ _).block ≠ _; rw [add_block]; exact Kd.own_blk (Kd.R_ne HO_6.out BK193.out (by decide))) | (dsimp only; exact Kd.own_blk (Kd.R_ne HO_6.out BK193.out (by decide)))) _).trans (((cell_far (p := ⟨gb193, _, none⟩) (by first | exact Kd.own_blk (Kd.R_ne HO_6.out BK193.out (by decide)) | (rw [add_block]; exact Kd.own_blk (Kd.R_ne HO_6.out BK193.out (by decide))) | (show (Addr.add _ _).block ≠ _; rw [add_block]; exact Kd.own_blk (Kd.R_ne HO_6.out BK193.out (by decide))) | (dsimp only; exact Kd.own_blk (Kd.R_ne HO_6.out BK193.out (by decide)))) _).trans (hHeld.1)))))), ((cell_far (p := ⟨gb193, _, none⟩) (by first | exact Kd.own_blk (Kd.R_ne HO_6.out BK193.out (by decide)) | (rw [add_block]; exact Kd.own_blk (Kd.R_ne HO_6.out BK193.out (by decide))) | (show (Addr.add _ _).block ≠ _; rw [add_block]; exact Kd.own_blk (Kd.R_ne HO_6.out BK193.out (by decide))) | (dsimp only; exact Kd.own_blk (Kd.R_ne HO_6.out BK193.out (by decide)))) _).trans (((cell_far (p := ⟨gb193, _, none⟩) (by first | exact Kd.own_blk (Kd.R_ne HO_6.out BK193.out (by decide)) | (rw [add_block]; exact Kd.own_blk (Kd.R_ne HO_6.out BK193.out (by decide))) | (show (Addr.add _ _).block ≠ _; rw [add_block]; exact Kd.own_blk (Kd.R_ne HO_6.out BK193.out (by decide))) | (dsimp only; exact Kd.own_blk (Kd.R_ne HO_6.out BK193.out (by decide)))) _).trans (((cell_far (p := ⟨gb193, _, none⟩) (by first | exact Kd.own_blk (Kd.R_ne HO_6.out BK193.out (by decide)) | (rw [add_block]; exact Kd.own_blk (Kd.R_ne HO_6.out BK193.out (by decide))) | (show (Addr.add _ _).block ≠ _; rw [add_block]; exact Kd.own_blk (Kd.R_ne HO_6.out BK193.out (by decide))) | (dsimp only; exact Kd.own_blk (Kd.R_ne HO_6.out BK193.out (by decide)))) _).trans (hHeld.2.1)))))), ((cell_far (p := ⟨gb193, _, none⟩) (by first | exact Kd.own_blk (Kd.R_ne HO_6.out BK193.out (by decide)) | (rw [add_block]; exact Kd.own_blk (Kd.R_ne HO_6.out BK193.out (by decide))) | (show (Addr.add _ _).block ≠ _; rw [add_block]; exact Kd.own_blk (Kd.R_ne HO_6.out BK193.out (by decide))) | (dsimp only; exact Kd.own_blk (Kd.R_ne HO_6.out BK193.out (by decide)))) _).trans (((cell_far (p := ⟨gb193, _, none⟩) (by first | exact Kd.own_blk (Kd.R_ne HO_6.out BK193.out (by decide)) | (rw [add_block]; exact Kd.own_blk (Kd.R_ne HO_6.out BK193.out (by decide))) | (show (Addr.add _ _).block ≠ _; rw [add_block]; exact Kd.own_blk (Kd.R_ne HO_6.out BK193.out (by decide))) | (dsimp only; exact Kd.own_blk (Kd.R_ne HO_6.out BK193.out (by decide)))) _).trans (((cell_far (p := ⟨gb193, _, none⟩) (by first | exact Kd.own_blk (Kd.R_ne HO_6.out BK193.out (by decide)) | (rw [add_block]; exact Kd.own_blk (Kd.R_ne HO_6.out BK193.out (by decide))) | (show (Addr.add _ _).block ≠ _; rw [add_block]; exact Kd.own_blk (Kd.R_ne HO_6.out BK193.out (by decide))) | (dsimp only; exact Kd.own_blk (Kd.R_ne HO_6.out BK193.out (by decide)))) _).trans (hHeld.2.2.1)))))), ((cell_far (p := ⟨gb193, _, none⟩) (by first | exact Kd.own_blk (Kd.R_ne HO_6.out BK193.out (by decide)) | (rw [add_block]; exact Kd.own_blk (Kd.R_ne HO_6.out BK193.out (by decide))) | (show (Addr.add _ _).block ≠ _; rw [add_block]; exact Kd.own_blk (Kd.R_ne HO_6.out BK193.out (by decide))) | (dsimp only; exact Kd.own_blk (Kd.R_ne HO_6.out BK193.out (by decide)))) _).trans (((cell_far (p := ⟨gb193, _, none⟩) (by first | exact Kd.own_blk (Kd.R_ne HO_6.out BK193.out (by decide)) | (rw [add_block]; exact Kd.own_blk (Kd.R_ne HO_6.out BK193.out (by decide))) | (show (Addr.add _ _).block ≠ _; rw [add_block]; exact Kd.own_blk (Kd.R_ne HO_6.out BK193.out (by decide))) | (dsimp only; exact Kd.own_blk (Kd.R_ne HO_6.out BK193.out (by decide)))) _).trans (((cell_far (p := ⟨gb193, _, none⟩) (by first | exact Kd.own_blk (Kd.R_ne HO_6.out BK193.out (by decide)) | (rw [add_block]; exact Kd.own_blk (Kd.R_ne HO_6.out BK193.out (by decide))) | (show (Addr.add _ _).block ≠ _; rw [add_block]; exact Kd.own_blk (Kd.R_ne HO_6.out BK193.out (by decide))) | (dsimp only; exact Kd.own_blk (Kd.R_ne HO_6.out BK193.out (by decide)))) _).trans (hHeld.2.2.2.1)))))), ((cell_far (p := ⟨gb193, _, none⟩) (by first | exact Kd.own_blk (Kd.R_ne HO_6.out BK193.out (by decide)) | (rw [add_block]; exact Kd.own_blk (Kd.R_ne HO_6.out BK193.out (by decide))) | (show (Addr.add _ _).block ≠ _; rw [add_block]; exact Kd.own_blk (Kd.R_ne HO_6.out BK193.out (by decide))) | (dsimp only; exact Kd.own_blk (Kd.R_ne HO_6.out BK193.out (by decide)))) _).trans (((cell_far (p := ⟨gb193, _, none⟩) (by first | exact Kd.own_blk (Kd.R_ne HO_6.out BK193.out (by decide)) | (rw [add_block]; exact Kd.own_blk (Kd.R_ne HO_6.out BK193.out (by decide))) | (show (Addr.add _ _).block ≠ _; rw [add_block]; exact Kd.own_blk (Kd.R_ne HO_6.out BK193.out (by decide))) | (dsimp only; exact Kd.own_blk (Kd.R_ne HO_6.out BK193.out (by decide)))) _).trans (((cell_far (p := ⟨gb193, _, none⟩) (by first | exact Kd.own_blk (Kd.R_ne HO_6.out BK193.out (by decide)) | (rw [add_block]; exact Kd.own_blk (Kd.R_ne HO_6.out BK193.out (by decide))) | (show (Addr.add _ _).block ≠ _; rw [add_block]; exact Kd.own_blk (Kd.R_ne HO_6.out BK193.out (by decide))) | (dsimp only; exact Kd.own_blk (Kd.R_ne HO_6.out BK193.out (by decide)))) _).trans (hHeld.2.2.2.2.1)))))), ((cell_far (p := ⟨gb193, _, none⟩) (by first | exact Kd.own_blk (Kd.R_ne HO_6.out BK193.out (by decide)) | (rw [add_block]; exact Kd.own_blk (Kd.R_ne HO_6.out BK193.out (by decide))) | (show (Addr.add _ _).block ≠ _; rw [add_block]; exact Kd.own_blk (Kd.R_ne HO_6.out BK193.out (by decide))) | (dsimp only; exact Kd.own_blk (Kd.R_ne HO_6.out BK193.out (by decide)))) _).trans (((cell_far (p := ⟨gb193, _, none⟩) (by first | exact Kd.own_blk (Kd.R_ne HO_6.out BK193.out (by decide)) | (rw [add_block]; exact Kd.own_blk (Kd.R_ne HO_6.out BK193.out (by decide))) | (show (Addr.add _ _).block ≠ _; rw [add_block]; exact Kd.own_blk (Kd.R_ne HO_6.out BK193.out (by decide))) | (dsimp only; exact Kd.own_blk (Kd.R_ne HO_6.out BK193.out (by decide)))) _).trans (((cell_far (p := ⟨gb193, _, none⟩) (by first | exact Kd.own_blk (Kd.R_ne HO_6.out BK193.out (by decide)) | (rw [add_block]; exact Kd.own_blk (Kd.R_ne HO_6.out BK193.out (by decide))) | (show (Addr.add _ _).block ≠ _; rw [add_block]; exact Kd.own_blk (Kd.R_ne HO_6.out BK193.out (by decide))) | (dsimp only; exact Kd.own_blk (Kd.R_ne HO_6.out BK193.out (by decide)))) _).trans (hHeld.2.2.2.2.2.1)))))), ((cell_far (p := ⟨gb193, _, none⟩) (by first | exact Kd.own_blk (Kd.R_ne HO_6.out BK193.out (by decide)) | (rw [add_block]; exact Kd.own_blk (Kd.R_ne HO_6.out BK193.out (by decide))) | (show (Addr.add _ _).block ≠ _; rw [add_block]; exact Kd.own_blk (Kd.R_ne HO_6.out BK193.out (by decide))) | (dsimp only; exact Kd.own_blk (Kd.R_ne HO_6.out BK193.out (by decide)))) _).trans (((cell_far (p := ⟨gb193, _, none⟩) (by first | exact Kd.own_blk (Kd.R_ne HO_6.out BK193.out (by decide)) | (rw [add_block]; exact Kd.own_blk (Kd.R_ne HO_6.out BK193.out (by decide))) | (show (Addr.add _ _).block ≠ _; rw [add_block]; exact Kd.own_blk (Kd.R_ne HO_6.out BK193.out (by decide))) | (dsimp only; exact Kd.own_blk (Kd.R_ne HO_6.out BK193.out (by decide)))) _).trans (((cell_far (p := ⟨gb193, _, none⟩) (by first | exact Kd.own_blk (Kd.R_ne HO_6.out BK193.out (by decide)) | (rw [add_block]; exact Kd.own_blk (Kd.R_ne HO_6.out BK193.out (by decide))) | (show (Addr.add _ _).block ≠ _; rw [add_block]; exact Kd.own_blk (Kd.R_ne HO_6.out BK193.out (by decide))) | (dsimp only; exact Kd.own_blk (Kd.R_ne HO_6.out BK193.out (by decide)))) _).trans (hHeld.2.2.2.2.2.2.1)))))), ((cell_far (p := ⟨gb193, _, none⟩) (by first | exact Kd.own_blk (Kd.R_ne HO_6.out BK193.out (by decide)) | (rw [add_block]; exact Kd.own_blk (Kd.R_ne HO_6.out BK193.out (by decide))) | (show (Addr.add _ _).block ≠ _; rw [add_block]; exact Kd.own_blk (Kd.R_ne HO_6.out BK193.out (by decide))) | (dsimp only; exact Kd.own_blk (Kd.R_ne HO_6.out BK193.out (by decide)))) _).trans (((cell_far (p := ⟨gb193, _, none⟩) (by first | exact Kd.own_blk (Kd.R_ne HO_6.out BK193.out (by decide)) | (rw [add_block]; exact Kd.own_blk (Kd.R_ne HO_6.out BK193.out (by decide))) | (show (Addr.add _ _).block ≠ _; rw [add_block]; exact Kd.own_blk (Kd.R_ne HO_6.out BK193.out (by decide))) | (dsimp only; exact Kd.own_blk (Kd.R_ne HO_6.out BK193.out (by decide)))) _).trans (((cell_far (p := ⟨gb193, _, none⟩) (by first | exact Kd.own_blk (Kd.R_ne HO_6.out BK193.out (by decide)) | (rw [add_block]; exact Kd.own_blk (Kd.R_ne HO_6.out BK193.out (by decide))) | (show (Addr.add _ _).block ≠ _; rw [add_block]; exact Kd.own_blk (Kd.R_ne HO_6.out BK193.out (by decide))) | (dsimp only; exact Kd.own_blk (Kd.R_ne HO_6.out BK193.out (by decide)))) _).trans (hHeld.2.2.2.2.2.2.2))))))⟩ (fun hHeld => ?_)
       clear hK K
       refine done_ (done_of HT_.out (by kernel_rfl)) ?_
       have hnb17 := NB193_187.out
       have hnc17 := NB187_193.out
       have hcz18_0 : w13.cell? ⟨gb193, 0, none⟩ = some (.string (⟨#[]⟩ : ByteArray)) := (blk_cell BK193.out 0).trans rfl
       have hcz18_1 : w13.cell? ⟨gb193, 1, none⟩ = some (.int .i64 0) := (blk_cell BK193.out 1).trans rfl
       have hcz18_2 : w13.cell? ⟨gb193, 2, none⟩ = some (.string (⟨#[]⟩ : ByteArray)) := (blk_cell BK193.out 2).trans rfl
       have hfz18_0 := blk_frozen BK193.out 0
       have hfz18_1 := blk_frozen BK193.out 1
       have hfz18_2 := blk_frozen BK193.out 2
       try go_wp2
       have n0_ : Aside0 (Kd.R k77 77 ((((w13.setCell ⟨gb193, 0, none⟩ (.string ((rd_T49 t188 x7_1).f0))).setCell ⟨gb193, 1, none⟩ (.int .i64 0)).setCell ⟨gb193, 2, none⟩ (.string ((rd_T49 t188 x7_1).f2))).setCell ⟨gb193, 1, none⟩ (.int .i64 a1)) w.heap.size (fun _ => True) u5 x5_1) := ⟨by (with_reducible repeat (first | apply Kd.R_alloc | apply Kd.R_drewN | apply Kd.R_drew)); exact Kd.R_mono (Kd.R_far (p := ⟨gb193, 1, none⟩) (Kd.R_far (p := ⟨gb193, 2, none⟩) (Kd.R_far (p := ⟨gb193, 1, none⟩) (Kd.R_far (p := ⟨gb193, 0, none⟩) (Kd.R_types HO_5.out BK193.out (by decide)) (fun _ hk => hk.2) (.string ((rd_T49 t188 x7_1).f0))) (fun _ hk => hk.2) (.int .i64 0)) (fun _ hk => hk.2) (.string ((rd_T49 t188 x7_1).f2))) (fun _ hk => hk.2) (.int .i64 a1)) (fun _ hk => trivial)⟩
       have n1_ : Aside0 (Kd.R k49 49 ((((w13.setCell ⟨gb193, 0, none⟩ (.string ((rd_T49 t188 x7_1).f0))).setCell ⟨gb193, 1, none⟩ (.int .i64 0)).setCell ⟨gb193, 2, none⟩ (.string ((rd_T49 t188 x7_1).f2))).setCell ⟨gb193, 1, none⟩ (.int .i64 a1)) w.heap.size (fun _ => True) (.slice (some ad191) t188.length co11) t188) := ⟨by (with_reducible repeat (first | apply Kd.R_alloc | apply Kd.R_drewN | apply Kd.R_drew)); exact Kd.R_mono (Kd.R_far (p := ⟨gb193, 1, none⟩) (Kd.R_far (p := ⟨gb193, 2, none⟩) (Kd.R_far (p := ⟨gb193, 1, none⟩) (Kd.R_far (p := ⟨gb193, 0, none⟩) (Kd.R_types HO_6.out BK193.out (by decide)) (fun _ hk => hk.2) (.string ((rd_T49 t188 x7_1).f0))) (fun _ hk => hk.2) (.int .i64 0)) (fun _ hk => hk.2) (.string ((rd_T49 t188 x7_1).f2))) (fun _ hk => hk.2) (.int .i64 a1)) (fun _ hk => trivial)⟩
       have n2_ : Aside0 (((((w13.setCell ⟨gb193, 0, none⟩ (.string ((rd_T49 t188 x7_1).f0))).setCell ⟨gb193, 1, none⟩ (.int .i64 0)).setCell ⟨gb193, 2, none⟩ (.string ((rd_T49 t188 x7_1).f2))).setCell ⟨gb193, 1, none⟩ (.int .i64 a1)).heap[gb187]? = some (.cells #[.int .i64 a0_0, .string a0_1, .string a0_2, .string a0_3, .int .i64 a0_4, .int .i64 a0_5, .int .i64 a0_6, .int .i64 a0_7, .int .i64 a0_8, .bool a0_9, .int .i64 a0_10, .string a0_11, .string a0_12] 24 (0, 0))) := ⟨by (with_reducible repeat (first | refine blk_drewN ?_ _ | refine blk_drew ?_ | refine blk_alloc ?_ _)); refine blk_far ?_ NB187_193.out _; (with_reducible repeat (first | refine blk_drewN ?_ _ | refine blk_drew ?_ | refine blk_alloc ?_ _)); refine blk_far ?_ NB187_193.out _; (with_reducible repeat (first | refine blk_drewN ?_ _ | refine blk_drew ?_ | refine blk_alloc ?_ _)); refine blk_far ?_ NB187_193.out _; (with_reducible repeat (first | refine blk_drewN ?_ _ | refine blk_drew ?_ | refine blk_alloc ?_ _)); refine blk_far ?_ NB187_193.out _; (with_reducible repeat (first | refine blk_drewN ?_ _ | refine blk_drew ?_ | refine blk_alloc ?_ _)); exact BK187.out⟩
       have n3_ : Aside0 (((((w13.setCell ⟨gb193, 0, none⟩ (.string ((rd_T49 t188 x7_1).f0))).setCell ⟨gb193, 1, none⟩ (.int .i64 0)).setCell ⟨gb193, 2, none⟩ (.string ((rd_T49 t188 x7_1).f2))).setCell ⟨gb193, 1, none⟩ (.int .i64 a1)).heap[gb193]? = some (.cells #[.string ((rd_T49 t188 x7_1).f0), .int .i64 a1, .string ((rd_T49 t188 x7_1).f2)] 75 (0, 0))) := ⟨by (with_reducible repeat (first | refine blk_drewN ?_ _ | refine blk_drew ?_ | refine blk_alloc ?_ _)); refine blk_put (cs := #[.string ((rd_T49 t188 x7_1).f0), .int .i64 0, .string ((rd_T49 t188 x7_1).f2)]) ?_ 1 _ rfl; (with_reducible repeat (first | refine blk_drewN ?_ _ | refine blk_drew ?_ | refine blk_alloc ?_ _)); refine blk_put (cs := #[.string ((rd_T49 t188 x7_1).f0), .int .i64 0, .string (⟨#[]⟩ : ByteArray)]) ?_ 2 _ rfl; (with_reducible repeat (first | refine blk_drewN ?_ _ | refine blk_drew ?_ | refine blk_alloc ?_ _)); refine blk_put (cs := #[.string ((rd_T49 t188 x7_1).f0), .int .i64 0, .string (⟨#[]⟩ : ByteArray)]) ?_ 1 _ rfl; (with_reducible repeat (first | refine blk_drewN ?_ _ | refine blk_drew ?_ | refine blk_alloc ?_ _)); refine blk_put (cs := #[.string (⟨#[]⟩ : ByteArray), .int .i64 0, .string (⟨#[]⟩ : ByteArray)]) ?_ 0 _ rfl; (with_reducible repeat (first | refine blk_drewN ?_ _ | refine blk_drew ?_ | refine blk_alloc ?_ _)); exact BK193.out⟩
       have n4_ : Aside0 (Below w.heap.size w ((((w13.setCell ⟨gb193, 0, none⟩ (.string ((rd_T49 t188 x7_1).f0))).setCell ⟨gb193, 1, none⟩ (.int .i64 0)).setCell ⟨gb193, 2, none⟩ (.string ((rd_T49 t188 x7_1).f2))).setCell ⟨gb193, 1, none⟩ (.int .i64 a1))) := ⟨by repeat (first | (with_reducible first | exact HB.out | apply below_alloc | apply pw_below_drewN | apply below_drew1 | refine below_set ?_ GE187.out | refine below_set ?_ GE193.out) | exact HB.out)⟩
       (try clear HO_5)
       (try clear HO_6)
       (try clear BK187)
       (try clear BK193)
       (try clear HB)
       generalize ((((w13.setCell ⟨gb193, 0, none⟩ (.string ((rd_T49 t188 x7_1).f0))).setCell ⟨gb193, 1, none⟩ (.int .i64 0)).setCell ⟨gb193, 2, none⟩ (.string ((rd_T49 t188 x7_1).f2))).setCell ⟨gb193, 1, none⟩ (.int .i64 a1)) = w19 at n0_ n1_ n2_ n3_ n4_ ⊢
       have HO_5 := n0_
       have HO_6 := n1_
       have BK187 := n2_
       have BK193 := n3_
       have HB := n4_
       clear n0_ n1_ n2_ n3_ n4_
       have n0_ := Aside0.mk (Kd.R_drew HO_5.out)
       have n1_ := Aside0.mk (Kd.R_drew HO_6.out)
       have n2_ := Aside0.mk (blk_drew BK187.out)
       have n3_ := Aside0.mk (blk_drew BK193.out)
       have n4_ := Aside0.mk (below_drew1 HB.out)
       clear HO_5
       clear HO_6
       clear BK187
       clear BK193
       clear HB
       have HO_5 := n0_
       have HO_6 := n1_
       have BK187 := n2_
       have BK193 := n3_
       have HB := n4_
       clear n0_ n1_ n2_ n3_ n4_
       have p194 : 0 ≤ (x7_1 : Int) := of_decide_eq_true (by first | (with_reducible assumption) | assumption)
       have q194 : x7_1 < (t188.length : Int) := of_decide_eq_true (by first | (with_reducible assumption) | assumption)
       obtain ⟨ad194, e194, hx194_0, hx194_1, hx194_2, hx194_3⟩ := at_T49 (Kd.R_reads' HO_6.out).2.2 x7_1 p194 q194
       obtain rfl : ad191 = ad194 := (by injection e194)
       replace p194 := eq_true p194
       replace q194 := eq_true q194
       have p195 : 0 ≤ (x7_1 : Int) := of_decide_eq_true (by first | (with_reducible assumption) | assumption)
       have q195 : x7_1 < (t188.length : Int) := of_decide_eq_true (by first | (with_reducible assumption) | assumption)
       obtain ⟨ad195, e195, hx195_0, hx195_1, hx195_2, hx195_3⟩ := at_T49 (Kd.R_reads' HO_6.out).2.2 x7_1 p195 q195
       obtain rfl : ad191 = ad195 := (by injection e195)
       replace p195 := eq_true p195
       replace q195 := eq_true q195
       have p196 : 0 ≤ (x7_1 : Int) := of_decide_eq_true (by first | (with_reducible assumption) | assumption)
       have q196 : x7_1 < (t188.length : Int) := of_decide_eq_true (by first | (with_reducible assumption) | assumption)
       obtain ⟨ad196, e196, hx196_0, hx196_1, hx196_2, hx196_3⟩ := at_T49 (Kd.R_reads' HO_6.out).2.2 x7_1 p196 q196
       obtain rfl : ad191 = ad196 := (by injection e196)
       replace p196 := eq_true p196
       replace q196 := eq_true q196
       have p197 : 0 ≤ (x7_1 : Int) := of_decide_eq_true (by first | (with_reducible assumption) | assumption)
       have q197 : x7_1 < (t188.length : Int) := of_decide_eq_true (by first | (with_reducible assumption) | assumption)
       obtain ⟨ad197, e197, hx197_0, hx197_1, hx197_2, hx197_3⟩ := at_T49 (Kd.R_reads' HO_6.out).2.2 x7_1 p197 q197
       obtain rfl : ad191 = ad197 := (by injection e197)
       replace p197 := eq_true p197
       replace q197 := eq_true q197
       refine start_ (n := 29) (S := fun w' => w'.cell? ⟨gb193, 0, none⟩ = some (.string ((rd_T49 t188 x7_1).f0)) ∧ w'.cell? ⟨gb193, 1, none⟩ = some (.int .i64 a1) ∧ w'.cell? ⟨gb193, 2, none⟩ = some (.string ((rd_T49 t188 x7_1).f2)) ∧ w'.cell? (ad191.add ((x7_1).toNat * 4)) = some (.string ((rd_T49 t188 x7_1).f0)) ∧ w'.cell? ⟨(ad191.add ((x7_1).toNat * 4)).block, (ad191.add ((x7_1).toNat * 4)).off + 1, none⟩ = some (.string ((rd_T49 t188 x7_1).f1)) ∧ w'.cell? ⟨(ad191.add ((x7_1).toNat * 4)).block, (ad191.add ((x7_1).toNat * 4)).off + 2, none⟩ = some (.string ((rd_T49 t188 x7_1).f2)) ∧ w'.cell? ⟨(ad191.add ((x7_1).toNat * 4)).block, (ad191.add ((x7_1).toNat * 4)).off + 3, none⟩ = some (.int .i64 ((rd_T49 t188 x7_1).f3)) ∧ w'.cell? (ad191.add ((x7_1).toNat * 4)) = some (.string ((rd_T49 t188 x7_1).f0)) ∧ w'.cell? ⟨(ad191.add ((x7_1).toNat * 4)).block, (ad191.add ((x7_1).toNat * 4)).off + 1, none⟩ = some (.string ((rd_T49 t188 x7_1).f1)) ∧ w'.cell? ⟨(ad191.add ((x7_1).toNat * 4)).block, (ad191.add ((x7_1).toNat * 4)).off + 2, none⟩ = some (.string ((rd_T49 t188 x7_1).f2)) ∧ w'.cell? ⟨(ad191.add ((x7_1).toNat * 4)).block, (ad191.add ((x7_1).toNat * 4)).off + 3, none⟩ = some (.int .i64 ((rd_T49 t188 x7_1).f3)) ∧ w'.cell? (ad191.add ((x7_1).toNat * 4)) = some (.string ((rd_T49 t188 x7_1).f0)) ∧ w'.cell? ⟨(ad191.add ((x7_1).toNat * 4)).block, (ad191.add ((x7_1).toNat * 4)).off + 1, none⟩ = some (.string ((rd_T49 t188 x7_1).f1)) ∧ w'.cell? ⟨(ad191.add ((x7_1).toNat * 4)).block, (ad191.add ((x7_1).toNat * 4)).off + 2, none⟩ = some (.string ((rd_T49 t188 x7_1).f2)) ∧ w'.cell? ⟨(ad191.add ((x7_1).toNat * 4)).block, (ad191.add ((x7_1).toNat * 4)).off + 3, none⟩ = some (.int .i64 ((rd_T49 t188 x7_1).f3)) ∧ w'.cell? (ad191.add ((x7_1).toNat * 4)) = some (.string ((rd_T49 t188 x7_1).f0)) ∧ w'.cell? ⟨(ad191.add ((x7_1).toNat * 4)).block, (ad191.add ((x7_1).toNat * 4)).off + 1, none⟩ = some (.string ((rd_T49 t188 x7_1).f1)) ∧ w'.cell? ⟨(ad191.add ((x7_1).toNat * 4)).block, (ad191.add ((x7_1).toNat * 4)).off + 2, none⟩ = some (.string ((rd_T49 t188 x7_1).f2)) ∧ w'.cell? ⟨(ad191.add ((x7_1).toNat * 4)).block, (ad191.add ((x7_1).toNat * 4)).off + 3, none⟩ = some (.int .i64 ((rd_T49 t188 x7_1).f3))) (ds := [27]) #[false, false, false, false, false, false, false, false, false, false, false, false, false, false, false, false, false, false, false, false, false, false, false, false, false, false, false, false, false] (by kernel_rfl) rfl rfl ⟨(blk_cell BK193.out 0).trans rfl, (blk_cell BK193.out 1).trans rfl, (blk_cell BK193.out 2).trans rfl, hx194_0, hx194_1, hx194_2, hx194_3, hx195_0, hx195_1, hx195_2, hx195_3, hx196_0, hx196_1, hx196_2, hx196_3, hx197_0, hx197_1, hx197_2, hx197_3⟩ (fun hHeld => ?_); refine with_tabW giroref39_Postings.tab9 giroref39_Postings.bits9 (fun HT_ HW_ => ?_)
       generalize w19.drew = w20 at HO_5 HO_6 BK187 BK193 HB hx194_0 hx194_1 hx194_2 hx194_3 hx195_0 hx195_1 hx195_2 hx195_3 hx196_0 hx196_1 hx196_2 hx196_3 hx197_0 hx197_1 hx197_2 hx197_3 hHeld ⊢
       refine pure_ (i := 0) (N := some 32) (v := ?_) (a' := ?_) #[true, false, false, false, false, false, false, false, false, false, false, false, false, false, false, false, false, false, false, false, false, false, false, false, false, false, false, false, false] rfl rfl (any_of HT_.out (by kernel_rfl)) (fun _ _ _ h => h) (Or.inl ⟨by rfl, ?_⟩) ?_ ?_
       rotate_left
       ·intro w'
        go_simp
        with_reducible rfl
       rotate_left
       ·simp only [Act.put, List.setIfInBounds_toArray, List.set_cons_zero, List.set_cons_succ, i64_w, i32_w]
        rfl
       refine pure_ (i := 2) (N := some 34) (v := ?_) (a' := ?_) #[true, false, true, false, false, false, false, false, false, false, false, false, false, false, false, false, false, false, false, false, false, false, false, false, false, false, false, false, false] rfl rfl (any_of HT_.out (by kernel_rfl)) (fun _ _ _ h => h) (Or.inl ⟨by rfl, ?_⟩) ?_ ?_
       rotate_left
       ·intro w'
        go_simp
        with_reducible rfl
       rotate_left
       ·simp only [Act.put, List.setIfInBounds_toArray, List.set_cons_zero, List.set_cons_succ, i64_w, i32_w]
        rfl
       refine pure_ (i := 3) (N := some 35) (v := ?_) (a' := ?_) #[true, false, true, true, false, false, false, false, false, false, false, false, false, false, false, false, false, false, false, false, false, false, false, false, false, false, false, false, false] rfl rfl (any_of HT_.out (by kernel_rfl)) (fun _ _ _ h => h) (Or.inl ⟨by rfl, ?_⟩) ?_ ?_
       rotate_left
       ·intro w'
        go_simp
        with_reducible rfl
       rotate_left
       ·simp only [Act.put, List.setIfInBounds_toArray, List.set_cons_zero, List.set_cons_succ, i64_w, i32_w]
        rfl
       refine pure_ (i := 4) (N := some 36) (v := ?_) (a' := ?_) #[true, false, true, true, true, false, false, false, false, false, false, false, false, false, false, false, false, false, false, false, false, false, false, false, false, false, false, false, false] rfl rfl (any_of HT_.out (by kernel_rfl)) (fun _ _ _ h => h) (Or.inl ⟨by rfl, ?_⟩) ?_ ?_
       rotate_left
       ·intro w'
        go_simp
        with_reducible rfl
       rotate_left
       ·simp only [Act.put, List.setIfInBounds_toArray, List.set_cons_zero, List.set_cons_succ, i64_w, i32_w]
        rfl
       refine pure_ (i := 5) (N := some 37) (v := ?_) (a' := ?_) #[true, false, true, true, true, true, false, false, false, false, false, false, false, false, false, false, false, false, false, false, false, false, false, false, false, false, false, false, false] rfl rfl (any_of HT_.out (by kernel_rfl)) (fun _ _ _ h => h) (Or.inl ⟨by rfl, ?_⟩) ?_ ?_
       rotate_left
       ·intro w'
        go_simp
        with_reducible rfl
       rotate_left
       ·simp only [Act.put, List.setIfInBounds_toArray, List.set_cons_zero, List.set_cons_succ, i64_w, i32_w]
        rfl
       refine pure_ (i := 9) (N := some 41) (v := ?_) (a' := ?_) #[true, false, true, true, true, true, false, false, false, true, false, false, false, false, false, false, false, false, false, false, false, false, false, false, false, false, false, false, false] rfl rfl (any_of HT_.out (by kernel_rfl)) (fun _ _ _ h => h) (Or.inl ⟨by rfl, ?_⟩) ?_ ?_
       rotate_left
       ·intro w'
        go_simp
        with_reducible rfl
       rotate_left
       ·simp only [Act.put, List.setIfInBounds_toArray, List.set_cons_zero, List.set_cons_succ, i64_w, i32_w]
        rfl
       refine pure_ (i := 10) (N := some 42) (v := ?_) (a' := ?_) #[true, false, true, true, true, true, false, false, false, true, true, false, false, false, false, false, false, false, false, false, false, false, false, false, false, false, false, false, false] rfl rfl (any_of HT_.out (by kernel_rfl)) (fun _ _ _ h => h) (Or.inl ⟨by rfl, ?_⟩) ?_ ?_
       rotate_left
       ·intro w'
        go_simp
        with_reducible rfl
       rotate_left
       ·simp only [Act.put, List.setIfInBounds_toArray, List.set_cons_zero, List.set_cons_succ, i64_w, i32_w]
        rfl
       refine pure_ (i := 11) (N := some 43) (v := ?_) (a' := ?_) #[true, false, true, true, true, true, false, false, false, true, true, true, false, false, false, false, false, false, false, false, false, false, false, false, false, false, false, false, false] rfl rfl (any_of HT_.out (by kernel_rfl)) (fun _ _ _ h => h) (Or.inl ⟨by rfl, ?_⟩) ?_ ?_
       rotate_left
       ·intro w'
        go_simp
        with_reducible rfl
       rotate_left
       ·simp only [Act.put, List.setIfInBounds_toArray, List.set_cons_zero, List.set_cons_succ, i64_w, i32_w]
        rfl
       refine pure_ (i := 12) (N := some 44) (v := ?_) (a' := ?_) #[true, false, true, true, true, true, false, false, false, true, true, true, true, false, false, false, false, false, false, false, false, false, false, false, false, false, false, false, false] rfl rfl (any_of HT_.out (by kernel_rfl)) (fun _ _ _ h => h) (Or.inl ⟨by rfl, ?_⟩) ?_ ?_
       rotate_left
       ·intro w'
        go_simp
        with_reducible rfl
       rotate_left
       ·simp only [Act.put, List.setIfInBounds_toArray, List.set_cons_zero, List.set_cons_succ, i64_w, i32_w]
        rfl
       refine pure_ (i := 14) (N := some 46) (v := ?_) (a' := ?_) #[true, false, true, true, true, true, false, false, false, true, true, true, true, false, true, false, false, false, false, false, false, false, false, false, false, false, false, false, false] rfl rfl (any_of HT_.out (by kernel_rfl)) (fun _ _ _ h => h) (Or.inl ⟨by rfl, ?_⟩) ?_ ?_
       rotate_left
       ·intro w'
        go_simp
        with_reducible rfl
       rotate_left
       ·simp only [Act.put, List.setIfInBounds_toArray, List.set_cons_zero, List.set_cons_succ, i64_w, i32_w]
        rfl
       refine pure_ (i := 15) (N := some 47) (v := ?_) (a' := ?_) #[true, false, true, true, true, true, false, false, false, true, true, true, true, false, true, true, false, false, false, false, false, false, false, false, false, false, false, false, false] rfl rfl (any_of HT_.out (by kernel_rfl)) (fun _ _ _ h => h) (Or.inl ⟨by rfl, ?_⟩) ?_ ?_
       rotate_left
       ·intro w'
        go_simp
        with_reducible rfl
       rotate_left
       ·simp only [Act.put, List.setIfInBounds_toArray, List.set_cons_zero, List.set_cons_succ, i64_w, i32_w]
        rfl
       refine pure_ (i := 16) (N := some 48) (v := ?_) (a' := ?_) #[true, false, true, true, true, true, false, false, false, true, true, true, true, false, true, true, true, false, false, false, false, false, false, false, false, false, false, false, false] rfl rfl (any_of HT_.out (by kernel_rfl)) (fun _ _ _ h => h) (Or.inl ⟨by rfl, ?_⟩) ?_ ?_
       rotate_left
       ·intro w'
        go_simp
        with_reducible rfl
       rotate_left
       ·simp only [Act.put, List.setIfInBounds_toArray, List.set_cons_zero, List.set_cons_succ, i64_w, i32_w]
        rfl
       refine pure_ (i := 17) (N := some 49) (v := ?_) (a' := ?_) #[true, false, true, true, true, true, false, false, false, true, true, true, true, false, true, true, true, true, false, false, false, false, false, false, false, false, false, false, false] rfl rfl (any_of HT_.out (by kernel_rfl)) (fun _ _ _ h => h) (Or.inl ⟨by rfl, ?_⟩) ?_ ?_
       rotate_left
       ·intro w'
        go_simp
        with_reducible rfl
       rotate_left
       ·simp only [Act.put, List.setIfInBounds_toArray, List.set_cons_zero, List.set_cons_succ, i64_w, i32_w]
        rfl
       refine pure_ (i := 20) (N := some 52) (v := ?_) (a' := ?_) #[true, false, true, true, true, true, false, false, false, true, true, true, true, false, true, true, true, true, false, false, true, false, false, false, false, false, false, false, false] rfl rfl (any_of HT_.out (by kernel_rfl)) (fun _ _ _ h => h) (Or.inl ⟨by rfl, ?_⟩) ?_ ?_
       rotate_left
       ·intro w'
        go_simp
        with_reducible rfl
       rotate_left
       ·simp only [Act.put, List.setIfInBounds_toArray, List.set_cons_zero, List.set_cons_succ, i64_w, i32_w]
        rfl
       refine pure_ (i := 21) (N := some 53) (v := ?_) (a' := ?_) #[true, false, true, true, true, true, false, false, false, true, true, true, true, false, true, true, true, true, false, false, true, true, false, false, false, false, false, false, false] rfl rfl (any_of HT_.out (by kernel_rfl)) (fun _ _ _ h => h) (Or.inl ⟨by rfl, ?_⟩) ?_ ?_
       rotate_left
       ·intro w'
        go_simp
        with_reducible rfl
       rotate_left
       ·simp only [Act.put, List.setIfInBounds_toArray, List.set_cons_zero, List.set_cons_succ, i64_w, i32_w]
        rfl
       refine pure_ (i := 22) (N := some 54) (v := ?_) (a' := ?_) #[true, false, true, true, true, true, false, false, false, true, true, true, true, false, true, true, true, true, false, false, true, true, true, false, false, false, false, false, false] rfl rfl (any_of HT_.out (by kernel_rfl)) (fun _ _ _ h => h) (Or.inl ⟨by rfl, ?_⟩) ?_ ?_
       rotate_left
       ·intro w'
        go_simp
        with_reducible rfl
       rotate_left
       ·simp only [Act.put, List.setIfInBounds_toArray, List.set_cons_zero, List.set_cons_succ, i64_w, i32_w]
        rfl
       refine pure_ (i := 23) (N := some 55) (v := ?_) (a' := ?_) #[true, false, true, true, true, true, false, false, false, true, true, true, true, false, true, true, true, true, false, false, true, true, true, true, false, false, false, false, false] rfl rfl (any_of HT_.out (by kernel_rfl)) (fun _ _ _ h => h) (Or.inl ⟨by rfl, ?_⟩) ?_ ?_
       rotate_left
       ·intro w'
        go_simp
        with_reducible rfl
       rotate_left
       ·simp only [Act.put, List.setIfInBounds_toArray, List.set_cons_zero, List.set_cons_succ, i64_w, i32_w]
        rfl
       refine take_ (i := 1) (N := some 33) (v := ?_) (a' := ?_) #[true, true, true, true, true, true, false, false, false, true, true, true, true, false, true, true, true, true, false, false, true, true, true, true, false, false, false, false, false] rfl rfl (take_ofW HT_.out HW_.out (by kernel_rfl)) (fun _ _ _ h => h) (Or.inl ⟨by rfl, ?_⟩) hHeld ?_ ?_
       rotate_left
       ·rintro w' ⟨s0, s1, s2, s3, s4, s5, s6, s7, s8, s9, s10, s11, s12, s13, s14, s15, s16, s17, s18⟩
        go_simp
        with_reducible rfl
       rotate_left
       ·simp only [Act.put, List.setIfInBounds_toArray, List.set_cons_zero, List.set_cons_succ, i64_w, i32_w]
        rfl
       refine take_ (i := 6) (N := some 38) (v := ?_) (a' := ?_) #[true, true, true, true, true, true, true, false, false, true, true, true, true, false, true, true, true, true, false, false, true, true, true, true, false, false, false, false, false] rfl rfl (take_ofW HT_.out HW_.out (by kernel_rfl)) (fun _ _ _ h => h) (Or.inl ⟨by rfl, ?_⟩) hHeld ?_ ?_
       rotate_left
       ·rintro w' ⟨s0, s1, s2, s3, s4, s5, s6, s7, s8, s9, s10, s11, s12, s13, s14, s15, s16, s17, s18⟩
        go_simp
        with_reducible rfl
       rotate_left
       ·simp only [Act.put, List.setIfInBounds_toArray, List.set_cons_zero, List.set_cons_succ, i64_w, i32_w]
        rfl
       refine pure_ (i := 7) (N := some 39) (v := ?_) (a' := ?_) #[true, true, true, true, true, true, true, true, false, true, true, true, true, false, true, true, true, true, false, false, true, true, true, true, false, false, false, false, false] rfl rfl (any_of HT_.out (by kernel_rfl)) (fun _ _ _ h => h) (Or.inl ⟨by rfl, ?_⟩) ?_ ?_
       rotate_left
       ·intro w'
        go_simp
        with_reducible rfl
       rotate_left
       ·simp only [Act.put, List.setIfInBounds_toArray, List.set_cons_zero, List.set_cons_succ, i64_w, i32_w]
        rfl
       refine pure_ (i := 8) (N := some 40) (v := ?_) (a' := ?_) #[true, true, true, true, true, true, true, true, true, true, true, true, true, false, true, true, true, true, false, false, true, true, true, true, false, false, false, false, false] rfl rfl (any_of HT_.out (by kernel_rfl)) (fun _ _ _ h => h) (Or.inl ⟨by rfl, ?_⟩) ?_ ?_
       rotate_left
       ·intro w'
        go_simp
        with_reducible rfl
       rotate_left
       ·simp only [Act.put, List.setIfInBounds_toArray, List.set_cons_zero, List.set_cons_succ, i64_w, i32_w]
        rfl
       refine take_ (i := 13) (N := some 45) (v := ?_) (a' := ?_) #[true, true, true, true, true, true, true, true, true, true, true, true, true, true, true, true, true, true, false, false, true, true, true, true, false, false, false, false, false] rfl rfl (take_ofW HT_.out HW_.out (by kernel_rfl)) (fun _ _ _ h => h) (Or.inl ⟨by rfl, ?_⟩) hHeld ?_ ?_
       rotate_left
       ·rintro w' ⟨s0, s1, s2, s3, s4, s5, s6, s7, s8, s9, s10, s11, s12, s13, s14, s15, s16, s17, s18⟩
        go_simp
        with_reducible rfl
       rotate_left
       ·simp only [Act.put, List.setIfInBounds_toArray, List.set_cons_zero, List.set_cons_succ, i64_w, i32_w]
        rfl
       refine take_ (i := 18) (N := some 50) (v := ?_) (a' := ?_) #[true, true, true, true, true, true, true, true, true, true, true, true, true, true, true, true, true, true, true, false, true, true, true, true, false, false, false, false, false] rfl rfl (take_ofW HT_.out HW_.out (by kernel_rfl)) (fun _ _ _ h => h) (Or.inl ⟨by rfl, ?_⟩) hHeld ?_ ?_
       rotate_left
       ·rintro w' ⟨s0, s1, s2, s3, s4, s5, s6, s7, s8, s9, s10, s11, s12, s13, s14, s15, s16, s17, s18⟩
        go_simp
        with_reducible rfl
       rotate_left
       ·simp only [Act.put, List.setIfInBounds_toArray, List.set_cons_zero, List.set_cons_succ, i64_w, i32_w]
        rfl
       refine pure_ (i := 19) (N := some 51) (v := ?_) (a' := ?_) #[true, true, true, true, true, true, true, true, true, true, true, true, true, true, true, true, true, true, true, true, true, true, true, true, false, false, false, false, false] rfl rfl (any_of HT_.out (by kernel_rfl)) (fun _ _ _ h => h) (Or.inl ⟨by rfl, ?_⟩) ?_ ?_
       rotate_left
       ·intro w'
        go_simp
        with_reducible rfl
       rotate_left
       ·simp only [Act.put, List.setIfInBounds_toArray, List.set_cons_zero, List.set_cons_succ, i64_w, i32_w]
        rfl
       refine take_ (i := 24) (N := some 56) (v := ?_) (a' := ?_) #[true, true, true, true, true, true, true, true, true, true, true, true, true, true, true, true, true, true, true, true, true, true, true, true, true, false, false, false, false] rfl rfl (take_ofW HT_.out HW_.out (by kernel_rfl)) (fun _ _ _ h => h) (Or.inl ⟨by rfl, ?_⟩) hHeld ?_ ?_
       rotate_left
       ·rintro w' ⟨s0, s1, s2, s3, s4, s5, s6, s7, s8, s9, s10, s11, s12, s13, s14, s15, s16, s17, s18⟩
        go_simp
        with_reducible rfl
       rotate_left
       ·simp only [Act.put, List.setIfInBounds_toArray, List.set_cons_zero, List.set_cons_succ, i64_w, i32_w]
        rfl
       refine pure_ (i := 25) (N := some 57) (v := ?_) (a' := ?_) #[true, true, true, true, true, true, true, true, true, true, true, true, true, true, true, true, true, true, true, true, true, true, true, true, true, true, false, false, false] rfl rfl (any_of HT_.out (by kernel_rfl)) (fun _ _ _ h => h) (Or.inl ⟨by rfl, ?_⟩) ?_ ?_
       rotate_left
       ·intro w'
        go_simp
        with_reducible rfl
       rotate_left
       ·simp only [Act.put, List.setIfInBounds_toArray, List.set_cons_zero, List.set_cons_succ, i64_w, i32_w]
        rfl
       refine one_ (i := 26) (N := some 58) #[true, true, true, true, true, true, true, true, true, true, true, true, true, true, true, true, true, true, true, true, true, true, true, true, true, true, true, false, false] rfl rfl (one_of HT_.out (by kernel_rfl)) (by decide) (fun K hK => ?_)
       refine Kd.R_lit_step k77 _ 77 ?hg (N := 58) ?hd (xs := ([(⟨(⟨(rd_T49 t188 x7_1).f0, a1, (rd_T49 t188 x7_1).f2⟩ : S75), wrap64 (-((rd_T49 t188 x7_1).f3))⟩ : S77), (⟨(⟨(rd_T49 t188 x7_1).f1, 0, (rd_T49 t188 x7_1).f2⟩ : S75), (rd_T49 t188 x7_1).f3⟩ : S77)] : List (S77))) (inner := [.string ((rd_T49 t188 x7_1).f0), .int .i64 a1, .string ((rd_T49 t188 x7_1).f2), .int .i64 (wrap64 (-((rd_T49 t188 x7_1).f3))), .string ((rd_T49 t188 x7_1).f1), .int .i64 0, .string ((rd_T49 t188 x7_1).f2), .int .i64 ((rd_T49 t188 x7_1).f3)]) (ok := fun _ => True) (okp := fun _ => True) ?hr ?hp (fun _ hk => hk) trivial (Below.refl _ _) (Nat.le_refl _) (by simp) ?_; (case hd => rfl); (case hg => rfl); (case hr => first | (go_simp; done) | (go_simp; rfl)); (case hp => exact (Reps.c4 (show Kd.M k77 _ _ _ (⟨(⟨(rd_T49 t188 x7_1).f0, a1, (rd_T49 t188 x7_1).f2⟩ : S75), wrap64 (-((rd_T49 t188 x7_1).f3))⟩ : S77) [.string ((rd_T49 t188 x7_1).f0), .int .i64 a1, .string ((rd_T49 t188 x7_1).f2), .int .i64 (wrap64 (-((rd_T49 t188 x7_1).f3)))] from (k77_mkM _ _ _ (⟨(⟨(rd_T49 t188 x7_1).f0, a1, (rd_T49 t188 x7_1).f2⟩ : S75), wrap64 (-((rd_T49 t188 x7_1).f3))⟩ : S77) )) (Reps.c4 (show Kd.M k77 _ _ _ (⟨(⟨(rd_T49 t188 x7_1).f1, 0, (rd_T49 t188 x7_1).f2⟩ : S75), (rd_T49 t188 x7_1).f3⟩ : S77) [.string ((rd_T49 t188 x7_1).f1), .int .i64 0, .string ((rd_T49 t188 x7_1).f2), .int .i64 ((rd_T49 t188 x7_1).f3)] from (k77_mkM _ _ _ (⟨(⟨(rd_T49 t188 x7_1).f1, 0, (rd_T49 t188 x7_1).f2⟩ : S75), (rd_T49 t188 x7_1).f3⟩ : S77) )) (Reps.none _ _))))
       intro v199 w21 ho22 hb hg_ hnew_
       have HS3_ := (hb.cell (World.block_lt_of_cell? _ _ (hHeld.2.2.2.1))).trans (hHeld.2.2.2.1)
       have HS4_ := (hb.cell (World.block_lt_of_cell? _ _ (hHeld.2.2.2.2.1))).trans (hHeld.2.2.2.2.1)
       have HS5_ := (hb.cell (World.block_lt_of_cell? _ _ (hHeld.2.2.2.2.2.1))).trans (hHeld.2.2.2.2.2.1)
       have HS6_ := (hb.cell (World.block_lt_of_cell? _ _ (hHeld.2.2.2.2.2.2.1))).trans (hHeld.2.2.2.2.2.2.1)
       have HS7_ := (hb.cell (World.block_lt_of_cell? _ _ (hHeld.2.2.2.2.2.2.2.1))).trans (hHeld.2.2.2.2.2.2.2.1)
       have HS8_ := (hb.cell (World.block_lt_of_cell? _ _ (hHeld.2.2.2.2.2.2.2.2.1))).trans (hHeld.2.2.2.2.2.2.2.2.1)
       have HS9_ := (hb.cell (World.block_lt_of_cell? _ _ (hHeld.2.2.2.2.2.2.2.2.2.1))).trans (hHeld.2.2.2.2.2.2.2.2.2.1)
       have HS10_ := (hb.cell (World.block_lt_of_cell? _ _ (hHeld.2.2.2.2.2.2.2.2.2.2.1))).trans (hHeld.2.2.2.2.2.2.2.2.2.2.1)
       have HS11_ := (hb.cell (World.block_lt_of_cell? _ _ (hHeld.2.2.2.2.2.2.2.2.2.2.2.1))).trans (hHeld.2.2.2.2.2.2.2.2.2.2.2.1)
       have HS12_ := (hb.cell (World.block_lt_of_cell? _ _ (hHeld.2.2.2.2.2.2.2.2.2.2.2.2.1))).trans (hHeld.2.2.2.2.2.2.2.2.2.2.2.2.1)
       have HS13_ := (hb.cell (World.block_lt_of_cell? _ _ (hHeld.2.2.2.2.2.2.2.2.2.2.2.2.2.1))).trans (hHeld.2.2.2.2.2.2.2.2.2.2.2.2.2.1)
       have HS14_ := (hb.cell (World.block_lt_of_cell? _ _ (hHeld.2.2.2.2.2.2.2.2.2.2.2.2.2.2.1))).trans (hHeld.2.2.2.2.2.2.2.2.2.2.2.2.2.2.1)
       have HS15_ := (hb.cell (World.block_lt_of_cell? _ _ (hHeld.2.2.2.2.2.2.2.2.2.2.2.2.2.2.2.1))).trans (hHeld.2.2.2.2.2.2.2.2.2.2.2.2.2.2.2.1)
       have HS16_ := (hb.cell (World.block_lt_of_cell? _ _ (hHeld.2.2.2.2.2.2.2.2.2.2.2.2.2.2.2.2.1))).trans (hHeld.2.2.2.2.2.2.2.2.2.2.2.2.2.2.2.2.1)
       have HS17_ := (hb.cell (World.block_lt_of_cell? _ _ (hHeld.2.2.2.2.2.2.2.2.2.2.2.2.2.2.2.2.2.1))).trans (hHeld.2.2.2.2.2.2.2.2.2.2.2.2.2.2.2.2.2.1)
       have HS18_ := (hb.cell (World.block_lt_of_cell? _ _ (hHeld.2.2.2.2.2.2.2.2.2.2.2.2.2.2.2.2.2.2))).trans (hHeld.2.2.2.2.2.2.2.2.2.2.2.2.2.2.2.2.2.2)
       clear hg_ hnew_
       (first | rw [← Ny198.out] at ho22 | (simp only [Int.reduceToNat] at ho22; rw [← Ny198.out] at ho22))
       have n0_ := Aside0.mk (Kd.R_elder' (by (with_reducible repeat (first | apply Kd.R_alloc | apply Kd.R_drewN | apply Kd.R_drew)); exact HO_5.out) (Kd.R_base ho22) hb)
       have n1_ := Aside0.mk (Kd.R_below (by (with_reducible repeat (first | apply Kd.R_alloc | apply Kd.R_drewN | apply Kd.R_drew)); exact HO_6.out) hb)
       have n2_ := Aside0.mk (Kd.R_lower (Kd.R_new' ho22 (Kd.R_lt (by (with_reducible repeat (first | apply Kd.R_alloc | apply Kd.R_drewN | apply Kd.R_drew)); exact HO_5.out))) (below_size (by repeat (first | (with_reducible first | exact HB.out | apply below_alloc | apply pw_below_drewN | apply below_drew1 | refine below_set ?_ GE187.out | refine below_set ?_ GE193.out) | exact HB.out))))
       have n3_ := Aside0.mk (blk_below (g := gb187) (o := .cells #[.int .i64 a0_0, .string a0_1, .string a0_2, .string a0_3, .int .i64 a0_4, .int .i64 a0_5, .int .i64 a0_6, .int .i64 a0_7, .int .i64 a0_8, .bool a0_9, .int .i64 a0_10, .string a0_11, .string a0_12] 24 (0, 0)) (by (with_reducible repeat (first | refine blk_drewN ?_ _ | refine blk_drew ?_ | refine blk_alloc ?_ _)); exact BK187.out) hb)
       have n4_ := Aside0.mk (blk_below (g := gb193) (o := .cells #[.string ((rd_T49 t188 x7_1).f0), .int .i64 a1, .string ((rd_T49 t188 x7_1).f2)] 75 (0, 0)) (by (with_reducible repeat (first | refine blk_drewN ?_ _ | refine blk_drew ?_ | refine blk_alloc ?_ _)); exact BK193.out) hb)
       have n5_ := Aside0.mk (below_step (by repeat (first | (with_reducible first | exact HB.out | apply below_alloc | apply pw_below_drewN | apply below_drew1 | refine below_set ?_ GE187.out | refine below_set ?_ GE193.out) | exact HB.out)) hb)
       clear HO_5
       clear HO_6
       clear BK187
       clear BK193
       clear HB
       have HO_5 := n0_
       have HO_6 := n1_
       have HO200 := n2_
       have BK187 := n3_
       have BK193 := n4_
       have HB := n5_
       clear n0_ n1_ n2_ n3_ n4_ n5_
       clear hb ho22
       obtain ⟨Ao24, co24, eo24⟩ := Kd.R_slice HO200.out
       (first | subst eo24 | (injection eo24 with f1_ f2_ f3_; have f4_ := f1_.symm; have f5_ := f3_.symm; clear f1_ f2_ f3_; subst f4_; subst f5_))
       refine hK.out _ _ ⟨(blk_cell BK193.out 0).trans rfl, (blk_cell BK193.out 1).trans rfl, (blk_cell BK193.out 2).trans rfl, HS3_, HS4_, HS5_, HS6_, HS7_, HS8_, HS9_, HS10_, HS11_, HS12_, HS13_, HS14_, HS15_, HS16_, HS17_, HS18_⟩ (fun hHeld => ?_)
       clear hK K
       refine norm_ (a' := ?_) ?_ ?_
       rotate_left
       ·show Act.put _ (some 58) _ = _
        simp only [Act.put, List.setIfInBounds_toArray, List.set_cons_zero, List.set_cons_succ, i64_w, i32_w]
        rfl
       refine last_ (i := 27) (N := some 59) #[true, true, true, true, true, true, true, true, true, true, true, true, true, true, true, true, true, true, true, true, true, true, true, true, true, true, true, true, false] rfl rfl (one_of HT_.out (by kernel_rfl)) (by decide) (fun K hK => ?_)
       refine Kd.R_append_rows_step k77 (w0 := w) w.heap.size (by rfl) (.tmp 32) (.tmp 58) 34 77 (.agg #[(.string ⟨#[]⟩), (.int .i64 0), (.string ⟨#[]⟩), (.int .i64 0)]) 48 rfl Tryd.underlying34 info77 rfl (by decide) (by omega) u5 x5_1 y198 _ _ _ (fun k_ => some k_ ≠ (.slice Ao24 y198.length co24 : Value).ownBlock) (fun _ => False) rfl rfl ?aO ?aR (fun _ _ h => h) (fun _ h => h.elim) ?aF ?aB ?aS ?aL ?_
       (case aR => repeat (first | exact (Kd.R_reads' HO200.out).2.2 | (with_reducible refine Kd.C_alloc ?_ _) | (with_reducible refine Kd.C_drewN ?_ _) | (with_reducible refine Kd.C_drew ?_)))
       (case aB => exact (by repeat (first | (with_reducible first | exact HB.out | apply below_alloc | apply pw_below_drewN | apply below_drew1 | refine below_set ?_ GE187.out | refine below_set ?_ GE193.out) | exact HB.out)))
       (case aF => exact (fun k_ hk => Kd.fresh' (Kd.R_lt (by (with_reducible repeat (first | apply Kd.R_alloc | apply Kd.R_drewN | apply Kd.R_drew)); exact HO200.out)) k_ hk))
       (case aO => exact (by (with_reducible repeat (first | apply Kd.R_alloc | apply Kd.R_drewN | apply Kd.R_drew)); exact Kd.R_mono HO_5.out (fun _ hk => hk.2)))
       (case aS => exact (below_size (by repeat (first | (with_reducible first | exact HB.out | apply below_alloc | apply pw_below_drewN | apply below_drew1 | refine below_set ?_ GE187.out | refine below_set ?_ GE193.out) | exact HB.out))))
       (case aL => have := LMc10.out; omega)
       intro v202 w23 ho hb hg hat
       rw [← Ny201.out] at ho
       have n0_ := Aside0.mk (Kd.R_over' (by (with_reducible repeat (first | apply Kd.R_alloc | apply Kd.R_drewN | apply Kd.R_drew)); exact HO_6.out) (Kd.R_typed (by (with_reducible repeat (first | apply Kd.R_alloc | apply Kd.R_drewN | apply Kd.R_drew)); exact HO_5.out)) (by decide) hg)
       have n1_ := Aside0.mk (blk_grown (g := gb187) (o := .cells #[.int .i64 a0_0, .string a0_1, .string a0_2, .string a0_3, .int .i64 a0_4, .int .i64 a0_5, .int .i64 a0_6, .int .i64 a0_7, .int .i64 a0_8, .bool a0_9, .int .i64 a0_10, .string a0_11, .string a0_12] 24 (0, 0)) (by (with_reducible repeat (first | refine blk_drewN ?_ _ | refine blk_drew ?_ | refine blk_alloc ?_ _)); exact BK187.out) hg (Kd.R_ne HO_5.out BK187.out (by decide)))
       have n2_ := Aside0.mk (blk_grown (g := gb193) (o := .cells #[.string ((rd_T49 t188 x7_1).f0), .int .i64 a1, .string ((rd_T49 t188 x7_1).f2)] 75 (0, 0)) (by (with_reducible repeat (first | refine blk_drewN ?_ _ | refine blk_drew ?_ | refine blk_alloc ?_ _)); exact BK193.out) hg (Kd.R_ne HO_5.out BK193.out (by decide)))
       have n3_ := Aside0.mk (Kd.R_after (ok := (fun _ => True)) (by (with_reducible repeat (first | apply Kd.R_alloc | apply Kd.R_drewN | apply Kd.R_drew)); exact HO200.out) hg hat)
       have n4_ := Aside0.mk (hb)
       have n5_ := Aside0.mk (ho)
       clear HO_6
       clear BK187
       clear BK193
       clear HO200
       clear HB
       clear HO_5
       have HO_6 := n0_
       have BK187 := n1_
       have BK193 := n2_
       have HO200 := n3_
       have HB := n4_
       have HO203 := n5_
       clear n0_ n1_ n2_ n3_ n4_ n5_
       clear ho hb hg hat
       refine hK.out _ _ ?_
       clear hK K
       refine norm_ (a' := ?_) ?_ ?_
       rotate_left
       ·show Act.put _ (some 59) _ = _
        simp only [Act.put, List.setIfInBounds_toArray, List.set_cons_zero, List.set_cons_succ, i64_w, i32_w]
        rfl
       refine pure_ (i := 28) (N := some 5) (v := ?_) (a' := ?_) #[true, true, true, true, true, true, true, true, true, true, true, true, true, true, true, true, true, true, true, true, true, true, true, true, true, true, true, true, true] rfl rfl (any_of HT_.out (by kernel_rfl)) (fun _ _ _ h => h) (Or.inl ⟨by rfl, ?_⟩) ?_ ?_
       rotate_left
       ·intro w'
        go_simp
        with_reducible rfl
       rotate_left
       ·simp only [Act.put, List.setIfInBounds_toArray, List.set_cons_zero, List.set_cons_succ, i64_w, i32_w]
        rfl
       refine done_ (done_of HT_.out (by kernel_rfl)) ?_
       try go_wp2
       go_roundg k1
       case measure => have := HK1.out; omega
       case rel => exact ⟨(y201), (wrap64 (x7_1 + 1)), (by first | rfl | (simp; done) | (simp [*]; done)), H', ⟨by have := HK1.out; omega⟩, ⟨by (with_reducible repeat (first | apply Kd.R_alloc | apply Kd.R_drewN | apply Kd.R_drew)); exact Kd.R_mono HO203.out (fun _ hk => trivial)⟩, ⟨by (with_reducible repeat (first | apply Kd.R_alloc | apply Kd.R_drewN | apply Kd.R_drew)); exact HO_6.out⟩, ⟨by (with_reducible repeat (first | refine blk_drewN ?_ _ | refine blk_drew ?_ | refine blk_alloc ?_ _)); exact BK187.out⟩, ⟨by repeat (first | (with_reducible first | exact HB.out | apply below_alloc | apply pw_below_drewN | apply below_drew1 | refine below_set ?_ GE187.out | refine below_set ?_ GE193.out) | exact HB.out)⟩⟩
      ·rw [if_neg c10] at H
       exact absurd H (by simp)
     ·rw [if_neg c9] at H
      have c9b0 : (x7_1 == 0) = false := beq_eq_false_iff_ne.mpr c9
      have c9b1 : (x7_1 != 0) = true := bne_iff_ne.mpr c9
      obtain ⟨y208, hy208⟩ : ∃ y_ : List (S77), y_ = (([(⟨(⟨(rd_T49 t188 x7_1).f0, 0, (rd_T49 t188 x7_1).f2⟩ : S75), wrap64 (-((rd_T49 t188 x7_1).f3))⟩ : S77), (⟨(⟨(rd_T49 t188 x7_1).f1, 0, (rd_T49 t188 x7_1).f2⟩ : S75), (rd_T49 t188 x7_1).f3⟩ : S77)] : List (S77))) := ⟨_, rfl⟩
      replace H : (if x5_1.length + y208.length < 2932031007402 then (giroref39_Postings.l0 k1 a1 (x5_1 ++ y208) t188 (wrap64 (x7_1 + 1))) else (none)) = some r := by first | (rw [hy208]; with_reducible exact H) | (have H2_ := (Option.bind_some _ _).symm.trans H; rw [hy208]; with_reducible exact H2_) | (have H2_ := (Option.bind_some _ _).symm.trans H; with_reducible exact H2_) | with_reducible exact H | (rw [hy208]; exact H) | exact H
      have Ny208 := Aside0.mk hy208
      clear hy208
      by_cases c25 : x5_1.length + y208.length < 2932031007402
      ·rw [if_pos c25] at H
       have LMc25 := Aside0.mk c25
       clear c25
       obtain ⟨y211, hy211⟩ : ∃ y_ : List (S77), y_ = (x5_1 ++ y208) := ⟨_, rfl⟩
       replace H : (giroref39_Postings.l0 k1 a1 y211 t188 (wrap64 (x7_1 + 1))) = some r := by first | (rw [hy211]; with_reducible exact H) | (have H2_ := (Option.bind_some _ _).symm.trans H; rw [hy211]; with_reducible exact H2_) | (have H2_ := (Option.bind_some _ _).symm.trans H; with_reducible exact H2_) | with_reducible exact H | (rw [hy211]; exact H) | exact H
       have Ny211 := Aside0.mk hy211
       clear hy211
       have H' := Aside0.mk H
       clear H
       obtain ⟨Ao26, co26, eo26⟩ := Kd.R_slice HO_6.out
       subst eo26
       try go_wp2
       have n0_ := Aside0.mk (Kd.R_drew HO_5.out)
       have n1_ := Aside0.mk (Kd.R_drew HO_6.out)
       have n2_ := Aside0.mk (blk_drew BK187.out)
       have n3_ := Aside0.mk (below_drew1 HB.out)
       clear HO_5
       clear HO_6
       clear BK187
       clear HB
       have HO_5 := n0_
       have HO_6 := n1_
       have BK187 := n2_
       have HB := n3_
       clear n0_ n1_ n2_ n3_
       have p191 : 0 ≤ (x7_1 : Int) := of_decide_eq_true (by first | (with_reducible assumption) | assumption)
       have q191 : x7_1 < (t188.length : Int) := of_decide_eq_true (by first | (with_reducible assumption) | assumption)
       obtain ⟨ad191, e191, hx191_0, hx191_1, hx191_2, hx191_3⟩ := at_T49 (Kd.R_reads' HO_6.out).2.2 x7_1 p191 q191
       cases e191
       replace p191 := eq_true p191
       replace q191 := eq_true q191
       have p192 : 0 ≤ (x7_1 : Int) := of_decide_eq_true (by first | (with_reducible assumption) | assumption)
       have q192 : x7_1 < (t188.length : Int) := of_decide_eq_true (by first | (with_reducible assumption) | assumption)
       obtain ⟨ad192, e192, hx192_0, hx192_1, hx192_2, hx192_3⟩ := at_T49 (Kd.R_reads' HO_6.out).2.2 x7_1 p192 q192
       obtain rfl : ad191 = ad192 := (by injection e192)
       replace p192 := eq_true p192
       replace q192 := eq_true q192
       refine start_ (n := 13) (S := fun w' => w'.cell? (ad191.add ((x7_1).toNat * 4)) = some (.string ((rd_T49 t188 x7_1).f0)) ∧ w'.cell? ⟨(ad191.add ((x7_1).toNat * 4)).block, (ad191.add ((x7_1).toNat * 4)).off + 1, none⟩ = some (.string ((rd_T49 t188 x7_1).f1)) ∧ w'.cell? ⟨(ad191.add ((x7_1).toNat * 4)).block, (ad191.add ((x7_1).toNat * 4)).off + 2, none⟩ = some (.string ((rd_T49 t188 x7_1).f2)) ∧ w'.cell? ⟨(ad191.add ((x7_1).toNat * 4)).block, (ad191.add ((x7_1).toNat * 4)).off + 3, none⟩ = some (.int .i64 ((rd_T49 t188 x7_1).f3)) ∧ w'.cell? (ad191.add ((x7_1).toNat * 4)) = some (.string ((rd_T49 t188 x7_1).f0)) ∧ w'.cell? ⟨(ad191.add ((x7_1).toNat * 4)).block, (ad191.add ((x7_1).toNat * 4)).off + 1, none⟩ = some (.string ((rd_T49 t188 x7_1).f1)) ∧ w'.cell? ⟨(ad191.add ((x7_1).toNat * 4)).block, (ad191.add ((x7_1).toNat * 4)).off + 2, none⟩ = some (.string ((rd_T49 t188 x7_1).f2)) ∧ w'.cell? ⟨(ad191.add ((x7_1).toNat * 4)).block, (ad191.add ((x7_1).toNat * 4)).off + 3, none⟩ = some (.int .i64 ((rd_T49 t188 x7_1).f3))) (ds := []) #[false, false, false, false, false, false, false, false, false, false, false, false, false] (by kernel_rfl) rfl rfl ⟨hx191_0, hx191_1, hx191_2, hx191_3, hx192_0, hx192_1, hx192_2, hx192_3⟩ (fun hHeld => ?_); refine with_tabW giroref39_Postings.tab6 giroref39_Postings.bits6 (fun HT_ HW_ => ?_)
       generalize wr.drew = w27 at HO_5 HO_6 BK187 HB hx191_0 hx191_1 hx191_2 hx191_3 hx192_0 hx192_1 hx192_2 hx192_3 hHeld ⊢
       refine pure_ (i := 0) (N := some 17) (v := ?_) (a' := ?_) #[true, false, false, false, false, false, false, false, false, false, false, false, false] rfl rfl (any_of HT_.out (by kernel_rfl)) (fun _ _ _ h => h) (Or.inl ⟨by rfl, ?_⟩) ?_ ?_
       rotate_left
       ·intro w'
        go_simp
        with_reducible rfl
       rotate_left
       ·simp only [Act.put, List.setIfInBounds_toArray, List.set_cons_zero, List.set_cons_succ, i64_w, i32_w]
        rfl
       refine pure_ (i := 1) (N := some 18) (v := ?_) (a' := ?_) #[true, true, false, false, false, false, false, false, false, false, false, false, false] rfl rfl (any_of HT_.out (by kernel_rfl)) (fun _ _ _ h => h) (Or.inl ⟨by rfl, ?_⟩) ?_ ?_
       rotate_left
       ·intro w'
        go_simp
        with_reducible rfl
       rotate_left
       ·simp only [Act.put, List.setIfInBounds_toArray, List.set_cons_zero, List.set_cons_succ, i64_w, i32_w]
        rfl
       refine pure_ (i := 2) (N := some 19) (v := ?_) (a' := ?_) #[true, true, true, false, false, false, false, false, false, false, false, false, false] rfl rfl (any_of HT_.out (by kernel_rfl)) (fun _ _ _ h => h) (Or.inl ⟨by rfl, ?_⟩) ?_ ?_
       rotate_left
       ·intro w'
        go_simp
        with_reducible rfl
       rotate_left
       ·simp only [Act.put, List.setIfInBounds_toArray, List.set_cons_zero, List.set_cons_succ, i64_w, i32_w]
        rfl
       refine pure_ (i := 3) (N := some 20) (v := ?_) (a' := ?_) #[true, true, true, true, false, false, false, false, false, false, false, false, false] rfl rfl (any_of HT_.out (by kernel_rfl)) (fun _ _ _ h => h) (Or.inl ⟨by rfl, ?_⟩) ?_ ?_
       rotate_left
       ·intro w'
        go_simp
        with_reducible rfl
       rotate_left
       ·simp only [Act.put, List.setIfInBounds_toArray, List.set_cons_zero, List.set_cons_succ, i64_w, i32_w]
        rfl
       refine pure_ (i := 5) (N := some 22) (v := ?_) (a' := ?_) #[true, true, true, true, false, true, false, false, false, false, false, false, false] rfl rfl (any_of HT_.out (by kernel_rfl)) (fun _ _ _ h => h) (Or.inl ⟨by rfl, ?_⟩) ?_ ?_
       rotate_left
       ·intro w'
        go_simp
        with_reducible rfl
       rotate_left
       ·simp only [Act.put, List.setIfInBounds_toArray, List.set_cons_zero, List.set_cons_succ, i64_w, i32_w]
        rfl
       refine pure_ (i := 6) (N := some 23) (v := ?_) (a' := ?_) #[true, true, true, true, false, true, true, false, false, false, false, false, false] rfl rfl (any_of HT_.out (by kernel_rfl)) (fun _ _ _ h => h) (Or.inl ⟨by rfl, ?_⟩) ?_ ?_
       rotate_left
       ·intro w'
        go_simp
        with_reducible rfl
       rotate_left
       ·simp only [Act.put, List.setIfInBounds_toArray, List.set_cons_zero, List.set_cons_succ, i64_w, i32_w]
        rfl
       refine pure_ (i := 7) (N := some 24) (v := ?_) (a' := ?_) #[true, true, true, true, false, true, true, true, false, false, false, false, false] rfl rfl (any_of HT_.out (by kernel_rfl)) (fun _ _ _ h => h) (Or.inl ⟨by rfl, ?_⟩) ?_ ?_
       rotate_left
       ·intro w'
        go_simp
        with_reducible rfl
       rotate_left
       ·simp only [Act.put, List.setIfInBounds_toArray, List.set_cons_zero, List.set_cons_succ, i64_w, i32_w]
        rfl
       refine pure_ (i := 8) (N := some 25) (v := ?_) (a' := ?_) #[true, true, true, true, false, true, true, true, true, false, false, false, false] rfl rfl (any_of HT_.out (by kernel_rfl)) (fun _ _ _ h => h) (Or.inl ⟨by rfl, ?_⟩) ?_ ?_
       rotate_left
       ·intro w'
        go_simp
        with_reducible rfl
       rotate_left
       ·simp only [Act.put, List.setIfInBounds_toArray, List.set_cons_zero, List.set_cons_succ, i64_w, i32_w]
        rfl
       refine take_ (i := 4) (N := some 21) (v := ?_) (a' := ?_) #[true, true, true, true, true, true, true, true, true, false, false, false, false] rfl rfl (take_ofW HT_.out HW_.out (by kernel_rfl)) (fun _ _ _ h => h) (Or.inl ⟨by rfl, ?_⟩) hHeld ?_ ?_
       rotate_left
       ·rintro w' ⟨s0, s1, s2, s3, s4, s5, s6, s7⟩
        go_simp
        with_reducible rfl
       rotate_left
       ·simp only [Act.put, List.setIfInBounds_toArray, List.set_cons_zero, List.set_cons_succ, i64_w, i32_w]
        rfl
       refine take_ (i := 9) (N := some 26) (v := ?_) (a' := ?_) #[true, true, true, true, true, true, true, true, true, true, false, false, false] rfl rfl (take_ofW HT_.out HW_.out (by kernel_rfl)) (fun _ _ _ h => h) (Or.inl ⟨by rfl, ?_⟩) hHeld ?_ ?_
       rotate_left
       ·rintro w' ⟨s0, s1, s2, s3, s4, s5, s6, s7⟩
        go_simp
        with_reducible rfl
       rotate_left
       ·simp only [Act.put, List.setIfInBounds_toArray, List.set_cons_zero, List.set_cons_succ, i64_w, i32_w]
        rfl
       refine pure_ (i := 10) (N := some 27) (v := ?_) (a' := ?_) #[true, true, true, true, true, true, true, true, true, true, true, false, false] rfl rfl (any_of HT_.out (by kernel_rfl)) (fun _ _ _ h => h) (Or.inl ⟨by rfl, ?_⟩) ?_ ?_
       rotate_left
       ·intro w'
        go_simp
        with_reducible rfl
       rotate_left
       ·simp only [Act.put, List.setIfInBounds_toArray, List.set_cons_zero, List.set_cons_succ, i64_w, i32_w]
        rfl
       refine one_ (i := 11) (N := some 8) #[true, true, true, true, true, true, true, true, true, true, true, true, false] rfl rfl (one_of HT_.out (by kernel_rfl)) (by decide) (fun K hK => ?_)
       refine box_step ?hg (N := 8) ?hd (cs := #[.string (⟨#[]⟩ : ByteArray), .int .i64 0, .string (⟨#[]⟩ : ByteArray)]) (t := 75) ?hr ?_; (case hd => rfl); (case hg => rfl); (case hr => first | (go_simp; done) | (go_simp; rfl))
       intro gb193 hg w28 hbox hb
       have HS0_ := (hb.cell (World.block_lt_of_cell? _ _ (hHeld.1))).trans (hHeld.1)
       have HS1_ := (hb.cell (World.block_lt_of_cell? _ _ (hHeld.2.1))).trans (hHeld.2.1)
       have HS2_ := (hb.cell (World.block_lt_of_cell? _ _ (hHeld.2.2.1))).trans (hHeld.2.2.1)
       have HS3_ := (hb.cell (World.block_lt_of_cell? _ _ (hHeld.2.2.2.1))).trans (hHeld.2.2.2.1)
       have HS4_ := (hb.cell (World.block_lt_of_cell? _ _ (hHeld.2.2.2.2.1))).trans (hHeld.2.2.2.2.1)
       have HS5_ := (hb.cell (World.block_lt_of_cell? _ _ (hHeld.2.2.2.2.2.1))).trans (hHeld.2.2.2.2.2.1)
       have HS6_ := (hb.cell (World.block_lt_of_cell? _ _ (hHeld.2.2.2.2.2.2.1))).trans (hHeld.2.2.2.2.2.2.1)
       have HS7_ := (hb.cell (World.block_lt_of_cell? _ _ (hHeld.2.2.2.2.2.2.2))).trans (hHeld.2.2.2.2.2.2.2)
       have n0_ := Aside0.mk (Kd.R_below (by (with_reducible repeat (first | apply Kd.R_alloc | apply Kd.R_drewN | apply Kd.R_drew)); exact HO_5.out) hb)
       have n1_ := Aside0.mk (Kd.R_below (by (with_reducible repeat (first | apply Kd.R_alloc | apply Kd.R_drewN | apply Kd.R_drew)); exact HO_6.out) hb)
       have n2_ := Aside0.mk (blk_below (g := gb187) (o := .cells #[.int .i64 a0_0, .string a0_1, .string a0_2, .string a0_3, .int .i64 a0_4, .int .i64 a0_5, .int .i64 a0_6, .int .i64 a0_7, .int .i64 a0_8, .bool a0_9, .int .i64 a0_10, .string a0_11, .string a0_12] 24 (0, 0)) (by (with_reducible repeat (first | refine blk_drewN ?_ _ | refine blk_drew ?_ | refine blk_alloc ?_ _)); exact BK187.out) hb)
       have n3_ := Aside0.mk (below_step (by repeat (first | (with_reducible first | exact HB.out | apply below_alloc | apply pw_below_drewN | apply below_drew1 | refine below_set ?_ GE187.out) | exact HB.out)) hb)
       have n4_ := Aside0.mk (hbox)
       have n5_ := Aside0.mk ((by rw [hg]; exact (below_size (by repeat (first | (with_reducible first | exact HB.out | apply below_alloc | apply pw_below_drewN | apply below_drew1 | refine below_set ?_ GE187.out) | exact HB.out))) : w.heap.size ≤ gb193))
       have n6_ := Aside0.mk ((by rw [hg]; exact (below_size (by repeat (first | (with_reducible first | exact HB.out | apply below_alloc | apply pw_below_drewN | apply below_drew1 | refine below_set ?_ GE187.out) | exact HB.out))) : w.heap.size ≤ gb193))
       have n7_ := Aside0.mk ((by rw [hg]; exact Nat.ne_of_lt (blk_lt (g := gb187) (o := .cells #[.int .i64 a0_0, .string a0_1, .string a0_2, .string a0_3, .int .i64 a0_4, .int .i64 a0_5, .int .i64 a0_6, .int .i64 a0_7, .int .i64 a0_8, .bool a0_9, .int .i64 a0_10, .string a0_11, .string a0_12] 24 (0, 0)) (by (with_reducible repeat (first | refine blk_drewN ?_ _ | refine blk_drew ?_ | refine blk_alloc ?_ _)); exact BK187.out)) : gb187 ≠ gb193))
       have n8_ := Aside0.mk ((by rw [hg]; exact Nat.ne_of_gt (blk_lt (g := gb187) (o := .cells #[.int .i64 a0_0, .string a0_1, .string a0_2, .string a0_3, .int .i64 a0_4, .int .i64 a0_5, .int .i64 a0_6, .int .i64 a0_7, .int .i64 a0_8, .bool a0_9, .int .i64 a0_10, .string a0_11, .string a0_12] 24 (0, 0)) (by (with_reducible repeat (first | refine blk_drewN ?_ _ | refine blk_drew ?_ | refine blk_alloc ?_ _)); exact BK187.out)) : gb193 ≠ gb187))
       clear HO_5
       clear HO_6
       clear BK187
       clear HB
       have HO_5 := n0_
       have HO_6 := n1_
       have BK187 := n2_
       have HB := n3_
       have BK193 := n4_
       have GW193 := n5_
       have GE193 := n6_
       have NB187_193 := n7_
       have NB193_187 := n8_
       clear n0_ n1_ n2_ n3_ n4_ n5_ n6_ n7_ n8_
       clear hb hbox hg
       refine hK.out _ _ ⟨HS0_, HS1_, HS2_, HS3_, HS4_, HS5_, HS6_, HS7_⟩ (fun hHeld => ?_)
       clear hK K
       refine norm_ (a' := ?_) ?_ ?_
       rotate_left
       ·show Act.put _ (some 8) _ = _
        simp only [Act.put, List.setIfInBounds_toArray, List.set_cons_zero, List.set_cons_succ, i64_w, i32_w]
        rfl
       refine one_ (i := 12) (N := none) #[true, true, true, true, true, true, true, true, true, true, true, true, true] rfl rfl (one_of HT_.out (by kernel_rfl)) (by decide) (fun K hK => ?_)
       have hs29 : w28.cell? ⟨gb193, 0, none⟩ = some (.string (⟨#[]⟩ : ByteArray)) := (blk_cell BK193.out 0).trans rfl
       have hfs29 := blk_frozen BK193.out 0
       have hns29_0 := NB187_193.out
       have hms29_0 := NB193_187.out
       have hs30 : w28.cell? ⟨gb193, 1, none⟩ = some (.int .i64 0) := (blk_cell BK193.out 1).trans rfl
       have hfs30 := blk_frozen BK193.out 1
       have hns30_0 := NB187_193.out
       have hms30_0 := NB193_187.out
       have hs31 : w28.cell? ⟨gb193, 2, none⟩ = some (.string (⟨#[]⟩ : ByteArray)) := (blk_cell BK193.out 2).trans rfl
       have hfs31 := blk_frozen BK193.out 2
       have hns31_0 := NB187_193.out
       have hms31_0 := NB193_187.out
       refine skip_ (w1 := ?_) (by rfl) rfl ?_ ?_
       rotate_left
       ·go_simp
        rfl
       refine hK.out _ _ ⟨((cell_far (p := ⟨gb193, _, none⟩) (by first | exact Kd.own_blk (Kd.R_ne HO_6.out BK193.out (by decide)) | (rw [add_block]; exact Kd.own_blk (Kd.R_ne HO_6.out BK193.out (by decide))) | (show (Addr.add _ _).block ≠ _; rw [add_block]; exact Kd.own_blk (Kd.R_ne HO_6.out BK193.out (by decide))) | (dsimp only; exact Kd.own_blk (Kd.R_ne HO_6.out BK193.out (by decide)))) _).trans (((cell_far (p := ⟨gb193, _, none⟩) (by first | exact Kd.own_blk (Kd.R_ne HO_6.out BK193.out (by decide)) | (rw [add_block]; exact Kd.own_blk (Kd.R_ne HO_6.out BK193.out (by decide))) | (show (Addr.add _ _).block ≠ _; rw [add_block]; exact Kd.own_blk (Kd.R_ne HO_6.out BK193.out (by decide))) | (dsimp only; exact Kd.own_blk (Kd.R_ne HO_6.out BK193.out (by decide)))) _).trans (((cell_far (p := ⟨gb193, _, none⟩) (by first | exact Kd.own_blk (Kd.R_ne HO_6.out BK193.out (by decide)) | (rw [add_block]; exact Kd.own_blk (Kd.R_ne HO_6.out BK193.out (by decide))) | (show (Addr.add _ _).block ≠ _; rw [add_block]; exact Kd.own_blk (Kd.R_ne HO_6.out BK193.out (by decide))) | (dsimp only; exact Kd.own_blk (Kd.R_ne HO_6.out BK193.out (by decide)))) _).trans (hHeld.1)))))), ((cell_far (p := ⟨gb193, _, none⟩) (by first | exact Kd.own_blk (Kd.R_ne HO_6.out BK193.out (by decide)) | (rw [add_block]; exact Kd.own_blk (Kd.R_ne HO_6.out BK193.out (by decide))) | (show (Addr.add _ _).block ≠ _; rw [add_block]; exact Kd.own_blk (Kd.R_ne HO_6.out BK193.out (by decide))) | (dsimp only; exact Kd.own_blk (Kd.R_ne HO_6.out BK193.out (by decide)))) _).trans (((cell_far (p := ⟨gb193, _, none⟩) (by first | exact Kd.own_blk (Kd.R_ne HO_6.out BK193.out (by decide)) | (rw [add_block]; exact Kd.own_blk (Kd.R_ne HO_6.out BK193.out (by decide))) | (show (Addr.add _ _).block ≠ _; rw [add_block]; exact Kd.own_blk (Kd.R_ne HO_6.out BK193.out (by decide))) | (dsimp only; exact Kd.own_blk (Kd.R_ne HO_6.out BK193.out (by decide)))) _).trans (((cell_far (p := ⟨gb193, _, none⟩) (by first | exact Kd.own_blk (Kd.R_ne HO_6.out BK193.out (by decide)) | (rw [add_block]; exact Kd.own_blk (Kd.R_ne HO_6.out BK193.out (by decide))) | (show (Addr.add _ _).block ≠ _; rw [add_block]; exact Kd.own_blk (Kd.R_ne HO_6.out BK193.out (by decide))) | (dsimp only; exact Kd.own_blk (Kd.R_ne HO_6.out BK193.out (by decide)))) _).trans (hHeld.2.1)))))), ((cell_far (p := ⟨gb193, _, none⟩) (by first | exact Kd.own_blk (Kd.R_ne HO_6.out BK193.out (by decide)) | (rw [add_block]; exact Kd.own_blk (Kd.R_ne HO_6.out BK193.out (by decide))) | (show (Addr.add _ _).block ≠ _; rw [add_block]; exact Kd.own_blk (Kd.R_ne HO_6.out BK193.out (by decide))) | (dsimp only; exact Kd.own_blk (Kd.R_ne HO_6.out BK193.out (by decide)))) _).trans (((cell_far (p := ⟨gb193, _, none⟩) (by first | exact Kd.own_blk (Kd.R_ne HO_6.out BK193.out (by decide)) | (rw [add_block]; exact Kd.own_blk (Kd.R_ne HO_6.out BK193.out (by decide))) | (show (Addr.add _ _).block ≠ _; rw [add_block]; exact Kd.own_blk (Kd.R_ne HO_6.out BK193.out (by decide))) | (dsimp only; exact Kd.own_blk (Kd.R_ne HO_6.out BK193.out (by decide)))) _).trans (((cell_far (p := ⟨gb193, _, none⟩) (by first | exact Kd.own_blk (Kd.R_ne HO_6.out BK193.out (by decide)) | (rw [add_block]; exact Kd.own_blk (Kd.R_ne HO_6.out BK193.out (by decide))) | (show (Addr.add _ _).block ≠ _; rw [add_block]; exact Kd.own_blk (Kd.R_ne HO_6.out BK193.out (by decide))) | (dsimp only; exact Kd.own_blk (Kd.R_ne HO_6.out BK193.out (by decide)))) _).trans (hHeld.2.2.1)))))), ((cell_far (p := ⟨gb193, _, none⟩) (by first | exact Kd.own_blk (Kd.R_ne HO_6.out BK193.out (by decide)) | (rw [add_block]; exact Kd.own_blk (Kd.R_ne HO_6.out BK193.out (by decide))) | (show (Addr.add _ _).block ≠ _; rw [add_block]; exact Kd.own_blk (Kd.R_ne HO_6.out BK193.out (by decide))) | (dsimp only; exact Kd.own_blk (Kd.R_ne HO_6.out BK193.out (by decide)))) _).trans (((cell_far (p := ⟨gb193, _, none⟩) (by first | exact Kd.own_blk (Kd.R_ne HO_6.out BK193.out (by decide)) | (rw [add_block]; exact Kd.own_blk (Kd.R_ne HO_6.out BK193.out (by decide))) | (show (Addr.add _ _).block ≠ _; rw [add_block]; exact Kd.own_blk (Kd.R_ne HO_6.out BK193.out (by decide))) | (dsimp only; exact Kd.own_blk (Kd.R_ne HO_6.out BK193.out (by decide)))) _).trans (((cell_far (p := ⟨gb193, _, none⟩) (by first | exact Kd.own_blk (Kd.R_ne HO_6.out BK193.out (by decide)) | (rw [add_block]; exact Kd.own_blk (Kd.R_ne HO_6.out BK193.out (by decide))) | (show (Addr.add _ _).block ≠ _; rw [add_block]; exact Kd.own_blk (Kd.R_ne HO_6.out BK193.out (by decide))) | (dsimp only; exact Kd.own_blk (Kd.R_ne HO_6.out BK193.out (by decide)))) _).trans (hHeld.2.2.2.1)))))), ((cell_far (p := ⟨gb193, _, none⟩) (by first | exact Kd.own_blk (Kd.R_ne HO_6.out BK193.out (by decide)) | (rw [add_block]; exact Kd.own_blk (Kd.R_ne HO_6.out BK193.out (by decide))) | (show (Addr.add _ _).block ≠ _; rw [add_block]; exact Kd.own_blk (Kd.R_ne HO_6.out BK193.out (by decide))) | (dsimp only; exact Kd.own_blk (Kd.R_ne HO_6.out BK193.out (by decide)))) _).trans (((cell_far (p := ⟨gb193, _, none⟩) (by first | exact Kd.own_blk (Kd.R_ne HO_6.out BK193.out (by decide)) | (rw [add_block]; exact Kd.own_blk (Kd.R_ne HO_6.out BK193.out (by decide))) | (show (Addr.add _ _).block ≠ _; rw [add_block]; exact Kd.own_blk (Kd.R_ne HO_6.out BK193.out (by decide))) | (dsimp only; exact Kd.own_blk (Kd.R_ne HO_6.out BK193.out (by decide)))) _).trans (((cell_far (p := ⟨gb193, _, none⟩) (by first | exact Kd.own_blk (Kd.R_ne HO_6.out BK193.out (by decide)) | (rw [add_block]; exact Kd.own_blk (Kd.R_ne HO_6.out BK193.out (by decide))) | (show (Addr.add _ _).block ≠ _; rw [add_block]; exact Kd.own_blk (Kd.R_ne HO_6.out BK193.out (by decide))) | (dsimp only; exact Kd.own_blk (Kd.R_ne HO_6.out BK193.out (by decide)))) _).trans (hHeld.2.2.2.2.1)))))), ((cell_far (p := ⟨gb193, _, none⟩) (by first | exact Kd.own_blk (Kd.R_ne HO_6.out BK193.out (by decide)) | (rw [add_block]; exact Kd.own_blk (Kd.R_ne HO_6.out BK193.out (by decide))) | (show (Addr.add _ _).block ≠ _; rw [add_block]; exact Kd.own_blk (Kd.R_ne HO_6.out BK193.out (by decide))) | (dsimp only; exact Kd.own_blk (Kd.R_ne HO_6.out BK193.out (by decide)))) _).trans (((cell_far (p := ⟨gb193, _, none⟩) (by first | exact Kd.own_blk (Kd.R_ne HO_6.out BK193.out (by decide)) | (rw [add_block]; exact Kd.own_blk (Kd.R_ne HO_6.out BK193.out (by decide))) | (show (Addr.add _ _).block ≠ _; rw [add_block]; exact Kd.own_blk (Kd.R_ne HO_6.out BK193.out (by decide))) | (dsimp only; exact Kd.own_blk (Kd.R_ne HO_6.out BK193.out (by decide)))) _).trans (((cell_far (p := ⟨gb193, _, none⟩) (by first | exact Kd.own_blk (Kd.R_ne HO_6.out BK193.out (by decide)) | (rw [add_block]; exact Kd.own_blk (Kd.R_ne HO_6.out BK193.out (by decide))) | (show (Addr.add _ _).block ≠ _; rw [add_block]; exact Kd.own_blk (Kd.R_ne HO_6.out BK193.out (by decide))) | (dsimp only; exact Kd.own_blk (Kd.R_ne HO_6.out BK193.out (by decide)))) _).trans (hHeld.2.2.2.2.2.1)))))), ((cell_far (p := ⟨gb193, _, none⟩) (by first | exact Kd.own_blk (Kd.R_ne HO_6.out BK193.out (by decide)) | (rw [add_block]; exact Kd.own_blk (Kd.R_ne HO_6.out BK193.out (by decide))) | (show (Addr.add _ _).block ≠ _; rw [add_block]; exact Kd.own_blk (Kd.R_ne HO_6.out BK193.out (by decide))) | (dsimp only; exact Kd.own_blk (Kd.R_ne HO_6.out BK193.out (by decide)))) _).trans (((cell_far (p := ⟨gb193, _, none⟩) (by first | exact Kd.own_blk (Kd.R_ne HO_6.out BK193.out (by decide)) | (rw [add_block]; exact Kd.own_blk (Kd.R_ne HO_6.out BK193.out (by decide))) | (show (Addr.add _ _).block ≠ _; rw [add_block]; exact Kd.own_blk (Kd.R_ne HO_6.out BK193.out (by decide))) | (dsimp only; exact Kd.own_blk (Kd.R_ne HO_6.out BK193.out (by decide)))) _).trans (((cell_far (p := ⟨gb193, _, none⟩) (by first | exact Kd.own_blk (Kd.R_ne HO_6.out BK193.out (by decide)) | (rw [add_block]; exact Kd.own_blk (Kd.R_ne HO_6.out BK193.out (by decide))) | (show (Addr.add _ _).block ≠ _; rw [add_block]; exact Kd.own_blk (Kd.R_ne HO_6.out BK193.out (by decide))) | (dsimp only; exact Kd.own_blk (Kd.R_ne HO_6.out BK193.out (by decide)))) _).trans (hHeld.2.2.2.2.2.2.1)))))), ((cell_far (p := ⟨gb193, _, none⟩) (by first | exact Kd.own_blk (Kd.R_ne HO_6.out BK193.out (by decide)) | (rw [add_block]; exact Kd.own_blk (Kd.R_ne HO_6.out BK193.out (by decide))) | (show (Addr.add _ _).block ≠ _; rw [add_block]; exact Kd.own_blk (Kd.R_ne HO_6.out BK193.out (by decide))) | (dsimp only; exact Kd.own_blk (Kd.R_ne HO_6.out BK193.out (by decide)))) _).trans (((cell_far (p := ⟨gb193, _, none⟩) (by first | exact Kd.own_blk (Kd.R_ne HO_6.out BK193.out (by decide)) | (rw [add_block]; exact Kd.own_blk (Kd.R_ne HO_6.out BK193.out (by decide))) | (show (Addr.add _ _).block ≠ _; rw [add_block]; exact Kd.own_blk (Kd.R_ne HO_6.out BK193.out (by decide))) | (dsimp only; exact Kd.own_blk (Kd.R_ne HO_6.out BK193.out (by decide)))) _).trans (((cell_far (p := ⟨gb193, _, none⟩) (by first | exact Kd.own_blk (Kd.R_ne HO_6.out BK193.out (by decide)) | (rw [add_block]; exact Kd.own_blk (Kd.R_ne HO_6.out BK193.out (by decide))) | (show (Addr.add _ _).block ≠ _; rw [add_block]; exact Kd.own_blk (Kd.R_ne HO_6.out BK193.out (by decide))) | (dsimp only; exact Kd.own_blk (Kd.R_ne HO_6.out BK193.out (by decide)))) _).trans (hHeld.2.2.2.2.2.2.2))))))⟩ (fun hHeld => ?_)
       clear hK K
       refine done_ (done_of HT_.out (by kernel_rfl)) ?_
       try go_wp2
       have n0_ : Aside0 (Kd.R k77 77 (((w28.setCell ⟨gb193, 0, none⟩ (.string ((rd_T49 t188 x7_1).f0))).setCell ⟨gb193, 1, none⟩ (.int .i64 0)).setCell ⟨gb193, 2, none⟩ (.string ((rd_T49 t188 x7_1).f2))) w.heap.size (fun _ => True) u5 x5_1) := ⟨by (with_reducible repeat (first | apply Kd.R_alloc | apply Kd.R_drewN | apply Kd.R_drew)); exact Kd.R_mono (Kd.R_far (p := ⟨gb193, 2, none⟩) (Kd.R_far (p := ⟨gb193, 1, none⟩) (Kd.R_far (p := ⟨gb193, 0, none⟩) (Kd.R_types HO_5.out BK193.out (by decide)) (fun _ hk => hk.2) (.string ((rd_T49 t188 x7_1).f0))) (fun _ hk => hk.2) (.int .i64 0)) (fun _ hk => hk.2) (.string ((rd_T49 t188 x7_1).f2))) (fun _ hk => trivial)⟩
       have n1_ : Aside0 (Kd.R k49 49 (((w28.setCell ⟨gb193, 0, none⟩ (.string ((rd_T49 t188 x7_1).f0))).setCell ⟨gb193, 1, none⟩ (.int .i64 0)).setCell ⟨gb193, 2, none⟩ (.string ((rd_T49 t188 x7_1).f2))) w.heap.size (fun _ => True) (.slice (some ad191) t188.length co26) t188) := ⟨by (with_reducible repeat (first | apply Kd.R_alloc | apply Kd.R_drewN | apply Kd.R_drew)); exact Kd.R_mono (Kd.R_far (p := ⟨gb193, 2, none⟩) (Kd.R_far (p := ⟨gb193, 1, none⟩) (Kd.R_far (p := ⟨gb193, 0, none⟩) (Kd.R_types HO_6.out BK193.out (by decide)) (fun _ hk => hk.2) (.string ((rd_T49 t188 x7_1).f0))) (fun _ hk => hk.2) (.int .i64 0)) (fun _ hk => hk.2) (.string ((rd_T49 t188 x7_1).f2))) (fun _ hk => trivial)⟩
       have n2_ : Aside0 ((((w28.setCell ⟨gb193, 0, none⟩ (.string ((rd_T49 t188 x7_1).f0))).setCell ⟨gb193, 1, none⟩ (.int .i64 0)).setCell ⟨gb193, 2, none⟩ (.string ((rd_T49 t188 x7_1).f2))).heap[gb187]? = some (.cells #[.int .i64 a0_0, .string a0_1, .string a0_2, .string a0_3, .int .i64 a0_4, .int .i64 a0_5, .int .i64 a0_6, .int .i64 a0_7, .int .i64 a0_8, .bool a0_9, .int .i64 a0_10, .string a0_11, .string a0_12] 24 (0, 0))) := ⟨by (with_reducible repeat (first | refine blk_drewN ?_ _ | refine blk_drew ?_ | refine blk_alloc ?_ _)); refine blk_far ?_ NB187_193.out _; (with_reducible repeat (first | refine blk_drewN ?_ _ | refine blk_drew ?_ | refine blk_alloc ?_ _)); refine blk_far ?_ NB187_193.out _; (with_reducible repeat (first | refine blk_drewN ?_ _ | refine blk_drew ?_ | refine blk_alloc ?_ _)); refine blk_far ?_ NB187_193.out _; (with_reducible repeat (first | refine blk_drewN ?_ _ | refine blk_drew ?_ | refine blk_alloc ?_ _)); exact BK187.out⟩
       have n3_ : Aside0 ((((w28.setCell ⟨gb193, 0, none⟩ (.string ((rd_T49 t188 x7_1).f0))).setCell ⟨gb193, 1, none⟩ (.int .i64 0)).setCell ⟨gb193, 2, none⟩ (.string ((rd_T49 t188 x7_1).f2))).heap[gb193]? = some (.cells #[.string ((rd_T49 t188 x7_1).f0), .int .i64 0, .string ((rd_T49 t188 x7_1).f2)] 75 (0, 0))) := ⟨by (with_reducible repeat (first | refine blk_drewN ?_ _ | refine blk_drew ?_ | refine blk_alloc ?_ _)); refine blk_put (cs := #[.string ((rd_T49 t188 x7_1).f0), .int .i64 0, .string (⟨#[]⟩ : ByteArray)]) ?_ 2 _ rfl; (with_reducible repeat (first | refine blk_drewN ?_ _ | refine blk_drew ?_ | refine blk_alloc ?_ _)); refine blk_put (cs := #[.string ((rd_T49 t188 x7_1).f0), .int .i64 0, .string (⟨#[]⟩ : ByteArray)]) ?_ 1 _ rfl; (with_reducible repeat (first | refine blk_drewN ?_ _ | refine blk_drew ?_ | refine blk_alloc ?_ _)); refine blk_put (cs := #[.string (⟨#[]⟩ : ByteArray), .int .i64 0, .string (⟨#[]⟩ : ByteArray)]) ?_ 0 _ rfl; (with_reducible repeat (first | refine blk_drewN ?_ _ | refine blk_drew ?_ | refine blk_alloc ?_ _)); exact BK193.out⟩
       have n4_ : Aside0 (Below w.heap.size w (((w28.setCell ⟨gb193, 0, none⟩ (.string ((rd_T49 t188 x7_1).f0))).setCell ⟨gb193, 1, none⟩ (.int .i64 0)).setCell ⟨gb193, 2, none⟩ (.string ((rd_T49 t188 x7_1).f2)))) := ⟨by repeat (first | (with_reducible first | exact HB.out | apply below_alloc | apply pw_below_drewN | apply below_drew1 | refine below_set ?_ GE187.out | refine below_set ?_ GE193.out) | exact HB.out)⟩
       (try clear HO_5)
       (try clear HO_6)
       (try clear BK187)
       (try clear BK193)
       (try clear HB)
       generalize (((w28.setCell ⟨gb193, 0, none⟩ (.string ((rd_T49 t188 x7_1).f0))).setCell ⟨gb193, 1, none⟩ (.int .i64 0)).setCell ⟨gb193, 2, none⟩ (.string ((rd_T49 t188 x7_1).f2))) = w32 at n0_ n1_ n2_ n3_ n4_ ⊢
       have HO_5 := n0_
       have HO_6 := n1_
       have BK187 := n2_
       have BK193 := n3_
       have HB := n4_
       clear n0_ n1_ n2_ n3_ n4_
       have n0_ := Aside0.mk (Kd.R_drew HO_5.out)
       have n1_ := Aside0.mk (Kd.R_drew HO_6.out)
       have n2_ := Aside0.mk (blk_drew BK187.out)
       have n3_ := Aside0.mk (blk_drew BK193.out)
       have n4_ := Aside0.mk (below_drew1 HB.out)
       clear HO_5
       clear HO_6
       clear BK187
       clear BK193
       clear HB
       have HO_5 := n0_
       have HO_6 := n1_
       have BK187 := n2_
       have BK193 := n3_
       have HB := n4_
       clear n0_ n1_ n2_ n3_ n4_
       have p204 : 0 ≤ (x7_1 : Int) := of_decide_eq_true (by first | (with_reducible assumption) | assumption)
       have q204 : x7_1 < (t188.length : Int) := of_decide_eq_true (by first | (with_reducible assumption) | assumption)
       obtain ⟨ad204, e204, hx204_0, hx204_1, hx204_2, hx204_3⟩ := at_T49 (Kd.R_reads' HO_6.out).2.2 x7_1 p204 q204
       obtain rfl : ad191 = ad204 := (by injection e204)
       replace p204 := eq_true p204
       replace q204 := eq_true q204
       have p205 : 0 ≤ (x7_1 : Int) := of_decide_eq_true (by first | (with_reducible assumption) | assumption)
       have q205 : x7_1 < (t188.length : Int) := of_decide_eq_true (by first | (with_reducible assumption) | assumption)
       obtain ⟨ad205, e205, hx205_0, hx205_1, hx205_2, hx205_3⟩ := at_T49 (Kd.R_reads' HO_6.out).2.2 x7_1 p205 q205
       obtain rfl : ad191 = ad205 := (by injection e205)
       replace p205 := eq_true p205
       replace q205 := eq_true q205
       have p206 : 0 ≤ (x7_1 : Int) := of_decide_eq_true (by first | (with_reducible assumption) | assumption)
       have q206 : x7_1 < (t188.length : Int) := of_decide_eq_true (by first | (with_reducible assumption) | assumption)
       obtain ⟨ad206, e206, hx206_0, hx206_1, hx206_2, hx206_3⟩ := at_T49 (Kd.R_reads' HO_6.out).2.2 x7_1 p206 q206
       obtain rfl : ad191 = ad206 := (by injection e206)
       replace p206 := eq_true p206
       replace q206 := eq_true q206
       have p207 : 0 ≤ (x7_1 : Int) := of_decide_eq_true (by first | (with_reducible assumption) | assumption)
       have q207 : x7_1 < (t188.length : Int) := of_decide_eq_true (by first | (with_reducible assumption) | assumption)
       obtain ⟨ad207, e207, hx207_0, hx207_1, hx207_2, hx207_3⟩ := at_T49 (Kd.R_reads' HO_6.out).2.2 x7_1 p207 q207
       obtain rfl : ad191 = ad207 := (by injection e207)
       replace p207 := eq_true p207
       replace q207 := eq_true q207
       refine start_ (n := 29) (S := fun w' => w'.cell? ⟨gb193, 0, none⟩ = some (.string ((rd_T49 t188 x7_1).f0)) ∧ w'.cell? ⟨gb193, 1, none⟩ = some (.int .i64 0) ∧ w'.cell? ⟨gb193, 2, none⟩ = some (.string ((rd_T49 t188 x7_1).f2)) ∧ w'.cell? (ad191.add ((x7_1).toNat * 4)) = some (.string ((rd_T49 t188 x7_1).f0)) ∧ w'.cell? ⟨(ad191.add ((x7_1).toNat * 4)).block, (ad191.add ((x7_1).toNat * 4)).off + 1, none⟩ = some (.string ((rd_T49 t188 x7_1).f1)) ∧ w'.cell? ⟨(ad191.add ((x7_1).toNat * 4)).block, (ad191.add ((x7_1).toNat * 4)).off + 2, none⟩ = some (.string ((rd_T49 t188 x7_1).f2)) ∧ w'.cell? ⟨(ad191.add ((x7_1).toNat * 4)).block, (ad191.add ((x7_1).toNat * 4)).off + 3, none⟩ = some (.int .i64 ((rd_T49 t188 x7_1).f3)) ∧ w'.cell? (ad191.add ((x7_1).toNat * 4)) = some (.string ((rd_T49 t188 x7_1).f0)) ∧ w'.cell? ⟨(ad191.add ((x7_1).toNat * 4)).block, (ad191.add ((x7_1).toNat * 4)).off + 1, none⟩ = some (.string ((rd_T49 t188 x7_1).f1)) ∧ w'.cell? ⟨(ad191.add ((x7_1).toNat * 4)).block, (ad191.add ((x7_1).toNat * 4)).off + 2, none⟩ = some (.string ((rd_T49 t188 x7_1).f2)) ∧ w'.cell? ⟨(ad191.add ((x7_1).toNat * 4)).block, (ad191.add ((x7_1).toNat * 4)).off + 3, none⟩ = some (.int .i64 ((rd_T49 t188 x7_1).f3)) ∧ w'.cell? (ad191.add ((x7_1).toNat * 4)) = some (.string ((rd_T49 t188 x7_1).f0)) ∧ w'.cell? ⟨(ad191.add ((x7_1).toNat * 4)).block, (ad191.add ((x7_1).toNat * 4)).off + 1, none⟩ = some (.string ((rd_T49 t188 x7_1).f1)) ∧ w'.cell? ⟨(ad191.add ((x7_1).toNat * 4)).block, (ad191.add ((x7_1).toNat * 4)).off + 2, none⟩ = some (.string ((rd_T49 t188 x7_1).f2)) ∧ w'.cell? ⟨(ad191.add ((x7_1).toNat * 4)).block, (ad191.add ((x7_1).toNat * 4)).off + 3, none⟩ = some (.int .i64 ((rd_T49 t188 x7_1).f3)) ∧ w'.cell? (ad191.add ((x7_1).toNat * 4)) = some (.string ((rd_T49 t188 x7_1).f0)) ∧ w'.cell? ⟨(ad191.add ((x7_1).toNat * 4)).block, (ad191.add ((x7_1).toNat * 4)).off + 1, none⟩ = some (.string ((rd_T49 t188 x7_1).f1)) ∧ w'.cell? ⟨(ad191.add ((x7_1).toNat * 4)).block, (ad191.add ((x7_1).toNat * 4)).off + 2, none⟩ = some (.string ((rd_T49 t188 x7_1).f2)) ∧ w'.cell? ⟨(ad191.add ((x7_1).toNat * 4)).block, (ad191.add ((x7_1).toNat * 4)).off + 3, none⟩ = some (.int .i64 ((rd_T49 t188 x7_1).f3))) (ds := [27]) #[false, false, false, false, false, false, false, false, false, false, false, false, false, false, false, false, false, false, false, false, false, false, false, false, false, false, false, false, false] (by kernel_rfl) rfl rfl ⟨(blk_cell BK193.out 0).trans rfl, (blk_cell BK193.out 1).trans rfl, (blk_cell BK193.out 2).trans rfl, hx204_0, hx204_1, hx204_2, hx204_3, hx205_0, hx205_1, hx205_2, hx205_3, hx206_0, hx206_1, hx206_2, hx206_3, hx207_0, hx207_1, hx207_2, hx207_3⟩ (fun hHeld => ?_); refine with_tabW giroref39_Postings.tab9 giroref39_Postings.bits9 (fun HT_ HW_ => ?_)
       generalize w32.drew = w33 at HO_5 HO_6 BK187 BK193 HB hx204_0 hx204_1 hx204_2 hx204_3 hx205_0 hx205_1 hx205_2 hx205_3 hx206_0 hx206_1 hx206_2 hx206_3 hx207_0 hx207_1 hx207_2 hx207_3 hHeld ⊢
       refine pure_ (i := 0) (N := some 32) (v := ?_) (a' := ?_) #[true, false, false, false, false, false, false, false, false, false, false, false, false, false, false, false, false, false, false, false, false, false, false, false, false, false, false, false, false] rfl rfl (any_of HT_.out (by kernel_rfl)) (fun _ _ _ h => h) (Or.inl ⟨by rfl, ?_⟩) ?_ ?_
       rotate_left
       ·intro w'
        go_simp
        with_reducible rfl
       rotate_left
       ·simp only [Act.put, List.setIfInBounds_toArray, List.set_cons_zero, List.set_cons_succ, i64_w, i32_w]
        rfl
       refine pure_ (i := 2) (N := some 34) (v := ?_) (a' := ?_) #[true, false, true, false, false, false, false, false, false, false, false, false, false, false, false, false, false, false, false, false, false, false, false, false, false, false, false, false, false] rfl rfl (any_of HT_.out (by kernel_rfl)) (fun _ _ _ h => h) (Or.inl ⟨by rfl, ?_⟩) ?_ ?_
       rotate_left
       ·intro w'
        go_simp
        with_reducible rfl
       rotate_left
       ·simp only [Act.put, List.setIfInBounds_toArray, List.set_cons_zero, List.set_cons_succ, i64_w, i32_w]
        rfl
       refine pure_ (i := 3) (N := some 35) (v := ?_) (a' := ?_) #[true, false, true, true, false, false, false, false, false, false, false, false, false, false, false, false, false, false, false, false, false, false, false, false, false, false, false, false, false] rfl rfl (any_of HT_.out (by kernel_rfl)) (fun _ _ _ h => h) (Or.inl ⟨by rfl, ?_⟩) ?_ ?_
       rotate_left
       ·intro w'
        go_simp
        with_reducible rfl
       rotate_left
       ·simp only [Act.put, List.setIfInBounds_toArray, List.set_cons_zero, List.set_cons_succ, i64_w, i32_w]
        rfl
       refine pure_ (i := 4) (N := some 36) (v := ?_) (a' := ?_) #[true, false, true, true, true, false, false, false, false, false, false, false, false, false, false, false, false, false, false, false, false, false, false, false, false, false, false, false, false] rfl rfl (any_of HT_.out (by kernel_rfl)) (fun _ _ _ h => h) (Or.inl ⟨by rfl, ?_⟩) ?_ ?_
       rotate_left
       ·intro w'
        go_simp
        with_reducible rfl
       rotate_left
       ·simp only [Act.put, List.setIfInBounds_toArray, List.set_cons_zero, List.set_cons_succ, i64_w, i32_w]
        rfl
       refine pure_ (i := 5) (N := some 37) (v := ?_) (a' := ?_) #[true, false, true, true, true, true, false, false, false, false, false, false, false, false, false, false, false, false, false, false, false, false, false, false, false, false, false, false, false] rfl rfl (any_of HT_.out (by kernel_rfl)) (fun _ _ _ h => h) (Or.inl ⟨by rfl, ?_⟩) ?_ ?_
       rotate_left
       ·intro w'
        go_simp
        with_reducible rfl
       rotate_left
       ·simp only [Act.put, List.setIfInBounds_toArray, List.set_cons_zero, List.set_cons_succ, i64_w, i32_w]
        rfl
       refine pure_ (i := 9) (N := some 41) (v := ?_) (a' := ?_) #[true, false, true, true, true, true, false, false, false, true, false, false, false, false, false, false, false, false, false, false, false, false, false, false, false, false, false, false, false] rfl rfl (any_of HT_.out (by kernel_rfl)) (fun _ _ _ h => h) (Or.inl ⟨by rfl, ?_⟩) ?_ ?_
       rotate_left
       ·intro w'
        go_simp
        with_reducible rfl
       rotate_left
       ·simp only [Act.put, List.setIfInBounds_toArray, List.set_cons_zero, List.set_cons_succ, i64_w, i32_w]
        rfl
       refine pure_ (i := 10) (N := some 42) (v := ?_) (a' := ?_) #[true, false, true, true, true, true, false, false, false, true, true, false, false, false, false, false, false, false, false, false, false, false, false, false, false, false, false, false, false] rfl rfl (any_of HT_.out (by kernel_rfl)) (fun _ _ _ h => h) (Or.inl ⟨by rfl, ?_⟩) ?_ ?_
       rotate_left
       ·intro w'
        go_simp
        with_reducible rfl
       rotate_left
       ·simp only [Act.put, List.setIfInBounds_toArray, List.set_cons_zero, List.set_cons_succ, i64_w, i32_w]
        rfl
       refine pure_ (i := 11) (N := some 43) (v := ?_) (a' := ?_) #[true, false, true, true, true, true, false, false, false, true, true, true, false, false, false, false, false, false, false, false, false, false, false, false, false, false, false, false, false] rfl rfl (any_of HT_.out (by kernel_rfl)) (fun _ _ _ h => h) (Or.inl ⟨by rfl, ?_⟩) ?_ ?_
       rotate_left
       ·intro w'
        go_simp
        with_reducible rfl
       rotate_left
       ·simp only [Act.put, List.setIfInBounds_toArray, List.set_cons_zero, List.set_cons_succ, i64_w, i32_w]
        rfl
       refine pure_ (i := 12) (N := some 44) (v := ?_) (a' := ?_) #[true, false, true, true, true, true, false, false, false, true, true, true, true, false, false, false, false, false, false, false, false, false, false, false, false, false, false, false, false] rfl rfl (any_of HT_.out (by kernel_rfl)) (fun _ _ _ h => h) (Or.inl ⟨by rfl, ?_⟩) ?_ ?_
       rotate_left
       ·intro w'
        go_simp
        with_reducible rfl
       rotate_left
       ·simp only [Act.put, List.setIfInBounds_toArray, List.set_cons_zero, List.set_cons_succ, i64_w, i32_w]
        rfl
       refine pure_ (i := 14) (N := some 46) (v := ?_) (a' := ?_) #[true, false, true, true, true, true, false, false, false, true, true, true, true, false, true, false, false, false, false, false, false, false, false, false, false, false, false, false, false] rfl rfl (any_of HT_.out (by kernel_rfl)) (fun _ _ _ h => h) (Or.inl ⟨by rfl, ?_⟩) ?_ ?_
       rotate_left
       ·intro w'
        go_simp
        with_reducible rfl
       rotate_left
       ·simp only [Act.put, List.setIfInBounds_toArray, List.set_cons_zero, List.set_cons_succ, i64_w, i32_w]
        rfl
       refine pure_ (i := 15) (N := some 47) (v := ?_) (a' := ?_) #[true, false, true, true, true, true, false, false, false, true, true, true, true, false, true, true, false, false, false, false, false, false, false, false, false, false, false, false, false] rfl rfl (any_of HT_.out (by kernel_rfl)) (fun _ _ _ h => h) (Or.inl ⟨by rfl, ?_⟩) ?_ ?_
       rotate_left
       ·intro w'
        go_simp
        with_reducible rfl
       rotate_left
       ·simp only [Act.put, List.setIfInBounds_toArray, List.set_cons_zero, List.set_cons_succ, i64_w, i32_w]
        rfl
       refine pure_ (i := 16) (N := some 48) (v := ?_) (a' := ?_) #[true, false, true, true, true, true, false, false, false, true, true, true, true, false, true, true, true, false, false, false, false, false, false, false, false, false, false, false, false] rfl rfl (any_of HT_.out (by kernel_rfl)) (fun _ _ _ h => h) (Or.inl ⟨by rfl, ?_⟩) ?_ ?_
       rotate_left
       ·intro w'
        go_simp
        with_reducible rfl
       rotate_left
       ·simp only [Act.put, List.setIfInBounds_toArray, List.set_cons_zero, List.set_cons_succ, i64_w, i32_w]
        rfl
       refine pure_ (i := 17) (N := some 49) (v := ?_) (a' := ?_) #[true, false, true, true, true, true, false, false, false, true, true, true, true, false, true, true, true, true, false, false, false, false, false, false, false, false, false, false, false] rfl rfl (any_of HT_.out (by kernel_rfl)) (fun _ _ _ h => h) (Or.inl ⟨by rfl, ?_⟩) ?_ ?_
       rotate_left
       ·intro w'
        go_simp
        with_reducible rfl
       rotate_left
       ·simp only [Act.put, List.setIfInBounds_toArray, List.set_cons_zero, List.set_cons_succ, i64_w, i32_w]
        rfl
       refine pure_ (i := 20) (N := some 52) (v := ?_) (a' := ?_) #[true, false, true, true, true, true, false, false, false, true, true, true, true, false, true, true, true, true, false, false, true, false, false, false, false, false, false, false, false] rfl rfl (any_of HT_.out (by kernel_rfl)) (fun _ _ _ h => h) (Or.inl ⟨by rfl, ?_⟩) ?_ ?_
       rotate_left
       ·intro w'
        go_simp
        with_reducible rfl
       rotate_left
       ·simp only [Act.put, List.setIfInBounds_toArray, List.set_cons_zero, List.set_cons_succ, i64_w, i32_w]
        rfl
       refine pure_ (i := 21) (N := some 53) (v := ?_) (a' := ?_) #[true, false, true, true, true, true, false, false, false, true, true, true, true, false, true, true, true, true, false, false, true, true, false, false, false, false, false, false, false] rfl rfl (any_of HT_.out (by kernel_rfl)) (fun _ _ _ h => h) (Or.inl ⟨by rfl, ?_⟩) ?_ ?_
       rotate_left
       ·intro w'
        go_simp
        with_reducible rfl
       rotate_left
       ·simp only [Act.put, List.setIfInBounds_toArray, List.set_cons_zero, List.set_cons_succ, i64_w, i32_w]
        rfl
       refine pure_ (i := 22) (N := some 54) (v := ?_) (a' := ?_) #[true, false, true, true, true, true, false, false, false, true, true, true, true, false, true, true, true, true, false, false, true, true, true, false, false, false, false, false, false] rfl rfl (any_of HT_.out (by kernel_rfl)) (fun _ _ _ h => h) (Or.inl ⟨by rfl, ?_⟩) ?_ ?_
       rotate_left
       ·intro w'
        go_simp
        with_reducible rfl
       rotate_left
       ·simp only [Act.put, List.setIfInBounds_toArray, List.set_cons_zero, List.set_cons_succ, i64_w, i32_w]
        rfl
       refine pure_ (i := 23) (N := some 55) (v := ?_) (a' := ?_) #[true, false, true, true, true, true, false, false, false, true, true, true, true, false, true, true, true, true, false, false, true, true, true, true, false, false, false, false, false] rfl rfl (any_of HT_.out (by kernel_rfl)) (fun _ _ _ h => h) (Or.inl ⟨by rfl, ?_⟩) ?_ ?_
       rotate_left
       ·intro w'
        go_simp
        with_reducible rfl
       rotate_left
       ·simp only [Act.put, List.setIfInBounds_toArray, List.set_cons_zero, List.set_cons_succ, i64_w, i32_w]
        rfl
       refine take_ (i := 1) (N := some 33) (v := ?_) (a' := ?_) #[true, true, true, true, true, true, false, false, false, true, true, true, true, false, true, true, true, true, false, false, true, true, true, true, false, false, false, false, false] rfl rfl (take_ofW HT_.out HW_.out (by kernel_rfl)) (fun _ _ _ h => h) (Or.inl ⟨by rfl, ?_⟩) hHeld ?_ ?_
       rotate_left
       ·rintro w' ⟨s0, s1, s2, s3, s4, s5, s6, s7, s8, s9, s10, s11, s12, s13, s14, s15, s16, s17, s18⟩
        go_simp
        with_reducible rfl
       rotate_left
       ·simp only [Act.put, List.setIfInBounds_toArray, List.set_cons_zero, List.set_cons_succ, i64_w, i32_w]
        rfl
       refine take_ (i := 6) (N := some 38) (v := ?_) (a' := ?_) #[true, true, true, true, true, true, true, false, false, true, true, true, true, false, true, true, true, true, false, false, true, true, true, true, false, false, false, false, false] rfl rfl (take_ofW HT_.out HW_.out (by kernel_rfl)) (fun _ _ _ h => h) (Or.inl ⟨by rfl, ?_⟩) hHeld ?_ ?_
       rotate_left
       ·rintro w' ⟨s0, s1, s2, s3, s4, s5, s6, s7, s8, s9, s10, s11, s12, s13, s14, s15, s16, s17, s18⟩
        go_simp
        with_reducible rfl
       rotate_left
       ·simp only [Act.put, List.setIfInBounds_toArray, List.set_cons_zero, List.set_cons_succ, i64_w, i32_w]
        rfl
       refine pure_ (i := 7) (N := some 39) (v := ?_) (a' := ?_) #[true, true, true, true, true, true, true, true, false, true, true, true, true, false, true, true, true, true, false, false, true, true, true, true, false, false, false, false, false] rfl rfl (any_of HT_.out (by kernel_rfl)) (fun _ _ _ h => h) (Or.inl ⟨by rfl, ?_⟩) ?_ ?_
       rotate_left
       ·intro w'
        go_simp
        with_reducible rfl
       rotate_left
       ·simp only [Act.put, List.setIfInBounds_toArray, List.set_cons_zero, List.set_cons_succ, i64_w, i32_w]
        rfl
       refine pure_ (i := 8) (N := some 40) (v := ?_) (a' := ?_) #[true, true, true, true, true, true, true, true, true, true, true, true, true, false, true, true, true, true, false, false, true, true, true, true, false, false, false, false, false] rfl rfl (any_of HT_.out (by kernel_rfl)) (fun _ _ _ h => h) (Or.inl ⟨by rfl, ?_⟩) ?_ ?_
       rotate_left
       ·intro w'
        go_simp
        with_reducible rfl
       rotate_left
       ·simp only [Act.put, List.setIfInBounds_toArray, List.set_cons_zero, List.set_cons_succ, i64_w, i32_w]
        rfl
       refine take_ (i := 13) (N := some 45) (v := ?_) (a' := ?_) #[true, true, true, true, true, true, true, true, true, true, true, true, true, true, true, true, true, true, false, false, true, true, true, true, false, false, false, false, false] rfl rfl (take_ofW HT_.out HW_.out (by kernel_rfl)) (fun _ _ _ h => h) (Or.inl ⟨by rfl, ?_⟩) hHeld ?_ ?_
       rotate_left
       ·rintro w' ⟨s0, s1, s2, s3, s4, s5, s6, s7, s8, s9, s10, s11, s12, s13, s14, s15, s16, s17, s18⟩
        go_simp
        with_reducible rfl
       rotate_left
       ·simp only [Act.put, List.setIfInBounds_toArray, List.set_cons_zero, List.set_cons_succ, i64_w, i32_w]
        rfl
       refine take_ (i := 18) (N := some 50) (v := ?_) (a' := ?_) #[true, true, true, true, true, true, true, true, true, true, true, true, true, true, true, true, true, true, true, false, true, true, true, true, false, false, false, false, false] rfl rfl (take_ofW HT_.out HW_.out (by kernel_rfl)) (fun _ _ _ h => h) (Or.inl ⟨by rfl, ?_⟩) hHeld ?_ ?_
       rotate_left
       ·rintro w' ⟨s0, s1, s2, s3, s4, s5, s6, s7, s8, s9, s10, s11, s12, s13, s14, s15, s16, s17, s18⟩
        go_simp
        with_reducible rfl
       rotate_left
       ·simp only [Act.put, List.setIfInBounds_toArray, List.set_cons_zero, List.set_cons_succ, i64_w, i32_w]
        rfl
       refine pure_ (i := 19) (N := some 51) (v := ?_) (a' := ?_) #[true, true, true, true, true, true, true, true, true, true, true, true, true, true, true, true, true, true, true, true, true, true, true, true, false, false, false, false, false] rfl rfl (any_of HT_.out (by kernel_rfl)) (fun _ _ _ h => h) (Or.inl ⟨by rfl, ?_⟩) ?_ ?_
       rotate_left
       ·intro w'
        go_simp
        with_reducible rfl
       rotate_left
       ·simp only [Act.put, List.setIfInBounds_toArray, List.set_cons_zero, List.set_cons_succ, i64_w, i32_w]
        rfl
       refine take_ (i := 24) (N := some 56) (v := ?_) (a' := ?_) #[true, true, true, true, true, true, true, true, true, true, true, true, true, true, true, true, true, true, true, true, true, true, true, true, true, false, false, false, false] rfl rfl (take_ofW HT_.out HW_.out (by kernel_rfl)) (fun _ _ _ h => h) (Or.inl ⟨by rfl, ?_⟩) hHeld ?_ ?_
       rotate_left
       ·rintro w' ⟨s0, s1, s2, s3, s4, s5, s6, s7, s8, s9, s10, s11, s12, s13, s14, s15, s16, s17, s18⟩
        go_simp
        with_reducible rfl
       rotate_left
       ·simp only [Act.put, List.setIfInBounds_toArray, List.set_cons_zero, List.set_cons_succ, i64_w, i32_w]
        rfl
       refine pure_ (i := 25) (N := some 57) (v := ?_) (a' := ?_) #[true, true, true, true, true, true, true, true, true, true, true, true, true, true, true, true, true, true, true, true, true, true, true, true, true, true, false, false, false] rfl rfl (any_of HT_.out (by kernel_rfl)) (fun _ _ _ h => h) (Or.inl ⟨by rfl, ?_⟩) ?_ ?_
       rotate_left
       ·intro w'
        go_simp
        with_reducible rfl
       rotate_left
       ·simp only [Act.put, List.setIfInBounds_toArray, List.set_cons_zero, List.set_cons_succ, i64_w, i32_w]
        rfl
       refine one_ (i := 26) (N := some 58) #[true, true, true, true, true, true, true, true, true, true, true, true, true, true, true, true, true, true, true, true, true, true, true, true, true, true, true, false, false] rfl rfl (one_of HT_.out (by kernel_rfl)) (by decide) (fun K hK => ?_)
       refine Kd.R_lit_step k77 _ 77 ?hg (N := 58) ?hd (xs := ([(⟨(⟨(rd_T49 t188 x7_1).f0, 0, (rd_T49 t188 x7_1).f2⟩ : S75), wrap64 (-((rd_T49 t188 x7_1).f3))⟩ : S77), (⟨(⟨(rd_T49 t188 x7_1).f1, 0, (rd_T49 t188 x7_1).f2⟩ : S75), (rd_T49 t188 x7_1).f3⟩ : S77)] : List (S77))) (inner := [.string ((rd_T49 t188 x7_1).f0), .int .i64 0, .string ((rd_T49 t188 x7_1).f2), .int .i64 (wrap64 (-((rd_T49 t188 x7_1).f3))), .string ((rd_T49 t188 x7_1).f1), .int .i64 0, .string ((rd_T49 t188 x7_1).f2), .int .i64 ((rd_T49 t188 x7_1).f3)]) (ok := fun _ => True) (okp := fun _ => True) ?hr ?hp (fun _ hk => hk) trivial (Below.refl _ _) (Nat.le_refl _) (by simp) ?_; (case hd => rfl); (case hg => rfl); (case hr => first | (go_simp; done) | (go_simp; rfl)); (case hp => exact (Reps.c4 (show Kd.M k77 _ _ _ (⟨(⟨(rd_T49 t188 x7_1).f0, 0, (rd_T49 t188 x7_1).f2⟩ : S75), wrap64 (-((rd_T49 t188 x7_1).f3))⟩ : S77) [.string ((rd_T49 t188 x7_1).f0), .int .i64 0, .string ((rd_T49 t188 x7_1).f2), .int .i64 (wrap64 (-((rd_T49 t188 x7_1).f3)))] from (k77_mkM _ _ _ (⟨(⟨(rd_T49 t188 x7_1).f0, 0, (rd_T49 t188 x7_1).f2⟩ : S75), wrap64 (-((rd_T49 t188 x7_1).f3))⟩ : S77) )) (Reps.c4 (show Kd.M k77 _ _ _ (⟨(⟨(rd_T49 t188 x7_1).f1, 0, (rd_T49 t188 x7_1).f2⟩ : S75), (rd_T49 t188 x7_1).f3⟩ : S77) [.string ((rd_T49 t188 x7_1).f1), .int .i64 0, .string ((rd_T49 t188 x7_1).f2), .int .i64 ((rd_T49 t188 x7_1).f3)] from (k77_mkM _ _ _ (⟨(⟨(rd_T49 t188 x7_1).f1, 0, (rd_T49 t188 x7_1).f2⟩ : S75), (rd_T49 t188 x7_1).f3⟩ : S77) )) (Reps.none _ _))))
       intro v209 w34 ho35 hb hg_ hnew_
       have HS3_ := (hb.cell (World.block_lt_of_cell? _ _ (hHeld.2.2.2.1))).trans (hHeld.2.2.2.1)
       have HS4_ := (hb.cell (World.block_lt_of_cell? _ _ (hHeld.2.2.2.2.1))).trans (hHeld.2.2.2.2.1)
       have HS5_ := (hb.cell (World.block_lt_of_cell? _ _ (hHeld.2.2.2.2.2.1))).trans (hHeld.2.2.2.2.2.1)
       have HS6_ := (hb.cell (World.block_lt_of_cell? _ _ (hHeld.2.2.2.2.2.2.1))).trans (hHeld.2.2.2.2.2.2.1)
       have HS7_ := (hb.cell (World.block_lt_of_cell? _ _ (hHeld.2.2.2.2.2.2.2.1))).trans (hHeld.2.2.2.2.2.2.2.1)
       have HS8_ := (hb.cell (World.block_lt_of_cell? _ _ (hHeld.2.2.2.2.2.2.2.2.1))).trans (hHeld.2.2.2.2.2.2.2.2.1)
       have HS9_ := (hb.cell (World.block_lt_of_cell? _ _ (hHeld.2.2.2.2.2.2.2.2.2.1))).trans (hHeld.2.2.2.2.2.2.2.2.2.1)
       have HS10_ := (hb.cell (World.block_lt_of_cell? _ _ (hHeld.2.2.2.2.2.2.2.2.2.2.1))).trans (hHeld.2.2.2.2.2.2.2.2.2.2.1)
       have HS11_ := (hb.cell (World.block_lt_of_cell? _ _ (hHeld.2.2.2.2.2.2.2.2.2.2.2.1))).trans (hHeld.2.2.2.2.2.2.2.2.2.2.2.1)
       have HS12_ := (hb.cell (World.block_lt_of_cell? _ _ (hHeld.2.2.2.2.2.2.2.2.2.2.2.2.1))).trans (hHeld.2.2.2.2.2.2.2.2.2.2.2.2.1)
       have HS13_ := (hb.cell (World.block_lt_of_cell? _ _ (hHeld.2.2.2.2.2.2.2.2.2.2.2.2.2.1))).trans (hHeld.2.2.2.2.2.2.2.2.2.2.2.2.2.1)
       have HS14_ := (hb.cell (World.block_lt_of_cell? _ _ (hHeld.2.2.2.2.2.2.2.2.2.2.2.2.2.2.1))).trans (hHeld.2.2.2.2.2.2.2.2.2.2.2.2.2.2.1)
       have HS15_ := (hb.cell (World.block_lt_of_cell? _ _ (hHeld.2.2.2.2.2.2.2.2.2.2.2.2.2.2.2.1))).trans (hHeld.2.2.2.2.2.2.2.2.2.2.2.2.2.2.2.1)
       have HS16_ := (hb.cell (World.block_lt_of_cell? _ _ (hHeld.2.2.2.2.2.2.2.2.2.2.2.2.2.2.2.2.1))).trans (hHeld.2.2.2.2.2.2.2.2.2.2.2.2.2.2.2.2.1)
       have HS17_ := (hb.cell (World.block_lt_of_cell? _ _ (hHeld.2.2.2.2.2.2.2.2.2.2.2.2.2.2.2.2.2.1))).trans (hHeld.2.2.2.2.2.2.2.2.2.2.2.2.2.2.2.2.2.1)
       have HS18_ := (hb.cell (World.block_lt_of_cell? _ _ (hHeld.2.2.2.2.2.2.2.2.2.2.2.2.2.2.2.2.2.2))).trans (hHeld.2.2.2.2.2.2.2.2.2.2.2.2.2.2.2.2.2.2)
       clear hg_ hnew_
       (first | rw [← Ny208.out] at ho35 | (simp only [Int.reduceToNat] at ho35; rw [← Ny208.out] at ho35))
       have n0_ := Aside0.mk (Kd.R_elder' (by (with_reducible repeat (first | apply Kd.R_alloc | apply Kd.R_drewN | apply Kd.R_drew)); exact HO_5.out) (Kd.R_base ho35) hb)
       have n1_ := Aside0.mk (Kd.R_below (by (with_reducible repeat (first | apply Kd.R_alloc | apply Kd.R_drewN | apply Kd.R_drew)); exact HO_6.out) hb)
       have n2_ := Aside0.mk (Kd.R_lower (Kd.R_new' ho35 (Kd.R_lt (by (with_reducible repeat (first | apply Kd.R_alloc | apply Kd.R_drewN | apply Kd.R_drew)); exact HO_5.out))) (below_size (by repeat (first | (with_reducible first | exact HB.out | apply below_alloc | apply pw_below_drewN | apply below_drew1 | refine below_set ?_ GE187.out | refine below_set ?_ GE193.out) | exact HB.out))))
       have n3_ := Aside0.mk (blk_below (g := gb187) (o := .cells #[.int .i64 a0_0, .string a0_1, .string a0_2, .string a0_3, .int .i64 a0_4, .int .i64 a0_5, .int .i64 a0_6, .int .i64 a0_7, .int .i64 a0_8, .bool a0_9, .int .i64 a0_10, .string a0_11, .string a0_12] 24 (0, 0)) (by (with_reducible repeat (first | refine blk_drewN ?_ _ | refine blk_drew ?_ | refine blk_alloc ?_ _)); exact BK187.out) hb)
       have n4_ := Aside0.mk (blk_below (g := gb193) (o := .cells #[.string ((rd_T49 t188 x7_1).f0), .int .i64 0, .string ((rd_T49 t188 x7_1).f2)] 75 (0, 0)) (by (with_reducible repeat (first | refine blk_drewN ?_ _ | refine blk_drew ?_ | refine blk_alloc ?_ _)); exact BK193.out) hb)
       have n5_ := Aside0.mk (below_step (by repeat (first | (with_reducible first | exact HB.out | apply below_alloc | apply pw_below_drewN | apply below_drew1 | refine below_set ?_ GE187.out | refine below_set ?_ GE193.out) | exact HB.out)) hb)
       clear HO_5
       clear HO_6
       clear BK187
       clear BK193
       clear HB
       have HO_5 := n0_
       have HO_6 := n1_
       have HO210 := n2_
       have BK187 := n3_
       have BK193 := n4_
       have HB := n5_
       clear n0_ n1_ n2_ n3_ n4_ n5_
       clear hb ho35
       obtain ⟨Ao37, co37, eo37⟩ := Kd.R_slice HO210.out
       (first | subst eo37 | (injection eo37 with f1_ f2_ f3_; have f4_ := f1_.symm; have f5_ := f3_.symm; clear f1_ f2_ f3_; subst f4_; subst f5_))
       refine hK.out _ _ ⟨(blk_cell BK193.out 0).trans rfl, (blk_cell BK193.out 1).trans rfl, (blk_cell BK193.out 2).trans rfl, HS3_, HS4_, HS5_, HS6_, HS7_, HS8_, HS9_, HS10_, HS11_, HS12_, HS13_, HS14_, HS15_, HS16_, HS17_, HS18_⟩ (fun hHeld => ?_)
       clear hK K
       refine norm_ (a' := ?_) ?_ ?_
       rotate_left
       ·show Act.put _ (some 58) _ = _
        simp only [Act.put, List.setIfInBounds_toArray, List.set_cons_zero, List.set_cons_succ, i64_w, i32_w]
        rfl
       refine last_ (i := 27) (N := some 59) #[true, true, true, true, true, true, true, true, true, true, true, true, true, true, true, true, true, true, true, true, true, true, true, true, true, true, true, true, false] rfl rfl (one_of HT_.out (by kernel_rfl)) (by decide) (fun K hK => ?_)
       refine Kd.R_append_rows_step k77 (w0 := w) w.heap.size (by rfl) (.tmp 32) (.tmp 58) 34 77 (.agg #[(.string ⟨#[]⟩), (.int .i64 0), (.string ⟨#[]⟩), (.int .i64 0)]) 48 rfl Tryd.underlying34 info77 rfl (by decide) (by omega) u5 x5_1 y208 _ _ _ (fun k_ => some k_ ≠ (.slice Ao37 y208.length co37 : Value).ownBlock) (fun _ => False) rfl rfl ?aO ?aR (fun _ _ h => h) (fun _ h => h.elim) ?aF ?aB ?aS ?aL ?_
       (case aR => repeat (first | exact (Kd.R_reads' HO210.out).2.2 | (with_reducible refine Kd.C_alloc ?_ _) | (with_reducible refine Kd.C_drewN ?_ _) | (with_reducible refine Kd.C_drew ?_)))
       (case aB => exact (by repeat (first | (with_reducible first | exact HB.out | apply below_alloc | apply pw_below_drewN | apply below_drew1 | refine below_set ?_ GE187.out | refine below_set ?_ GE193.out) | exact HB.out)))
       (case aF => exact (fun k_ hk => Kd.fresh' (Kd.R_lt (by (with_reducible repeat (first | apply Kd.R_alloc | apply Kd.R_drewN | apply Kd.R_drew)); exact HO210.out)) k_ hk))
       (case aO => exact (by (with_reducible repeat (first | apply Kd.R_alloc | apply Kd.R_drewN | apply Kd.R_drew)); exact Kd.R_mono HO_5.out (fun _ hk => hk.2)))
       (case aS => exact (below_size (by repeat (first | (with_reducible first | exact HB.out | apply below_alloc | apply pw_below_drewN | apply below_drew1 | refine below_set ?_ GE187.out | refine below_set ?_ GE193.out) | exact HB.out))))
       (case aL => have := LMc25.out; omega)
       intro v212 w36 ho hb hg hat
       rw [← Ny211.out] at ho
       have n0_ := Aside0.mk (Kd.R_over' (by (with_reducible repeat (first | apply Kd.R_alloc | apply Kd.R_drewN | apply Kd.R_drew)); exact HO_6.out) (Kd.R_typed (by (with_reducible repeat (first | apply Kd.R_alloc | apply Kd.R_drewN | apply Kd.R_drew)); exact HO_5.out)) (by decide) hg)
       have n1_ := Aside0.mk (blk_grown (g := gb187) (o := .cells #[.int .i64 a0_0, .string a0_1, .string a0_2, .string a0_3, .int .i64 a0_4, .int .i64 a0_5, .int .i64 a0_6, .int .i64 a0_7, .int .i64 a0_8, .bool a0_9, .int .i64 a0_10, .string a0_11, .string a0_12] 24 (0, 0)) (by (with_reducible repeat (first | refine blk_drewN ?_ _ | refine blk_drew ?_ | refine blk_alloc ?_ _)); exact BK187.out) hg (Kd.R_ne HO_5.out BK187.out (by decide)))
       have n2_ := Aside0.mk (blk_grown (g := gb193) (o := .cells #[.string ((rd_T49 t188 x7_1).f0), .int .i64 0, .string ((rd_T49 t188 x7_1).f2)] 75 (0, 0)) (by (with_reducible repeat (first | refine blk_drewN ?_ _ | refine blk_drew ?_ | refine blk_alloc ?_ _)); exact BK193.out) hg (Kd.R_ne HO_5.out BK193.out (by decide)))
       have n3_ := Aside0.mk (Kd.R_after (ok := (fun _ => True)) (by (with_reducible repeat (first | apply Kd.R_alloc | apply Kd.R_drewN | apply Kd.R_drew)); exact HO210.out) hg hat)
       have n4_ := Aside0.mk (hb)
       have n5_ := Aside0.mk (ho)
       clear HO_6
       clear BK187
       clear BK193
       clear HO210
       clear HB
       clear HO_5
       have HO_6 := n0_
       have BK187 := n1_
       have BK193 := n2_
       have HO210 := n3_
       have HB := n4_
       have HO213 := n5_
       clear n0_ n1_ n2_ n3_ n4_ n5_
       clear ho hb hg hat
       refine hK.out _ _ ?_
       clear hK K
       refine norm_ (a' := ?_) ?_ ?_
       rotate_left
       ·show Act.put _ (some 59) _ = _
        simp only [Act.put, List.setIfInBounds_toArray, List.set_cons_zero, List.set_cons_succ, i64_w, i32_w]
        rfl
       refine pure_ (i := 28) (N := some 5) (v := ?_) (a' := ?_) #[true, true, true, true, true, true, true, true, true, true, true, true, true, true, true, true, true, true, true, true, true, true, true, true, true, true, true, true, true] rfl rfl (any_of HT_.out (by kernel_rfl)) (fun _ _ _ h => h) (Or.inl ⟨by rfl, ?_⟩) ?_ ?_
       rotate_left
       ·intro w'
        go_simp
        with_reducible rfl
       rotate_left
       ·simp only [Act.put, List.setIfInBounds_toArray, List.set_cons_zero, List.set_cons_succ, i64_w, i32_w]
        rfl
       refine done_ (done_of HT_.out (by kernel_rfl)) ?_
       try go_wp2
       go_roundg k1
       case measure => have := HK1.out; omega
       case rel => exact ⟨(y211), (wrap64 (x7_1 + 1)), (by first | rfl | (simp; done) | (simp [*]; done)), H', ⟨by have := HK1.out; omega⟩, ⟨by (with_reducible repeat (first | apply Kd.R_alloc | apply Kd.R_drewN | apply Kd.R_drew)); exact Kd.R_mono HO213.out (fun _ hk => trivial)⟩, ⟨by (with_reducible repeat (first | apply Kd.R_alloc | apply Kd.R_drewN | apply Kd.R_drew)); exact HO_6.out⟩, ⟨by (with_reducible repeat (first | refine blk_drewN ?_ _ | refine blk_drew ?_ | refine blk_alloc ?_ _)); exact BK187.out⟩, ⟨by repeat (first | (with_reducible first | exact HB.out | apply below_alloc | apply pw_below_drewN | apply below_drew1 | refine below_set ?_ GE187.out | refine below_set ?_ GE193.out) | exact HB.out)⟩⟩
      ·rw [if_neg c25] at H
       exact absurd H (by simp)
    ·rw [if_neg c8] at H
     exact absurd H (by simp)
   ·rw [if_neg c7] at H
    have c7b0 : decide (x7_1 < (t188.length : Int)) = false := decide_eq_false c7
    clear c7
    obtain rfl := Option.some.inj H
    obtain ⟨Ao38, co38, eo38⟩ := Kd.R_slice HO_6.out
    subst eo38
    go_wp2
    go_ret
    exact ⟨_, by first | rfl | (simp [errW_none, errW_some] <;> rfl) | (simp [*, errW_none, errW_some] <;> rfl), by (with_reducible repeat (first | apply Kd.R_alloc | apply Kd.R_drewN | apply Kd.R_drew)); exact HO_5.out, by repeat (first | (with_reducible first | exact HB.out | apply below_alloc | apply pw_below_drewN | apply below_drew1 | refine below_set ?_ GE187.out) | exact HB.out)⟩
end Go.Proofs.YtpclapnmiacfpaaDoor.Q
end
