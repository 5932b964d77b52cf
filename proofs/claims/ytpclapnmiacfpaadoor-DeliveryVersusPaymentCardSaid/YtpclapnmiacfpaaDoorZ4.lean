/- Lemmas for the card of DeliveryVersusPayment: contracts of the functions that the law reaches. Conditions: each lemma's own. Laid together out of this session's texts. -/
import Derived.Test.YtpclapnmiacfpaaDoorZ3
set_option linter.unusedVariables false
set_option linter.unusedSimpArgs false
section
namespace Go.Proofs.YtpclapnmiacfpaaDoor.Q
open Go.RowKit Go.Proofs.YtpclapnmiacfpaaDoorW.PrintWords Go.Proofs.YtpclapnmiacfpaaDoorW.PrintLast Go.Proofs.YtpclapnmiacfpaaDoorW.PrintMore
attribute [local go_sem] max2_int min2_int max_two min_two max_three min_three max_four min_four
set_option linter.unusedVariables false
set_option linter.unusedSimpArgs false
mutual
def giroref23_Check.j0 : Nat → Bool → Int → ByteArray → ByteArray → ByteArray → Int → Int → Int → Int → Int → Bool → Int → ByteArray → ByteArray → Option (Int)
 | 0, _, _, _, _, _, _, _, _, _, _, _, _, _, _ => none
 | k + 1, x10, x173000, x173001, x173002, x173003, x173004, x173005, x173006, x173007, x173008, x173009, x173010, x173011, x173012 => if x10 = true then (some 11) else ((giroref23_valid.f k 1 x173001).bind fun t173 => (if t173 = true then ((giroref23_valid.f k 1 x173002).bind fun t174 => (giroref23_Check.j1 k (!t174) x173000 x173001 x173002 x173003 x173004 x173005 x173006 x173007 x173008 x173009 x173010 x173011 x173012)) else (giroref23_Check.j1 k true x173000 x173001 x173002 x173003 x173004 x173005 x173006 x173007 x173008 x173009 x173010 x173011 x173012)))
def giroref23_Check.j1 : Nat → Bool → Int → ByteArray → ByteArray → ByteArray → Int → Int → Int → Int → Int → Bool → Int → ByteArray → ByteArray → Option (Int)
 | 0, _, _, _, _, _, _, _, _, _, _, _, _, _, _ => none
 | k + 1, x20, x173000, x173001, x173002, x173003, x173004, x173005, x173006, x173007, x173008, x173009, x173010, x173011, x173012 => if x20 = true then (some 6) else (if x173001.toList = x173002.toList then (some 1) else ((giroref23_valid.f k 0 x173003).bind fun t175 => (if t175 = true then (if x173004 < 1 then (giroref23_Check.j2 k true x173000 x173001 x173002 x173003 x173004 x173005 x173006 x173007 x173008 x173009 x173010 x173011 x173012) else (if x173004 > 1000000000000000 then (giroref23_Check.j2 k true x173000 x173001 x173002 x173003 x173004 x173005 x173006 x173007 x173008 x173009 x173010 x173011 x173012) else (if x173000 = 1 then (if x173005 < 1 then (giroref23_Check.j2 k true x173000 x173001 x173002 x173003 x173004 x173005 x173006 x173007 x173008 x173009 x173010 x173011 x173012) else (if x173005 > 1000000000000000 then (giroref23_Check.j2 k true x173000 x173001 x173002 x173003 x173004 x173005 x173006 x173007 x173008 x173009 x173010 x173011 x173012) else (if x173000 = 2 then (giroref23_Check.j2 k (x173005 != 0) x173000 x173001 x173002 x173003 x173004 x173005 x173006 x173007 x173008 x173009 x173010 x173011 x173012) else (giroref23_Check.j2 k false x173000 x173001 x173002 x173003 x173004 x173005 x173006 x173007 x173008 x173009 x173010 x173011 x173012)))) else (if x173000 = 2 then (giroref23_Check.j2 k (x173005 != 0) x173000 x173001 x173002 x173003 x173004 x173005 x173006 x173007 x173008 x173009 x173010 x173011 x173012) else (giroref23_Check.j2 k false x173000 x173001 x173002 x173003 x173004 x173005 x173006 x173007 x173008 x173009 x173010 x173011 x173012))))) else (some 6))))
def giroref23_Check.j2 : Nat → Bool → Int → ByteArray → ByteArray → ByteArray → Int → Int → Int → Int → Int → Bool → Int → ByteArray → ByteArray → Option (Int)
 | 0, _, _, _, _, _, _, _, _, _, _, _, _, _, _ => none
 | k + 1, x62, x173000, x173001, x173002, x173003, x173004, x173005, x173006, x173007, x173008, x173009, x173010, x173011, x173012 => if x62 = true then (some 2) else (if x173007 < 0 then (giroref23_Check.j3 k true x173000 x173001 x173002 x173003 x173004 x173005 x173006 x173007 x173008 x173009 x173010 x173011 x173012) else (if x173007 > 73048 then (giroref23_Check.j3 k true x173000 x173001 x173002 x173003 x173004 x173005 x173006 x173007 x173008 x173009 x173010 x173011 x173012) else (if x173006 < 0 then (giroref23_Check.j3 k true x173000 x173001 x173002 x173003 x173004 x173005 x173006 x173007 x173008 x173009 x173010 x173011 x173012) else (giroref23_Check.j3 k (decide (x173006 > x173007)) x173000 x173001 x173002 x173003 x173004 x173005 x173006 x173007 x173008 x173009 x173010 x173011 x173012))))
def giroref23_Check.j3 : Nat → Bool → Int → ByteArray → ByteArray → ByteArray → Int → Int → Int → Int → Int → Bool → Int → ByteArray → ByteArray → Option (Int)
 | 0, _, _, _, _, _, _, _, _, _, _, _, _, _, _ => none
 | k + 1, x82, x173000, x173001, x173002, x173003, x173004, x173005, x173006, x173007, x173008, x173009, x173010, x173011, x173012 => if x82 = true then (some 28) else (if x173008 < 0 then (giroref23_Check.j4 k true x173000 x173001 x173002 x173003 x173004 x173005 x173006 x173007 x173008 x173009 x173010 x173011 x173012) else (giroref23_Check.j4 k (decide (x173008 > 2)) x173000 x173001 x173002 x173003 x173004 x173005 x173006 x173007 x173008 x173009 x173010 x173011 x173012))
def giroref23_Check.j4 : Nat → Bool → Int → ByteArray → ByteArray → ByteArray → Int → Int → Int → Int → Int → Bool → Int → ByteArray → ByteArray → Option (Int)
 | 0, _, _, _, _, _, _, _, _, _, _, _, _, _, _ => none
 | k + 1, x90, x173000, x173001, x173002, x173003, x173004, x173005, x173006, x173007, x173008, x173009, x173010, x173011, x173012 => if x90 = true then (some 2) else (if x173009 = true then (if x173010 < 1 then (giroref23_Check.j5 k true x173000 x173001 x173002 x173003 x173004 x173005 x173006 x173007 x173008 x173009 x173010 x173011 x173012) else (if x173010 > x173004 then (giroref23_Check.j5 k true x173000 x173001 x173002 x173003 x173004 x173005 x173006 x173007 x173008 x173009 x173010 x173011 x173012) else (giroref23_Check.j5 k false x173000 x173001 x173002 x173003 x173004 x173005 x173006 x173007 x173008 x173009 x173010 x173011 x173012))) else (giroref23_Check.j5 k (x173010 != 0) x173000 x173001 x173002 x173003 x173004 x173005 x173006 x173007 x173008 x173009 x173010 x173011 x173012))
def giroref23_Check.j5 : Nat → Bool → Int → ByteArray → ByteArray → ByteArray → Int → Int → Int → Int → Int → Bool → Int → ByteArray → ByteArray → Option (Int)
 | 0, _, _, _, _, _, _, _, _, _, _, _, _, _, _ => none
 | k + 1, x114, x173000, x173001, x173002, x173003, x173004, x173005, x173006, x173007, x173008, x173009, x173010, x173011, x173012 => if x114 = true then (some 2) else ((giroref23_valid.f k 2 x173011).bind fun t176 => (if t176 = true then ((giroref23_valid.f k 2 x173012).bind fun t177 => (if t177 = true then (some 0) else (some 6))) else (some 6)))
end
def giroref23_Check.f (k : Nat) (a0_0 : Int) (a0_1 : ByteArray) (a0_2 : ByteArray) (a0_3 : ByteArray) (a0_4 : Int) (a0_5 : Int) (a0_6 : Int) (a0_7 : Int) (a0_8 : Int) (a0_9 : Bool) (a0_10 : Int) (a0_11 : ByteArray) (a0_12 : ByteArray) : Option (Int) := if a0_0 = 1 then (giroref23_Check.j0 k false a0_0 a0_1 a0_2 a0_3 a0_4 a0_5 a0_6 a0_7 a0_8 a0_9 a0_10 a0_11 a0_12) else (giroref23_Check.j0 k (a0_0 != 2) a0_0 a0_1 a0_2 a0_3 a0_4 a0_5 a0_6 a0_7 a0_8 a0_9 a0_10 a0_11 a0_12)
theorem giroref23_Check.mono_l : ∀ k, (∀ y0 y1 y2 y3 y4 y5 y6 y7 y8 y9 y10 y11 y12 y13, LeO (giroref23_Check.j0 k y0 y1 y2 y3 y4 y5 y6 y7 y8 y9 y10 y11 y12 y13) (giroref23_Check.j0 (k + 1) y0 y1 y2 y3 y4 y5 y6 y7 y8 y9 y10 y11 y12 y13)) ∧ (∀ y0 y1 y2 y3 y4 y5 y6 y7 y8 y9 y10 y11 y12 y13, LeO (giroref23_Check.j1 k y0 y1 y2 y3 y4 y5 y6 y7 y8 y9 y10 y11 y12 y13) (giroref23_Check.j1 (k + 1) y0 y1 y2 y3 y4 y5 y6 y7 y8 y9 y10 y11 y12 y13)) ∧ (∀ y0 y1 y2 y3 y4 y5 y6 y7 y8 y9 y10 y11 y12 y13, LeO (giroref23_Check.j2 k y0 y1 y2 y3 y4 y5 y6 y7 y8 y9 y10 y11 y12 y13) (giroref23_Check.j2 (k + 1) y0 y1 y2 y3 y4 y5 y6 y7 y8 y9 y10 y11 y12 y13)) ∧ (∀ y0 y1 y2 y3 y4 y5 y6 y7 y8 y9 y10 y11 y12 y13, LeO (giroref23_Check.j3 k y0 y1 y2 y3 y4 y5 y6 y7 y8 y9 y10 y11 y12 y13) (giroref23_Check.j3 (k + 1) y0 y1 y2 y3 y4 y5 y6 y7 y8 y9 y10 y11 y12 y13)) ∧ (∀ y0 y1 y2 y3 y4 y5 y6 y7 y8 y9 y10 y11 y12 y13, LeO (giroref23_Check.j4 k y0 y1 y2 y3 y4 y5 y6 y7 y8 y9 y10 y11 y12 y13) (giroref23_Check.j4 (k + 1) y0 y1 y2 y3 y4 y5 y6 y7 y8 y9 y10 y11 y12 y13)) ∧ (∀ y0 y1 y2 y3 y4 y5 y6 y7 y8 y9 y10 y11 y12 y13, LeO (giroref23_Check.j5 k y0 y1 y2 y3 y4 y5 y6 y7 y8 y9 y10 y11 y12 y13) (giroref23_Check.j5 (k + 1) y0 y1 y2 y3 y4 y5 y6 y7 y8 y9 y10 y11 y12 y13))
 | 0 => ⟨fun _ _ _ _ _ _ _ _ _ _ _ _ _ _ r h => by simp [giroref23_Check.j0] at h, fun _ _ _ _ _ _ _ _ _ _ _ _ _ _ r h => by simp [giroref23_Check.j1] at h, fun _ _ _ _ _ _ _ _ _ _ _ _ _ _ r h => by simp [giroref23_Check.j2] at h, fun _ _ _ _ _ _ _ _ _ _ _ _ _ _ r h => by simp [giroref23_Check.j3] at h, fun _ _ _ _ _ _ _ _ _ _ _ _ _ _ r h => by simp [giroref23_Check.j4] at h, fun _ _ _ _ _ _ _ _ _ _ _ _ _ _ r h => by simp [giroref23_Check.j5] at h⟩
 | k + 1 => by
  obtain ⟨ih0, ih1, ih2, ih3, ih4, ih5⟩ := giroref23_Check.mono_l k
  refine ⟨?_, ?_, ?_, ?_, ?_, ?_⟩
  ·intro y0 y1 y2 y3 y4 y5 y6 y7 y8 y9 y10 y11 y12 y13
   unfold giroref23_Check.j0
   repeat' first
   | (with_reducible exact ih0 _ _ _ _ _ _ _ _ _ _ _ _ _ _)
   | (with_reducible exact ih1 _ _ _ _ _ _ _ _ _ _ _ _ _ _)
   | (with_reducible exact ih2 _ _ _ _ _ _ _ _ _ _ _ _ _ _)
   | (with_reducible exact ih3 _ _ _ _ _ _ _ _ _ _ _ _ _ _)
   | (with_reducible exact ih4 _ _ _ _ _ _ _ _ _ _ _ _ _ _)
   | (with_reducible exact ih5 _ _ _ _ _ _ _ _ _ _ _ _ _ _)
   | (with_reducible exact giroref23_valid.mono _ _ _)
   | (with_reducible exact LeO.refl _)
   | (with_reducible exact LeO.none _)
   | (with_reducible refine LeO.ite ?_ ?_)
   | (with_reducible refine LeO.bind ?_ (fun _ => ?_))
   | exact ih0 _ _ _ _ _ _ _ _ _ _ _ _ _ _
   | exact ih1 _ _ _ _ _ _ _ _ _ _ _ _ _ _
   | exact ih2 _ _ _ _ _ _ _ _ _ _ _ _ _ _
   | exact ih3 _ _ _ _ _ _ _ _ _ _ _ _ _ _
   | exact ih4 _ _ _ _ _ _ _ _ _ _ _ _ _ _
   | exact ih5 _ _ _ _ _ _ _ _ _ _ _ _ _ _
   | exact giroref23_valid.mono _ _ _
   | exact LeO.none _
   | refine LeO.ite ?_ ?_
   | refine LeO.bind ?_ (fun _ => ?_)
  ·intro y0 y1 y2 y3 y4 y5 y6 y7 y8 y9 y10 y11 y12 y13
   unfold giroref23_Check.j1
   repeat' first
   | (with_reducible exact ih0 _ _ _ _ _ _ _ _ _ _ _ _ _ _)
   | (with_reducible exact ih1 _ _ _ _ _ _ _ _ _ _ _ _ _ _)
   | (with_reducible exact ih2 _ _ _ _ _ _ _ _ _ _ _ _ _ _)
   | (with_reducible exact ih3 _ _ _ _ _ _ _ _ _ _ _ _ _ _)
   | (with_reducible exact ih4 _ _ _ _ _ _ _ _ _ _ _ _ _ _)
   | (with_reducible exact ih5 _ _ _ _ _ _ _ _ _ _ _ _ _ _)
   | (with_reducible exact giroref23_valid.mono _ _ _)
   | (with_reducible exact LeO.refl _)
   | (with_reducible exact LeO.none _)
   | (with_reducible refine LeO.ite ?_ ?_)
   | (with_reducible refine LeO.bind ?_ (fun _ => ?_))
   | exact ih0 _ _ _ _ _ _ _ _ _ _ _ _ _ _
   | exact ih1 _ _ _ _ _ _ _ _ _ _ _ _ _ _
   | exact ih2 _ _ _ _ _ _ _ _ _ _ _ _ _ _
   | exact ih3 _ _ _ _ _ _ _ _ _ _ _ _ _ _
   | exact ih4 _ _ _ _ _ _ _ _ _ _ _ _ _ _
   | exact ih5 _ _ _ _ _ _ _ _ _ _ _ _ _ _
   | exact giroref23_valid.mono _ _ _
   | exact LeO.none _
   | refine LeO.ite ?_ ?_
   | refine LeO.bind ?_ (fun _ => ?_)
  ·intro y0 y1 y2 y3 y4 y5 y6 y7 y8 y9 y10 y11 y12 y13
   unfold giroref23_Check.j2
   repeat' first
   | (with_reducible exact ih0 _ _ _ _ _ _ _ _ _ _ _ _ _ _)
   | (with_reducible exact ih1 _ _ _ _ _ _ _ _ _ _ _ _ _ _)
   | (with_reducible exact ih2 _ _ _ _ _ _ _ _ _ _ _ _ _ _)
   | (with_reducible exact ih3 _ _ _ _ _ _ _ _ _ _ _ _ _ _)
   | (with_reducible exact ih4 _ _ _ _ _ _ _ _ _ _ _ _ _ _)
   | (with_reducible exact ih5 _ _ _ _ _ _ _ _ _ _ _ _ _ _)
   | (with_reducible exact giroref23_valid.mono _ _ _)
   | (with_reducible exact LeO.refl _)
   | (with_reducible exact LeO.none _)
   | (with_reducible refine LeO.ite ?_ ?_)
   | (with_reducible refine LeO.bind ?_ (fun _ => ?_))
   | exact ih0 _ _ _ _ _ _ _ _ _ _ _ _ _ _
   | exact ih1 _ _ _ _ _ _ _ _ _ _ _ _ _ _
   | exact ih2 _ _ _ _ _ _ _ _ _ _ _ _ _ _
   | exact ih3 _ _ _ _ _ _ _ _ _ _ _ _ _ _
   | exact ih4 _ _ _ _ _ _ _ _ _ _ _ _ _ _
   | exact ih5 _ _ _ _ _ _ _ _ _ _ _ _ _ _
   | exact giroref23_valid.mono _ _ _
   | exact LeO.none _
   | refine LeO.ite ?_ ?_
   | refine LeO.bind ?_ (fun _ => ?_)
  ·intro y0 y1 y2 y3 y4 y5 y6 y7 y8 y9 y10 y11 y12 y13
   unfold giroref23_Check.j3
   repeat' first
   | (with_reducible exact ih0 _ _ _ _ _ _ _ _ _ _ _ _ _ _)
   | (with_reducible exact ih1 _ _ _ _ _ _ _ _ _ _ _ _ _ _)
   | (with_reducible exact ih2 _ _ _ _ _ _ _ _ _ _ _ _ _ _)
   | (with_reducible exact ih3 _ _ _ _ _ _ _ _ _ _ _ _ _ _)
   | (with_reducible exact ih4 _ _ _ _ _ _ _ _ _ _ _ _ _ _)
   | (with_reducible exact ih5 _ _ _ _ _ _ _ _ _ _ _ _ _ _)
   | (with_reducible exact giroref23_valid.mono _ _ _)
   | (with_reducible exact LeO.refl _)
   | (with_reducible exact LeO.none _)
   | (with_reducible refine LeO.ite ?_ ?_)
   | (with_reducible refine LeO.bind ?_ (fun _ => ?_))
   | exact ih0 _ _ _ _ _ _ _ _ _ _ _ _ _ _
   | exact ih1 _ _ _ _ _ _ _ _ _ _ _ _ _ _
   | exact ih2 _ _ _ _ _ _ _ _ _ _ _ _ _ _
   | exact ih3 _ _ _ _ _ _ _ _ _ _ _ _ _ _
   | exact ih4 _ _ _ _ _ _ _ _ _ _ _ _ _ _
   | exact ih5 _ _ _ _ _ _ _ _ _ _ _ _ _ _
   | exact giroref23_valid.mono _ _ _
   | exact LeO.none _
   | refine LeO.ite ?_ ?_
   | refine LeO.bind ?_ (fun _ => ?_)
  ·intro y0 y1 y2 y3 y4 y5 y6 y7 y8 y9 y10 y11 y12 y13
   unfold giroref23_Check.j4
   repeat' first
   | (with_reducible exact ih0 _ _ _ _ _ _ _ _ _ _ _ _ _ _)
   | (with_reducible exact ih1 _ _ _ _ _ _ _ _ _ _ _ _ _ _)
   | (with_reducible exact ih2 _ _ _ _ _ _ _ _ _ _ _ _ _ _)
   | (with_reducible exact ih3 _ _ _ _ _ _ _ _ _ _ _ _ _ _)
   | (with_reducible exact ih4 _ _ _ _ _ _ _ _ _ _ _ _ _ _)
   | (with_reducible exact ih5 _ _ _ _ _ _ _ _ _ _ _ _ _ _)
   | (with_reducible exact giroref23_valid.mono _ _ _)
   | (with_reducible exact LeO.refl _)
   | (with_reducible exact LeO.none _)
   | (with_reducible refine LeO.ite ?_ ?_)
   | (with_reducible refine LeO.bind ?_ (fun _ => ?_))
   | exact ih0 _ _ _ _ _ _ _ _ _ _ _ _ _ _
   | exact ih1 _ _ _ _ _ _ _ _ _ _ _ _ _ _
   | exact ih2 _ _ _ _ _ _ _ _ _ _ _ _ _ _
   | exact ih3 _ _ _ _ _ _ _ _ _ _ _ _ _ _
   | exact ih4 _ _ _ _ _ _ _ _ _ _ _ _ _ _
   | exact ih5 _ _ _ _ _ _ _ _ _ _ _ _ _ _
   | exact giroref23_valid.mono _ _ _
   | exact LeO.none _
   | refine LeO.ite ?_ ?_
   | refine LeO.bind ?_ (fun _ => ?_)
  ·intro y0 y1 y2 y3 y4 y5 y6 y7 y8 y9 y10 y11 y12 y13
   unfold giroref23_Check.j5
   repeat' first
   | (with_reducible exact ih0 _ _ _ _ _ _ _ _ _ _ _ _ _ _)
   | (with_reducible exact ih1 _ _ _ _ _ _ _ _ _ _ _ _ _ _)
   | (with_reducible exact ih2 _ _ _ _ _ _ _ _ _ _ _ _ _ _)
   | (with_reducible exact ih3 _ _ _ _ _ _ _ _ _ _ _ _ _ _)
   | (with_reducible exact ih4 _ _ _ _ _ _ _ _ _ _ _ _ _ _)
   | (with_reducible exact ih5 _ _ _ _ _ _ _ _ _ _ _ _ _ _)
   | (with_reducible exact giroref23_valid.mono _ _ _)
   | (with_reducible exact LeO.refl _)
   | (with_reducible exact LeO.none _)
   | (with_reducible refine LeO.ite ?_ ?_)
   | (with_reducible refine LeO.bind ?_ (fun _ => ?_))
   | exact ih0 _ _ _ _ _ _ _ _ _ _ _ _ _ _
   | exact ih1 _ _ _ _ _ _ _ _ _ _ _ _ _ _
   | exact ih2 _ _ _ _ _ _ _ _ _ _ _ _ _ _
   | exact ih3 _ _ _ _ _ _ _ _ _ _ _ _ _ _
   | exact ih4 _ _ _ _ _ _ _ _ _ _ _ _ _ _
   | exact ih5 _ _ _ _ _ _ _ _ _ _ _ _ _ _
   | exact giroref23_valid.mono _ _ _
   | exact LeO.none _
   | refine LeO.ite ?_ ?_
   | refine LeO.bind ?_ (fun _ => ?_)
theorem giroref23_Check.mono : ∀ a0 a1 a2 a3 a4 a5 a6 a7 a8 a9 a10 a11 a12 k, LeO (giroref23_Check.f k a0 a1 a2 a3 a4 a5 a6 a7 a8 a9 a10 a11 a12) (giroref23_Check.f (k + 1) a0 a1 a2 a3 a4 a5 a6 a7 a8 a9 a10 a11 a12) := by
 intro a0 a1 a2 a3 a4 a5 a6 a7 a8 a9 a10 a11 a12 k
 obtain ⟨ih0, ih1, ih2, ih3, ih4, ih5⟩ := giroref23_Check.mono_l k
 unfold giroref23_Check.f
 repeat' first
   | (with_reducible exact ih0 _ _ _ _ _ _ _ _ _ _ _ _ _ _)
   | (with_reducible exact ih1 _ _ _ _ _ _ _ _ _ _ _ _ _ _)
   | (with_reducible exact ih2 _ _ _ _ _ _ _ _ _ _ _ _ _ _)
   | (with_reducible exact ih3 _ _ _ _ _ _ _ _ _ _ _ _ _ _)
   | (with_reducible exact ih4 _ _ _ _ _ _ _ _ _ _ _ _ _ _)
   | (with_reducible exact ih5 _ _ _ _ _ _ _ _ _ _ _ _ _ _)
   | (with_reducible exact giroref23_valid.mono _ _ _)
   | (with_reducible exact LeO.refl _)
   | (with_reducible exact LeO.none _)
   | (with_reducible refine LeO.ite ?_ ?_)
   | (with_reducible refine LeO.bind ?_ (fun _ => ?_))
   | exact ih0 _ _ _ _ _ _ _ _ _ _ _ _ _ _
   | exact ih1 _ _ _ _ _ _ _ _ _ _ _ _ _ _
   | exact ih2 _ _ _ _ _ _ _ _ _ _ _ _ _ _
   | exact ih3 _ _ _ _ _ _ _ _ _ _ _ _ _ _
   | exact ih4 _ _ _ _ _ _ _ _ _ _ _ _ _ _
   | exact ih5 _ _ _ _ _ _ _ _ _ _ _ _ _ _
   | exact giroref23_valid.mono _ _ _
   | exact LeO.none _
   | refine LeO.ite ?_ ?_
   | refine LeO.bind ?_ (fun _ => ?_)
set_option maxHeartbeats 8000000 in
set_option maxRecDepth 100000 in
theorem giroref23_Check.calls (k : Nat) (a0_0 : Int) (a0_1 : ByteArray) (a0_2 : ByteArray) (a0_3 : ByteArray) (a0_4 : Int) (a0_5 : Int) (a0_6 : Int) (a0_7 : Int) (a0_8 : Int) (a0_9 : Bool) (a0_10 : Int) (a0_11 : ByteArray) (a0_12 : ByteArray) (r : Int) (w : World) (h : giroref23_Check.f k a0_0 a0_1 a0_2 a0_3 a0_4 a0_5 a0_6 a0_7 a0_8 a0_9 a0_10 a0_11 a0_12 = some r) :
  Calls Tryd.prog 9 #[.agg #[.int .i64 a0_0, .string a0_1, .string a0_2, .string a0_3, .int .i64 a0_4, .int .i64 a0_5, .int .i64 a0_6, .int .i64 a0_7, .int .i64 a0_8, .bool a0_9, .int .i64 a0_10, .string a0_11, .string a0_12]] w fun e w' => e = .returned (.int .i64 r) ∧ Below w.heap.size w w' := by
 have hu24 := Tryd.underlying24
 have HB := Aside0.mk (Below.refl w.heap.size w)
 have H : (if a0_0 = 1 then (giroref23_Check.j0 k false a0_0 a0_1 a0_2 a0_3 a0_4 a0_5 a0_6 a0_7 a0_8 a0_9 a0_10 a0_11 a0_12) else (giroref23_Check.j0 k (a0_0 != 2) a0_0 a0_1 a0_2 a0_3 a0_4 a0_5 a0_6 a0_7 a0_8 a0_9 a0_10 a0_11 a0_12)) = some r := h
 clear h
 have HC2 := Aside0.mk H
 clear H
 go_enter Tryd.func9, Tryd.ntmps9
 go_upto_region 1 with (first | ((with_reducible refine gate_dst (N := 1) rfl ?_); refine box_event ?hg (N := 1) ?hd (cs := #[.int .i64 a0_0, .string a0_1, .string a0_2, .string a0_3, .int .i64 a0_4, .int .i64 a0_5, .int .i64 a0_6, .int .i64 a0_7, .int .i64 a0_8, .bool a0_9, .int .i64 a0_10, .string a0_11, .string a0_12]) (t := 24) ?hr ?_; (case hd => rfl); (case hg => rfl); (case hr => first | (go_simp; done) | (go_simp; rfl)); intro gb172 hg w3 hbox hb; have n0_ := Aside0.mk (below_step (by repeat (first | (with_reducible first | exact HB.out | apply below_alloc | apply pw_below_drewN | apply below_drew1) | exact HB.out)) hb); have n1_ := Aside0.mk (hbox); have n2_ := Aside0.mk ((by rw [hg]; exact (below_size (by repeat (first | (with_reducible first | exact HB.out | apply below_alloc | apply pw_below_drewN | apply below_drew1) | exact HB.out))) : w.heap.size ≤ gb172)); have n3_ := Aside0.mk ((by rw [hg]; exact (below_size (by repeat (first | (with_reducible first | exact HB.out | apply below_alloc | apply pw_below_drewN | apply below_drew1) | exact HB.out))) : w.heap.size ≤ gb172)); clear HB; have HB := n0_; have BK172 := n1_; have GW172 := n2_; have GE172 := n3_; clear n0_ n1_ n2_ n3_; clear hb hbox hg))
 (try simp only [Act.put, List.setIfInBounds_toArray, List.set_cons_zero, List.set_cons_succ])
 go_cut [10] (fun v10 wc => ∃ (kq : Nat) (x10_1 : Bool), v10 = .bool x10_1 ∧ Aside0 (giroref23_Check.j0 kq x10_1 a0_0 a0_1 a0_2 a0_3 a0_4 a0_5 a0_6 a0_7 a0_8 a0_9 a0_10 a0_11 a0_12 = some r) ∧ Aside0 (kq ≤ k) ∧ Aside0 (wc.heap[gb172]? = some (.cells #[.int .i64 a0_0, .string a0_1, .string a0_2, .string a0_3, .int .i64 a0_4, .int .i64 a0_5, .int .i64 a0_6, .int .i64 a0_7, .int .i64 a0_8, .bool a0_9, .int .i64 a0_10, .string a0_11, .string a0_12] 24 (0, 0))) ∧ Aside0 (Below w.heap.size w wc))
 case first =>
  have H := HC2.out
  clear HC2
  by_cases c4 : a0_0 = 1
  ·rw [if_pos c4] at H
   have c4b0 : (a0_0 == 1) = true := beq_iff_eq.mpr c4
   have c4b1 : (a0_0 != 1) = false := bne_eq_false_iff_eq.mpr c4
   clear c4
   (first | rw [c4b0] | (simp only [i64_w, i32_w]; rw [c4b0]) | skip)
   have H' := Aside0.mk H
   clear H
   have hcz5_0 : w3.cell? ⟨gb172, 0, none⟩ = some (.int .i64 a0_0) := (blk_cell BK172.out 0).trans rfl
   have hcz5_1 : w3.cell? ⟨gb172, 1, none⟩ = some (.string a0_1) := (blk_cell BK172.out 1).trans rfl
   have hcz5_2 : w3.cell? ⟨gb172, 2, none⟩ = some (.string a0_2) := (blk_cell BK172.out 2).trans rfl
   have hcz5_3 : w3.cell? ⟨gb172, 3, none⟩ = some (.string a0_3) := (blk_cell BK172.out 3).trans rfl
   have hcz5_4 : w3.cell? ⟨gb172, 4, none⟩ = some (.int .i64 a0_4) := (blk_cell BK172.out 4).trans rfl
   have hcz5_5 : w3.cell? ⟨gb172, 5, none⟩ = some (.int .i64 a0_5) := (blk_cell BK172.out 5).trans rfl
   have hcz5_6 : w3.cell? ⟨gb172, 6, none⟩ = some (.int .i64 a0_6) := (blk_cell BK172.out 6).trans rfl
   have hcz5_7 : w3.cell? ⟨gb172, 7, none⟩ = some (.int .i64 a0_7) := (blk_cell BK172.out 7).trans rfl
   have hcz5_8 : w3.cell? ⟨gb172, 8, none⟩ = some (.int .i64 a0_8) := (blk_cell BK172.out 8).trans rfl
   have hcz5_9 : w3.cell? ⟨gb172, 9, none⟩ = some (.bool a0_9) := (blk_cell BK172.out 9).trans rfl
   have hcz5_10 : w3.cell? ⟨gb172, 10, none⟩ = some (.int .i64 a0_10) := (blk_cell BK172.out 10).trans rfl
   have hcz5_11 : w3.cell? ⟨gb172, 11, none⟩ = some (.string a0_11) := (blk_cell BK172.out 11).trans rfl
   have hcz5_12 : w3.cell? ⟨gb172, 12, none⟩ = some (.string a0_12) := (blk_cell BK172.out 12).trans rfl
   have hfz5_0 := blk_frozen BK172.out 0
   have hfz5_1 := blk_frozen BK172.out 1
   have hfz5_2 := blk_frozen BK172.out 2
   have hfz5_3 := blk_frozen BK172.out 3
   have hfz5_4 := blk_frozen BK172.out 4
   have hfz5_5 := blk_frozen BK172.out 5
   have hfz5_6 := blk_frozen BK172.out 6
   have hfz5_7 := blk_frozen BK172.out 7
   have hfz5_8 := blk_frozen BK172.out 8
   have hfz5_9 := blk_frozen BK172.out 9
   have hfz5_10 := blk_frozen BK172.out 10
   have hfz5_11 := blk_frozen BK172.out 11
   have hfz5_12 := blk_frozen BK172.out 12
   go_wp2
   go_meet
   case rel => exact ⟨_, (false), (by first | rfl | (simp; done) | (simp [*]; done)), H', ⟨by first | omega | exact Nat.le_refl _⟩, ⟨by (with_reducible repeat (first | refine blk_drewN ?_ _ | refine blk_drew ?_ | refine blk_alloc ?_ _)); exact BK172.out⟩, ⟨by repeat (first | (with_reducible first | exact HB.out | apply below_alloc | apply pw_below_drewN | apply below_drew1 | refine below_set ?_ GE172.out) | exact HB.out)⟩⟩
  ·rw [if_neg c4] at H
   have c4b0 : (a0_0 == 1) = false := beq_eq_false_iff_ne.mpr c4
   have c4b1 : (a0_0 != 1) = true := bne_iff_ne.mpr c4
   (first | rw [c4b0] | (simp only [i64_w, i32_w]; rw [c4b0]) | skip)
   have H' := Aside0.mk H
   clear H
   have hcz6_0 : w3.cell? ⟨gb172, 0, none⟩ = some (.int .i64 a0_0) := (blk_cell BK172.out 0).trans rfl
   have hcz6_1 : w3.cell? ⟨gb172, 1, none⟩ = some (.string a0_1) := (blk_cell BK172.out 1).trans rfl
   have hcz6_2 : w3.cell? ⟨gb172, 2, none⟩ = some (.string a0_2) := (blk_cell BK172.out 2).trans rfl
   have hcz6_3 : w3.cell? ⟨gb172, 3, none⟩ = some (.string a0_3) := (blk_cell BK172.out 3).trans rfl
   have hcz6_4 : w3.cell? ⟨gb172, 4, none⟩ = some (.int .i64 a0_4) := (blk_cell BK172.out 4).trans rfl
   have hcz6_5 : w3.cell? ⟨gb172, 5, none⟩ = some (.int .i64 a0_5) := (blk_cell BK172.out 5).trans rfl
   have hcz6_6 : w3.cell? ⟨gb172, 6, none⟩ = some (.int .i64 a0_6) := (blk_cell BK172.out 6).trans rfl
   have hcz6_7 : w3.cell? ⟨gb172, 7, none⟩ = some (.int .i64 a0_7) := (blk_cell BK172.out 7).trans rfl
   have hcz6_8 : w3.cell? ⟨gb172, 8, none⟩ = some (.int .i64 a0_8) := (blk_cell BK172.out 8).trans rfl
   have hcz6_9 : w3.cell? ⟨gb172, 9, none⟩ = some (.bool a0_9) := (blk_cell BK172.out 9).trans rfl
   have hcz6_10 : w3.cell? ⟨gb172, 10, none⟩ = some (.int .i64 a0_10) := (blk_cell BK172.out 10).trans rfl
   have hcz6_11 : w3.cell? ⟨gb172, 11, none⟩ = some (.string a0_11) := (blk_cell BK172.out 11).trans rfl
   have hcz6_12 : w3.cell? ⟨gb172, 12, none⟩ = some (.string a0_12) := (blk_cell BK172.out 12).trans rfl
   have hfz6_0 := blk_frozen BK172.out 0
   have hfz6_1 := blk_frozen BK172.out 1
   have hfz6_2 := blk_frozen BK172.out 2
   have hfz6_3 := blk_frozen BK172.out 3
   have hfz6_4 := blk_frozen BK172.out 4
   have hfz6_5 := blk_frozen BK172.out 5
   have hfz6_6 := blk_frozen BK172.out 6
   have hfz6_7 := blk_frozen BK172.out 7
   have hfz6_8 := blk_frozen BK172.out 8
   have hfz6_9 := blk_frozen BK172.out 9
   have hfz6_10 := blk_frozen BK172.out 10
   have hfz6_11 := blk_frozen BK172.out 11
   have hfz6_12 := blk_frozen BK172.out 12
   go_wp2
   go_meet
   case rel => exact ⟨_, ((a0_0 != 2)), (by first | rfl | (simp; done) | (simp [*]; done)), H', ⟨by first | omega | exact Nat.le_refl _⟩, ⟨by (with_reducible repeat (first | refine blk_drewN ?_ _ | refine blk_drew ?_ | refine blk_alloc ?_ _)); exact BK172.out⟩, ⟨by repeat (first | (with_reducible first | exact HB.out | apply below_alloc | apply pw_below_drewN | apply below_drew1 | refine below_set ?_ GE172.out) | exact HB.out)⟩⟩
 case rest =>
  clear HC2
  try clear p2
  try clear c4
  try clear c4b0
  try clear c4b1
  try clear hcz5_0 hcz5_1 hcz5_10 hcz5_11 hcz5_12 hcz5_2 hcz5_3 hcz5_4 hcz5_5 hcz5_6 hcz5_7 hcz5_8 hcz5_9
  try clear hcz6_0 hcz6_1 hcz6_10 hcz6_11 hcz6_12 hcz6_2 hcz6_3 hcz6_4 hcz6_5 hcz6_6 hcz6_7 hcz6_8 hcz6_9
  try clear hfz5_0 hfz5_1 hfz5_10 hfz5_11 hfz5_12 hfz5_2 hfz5_3 hfz5_4 hfz5_5 hfz5_6 hfz5_7 hfz5_8 hfz5_9
  try clear hfz6_0 hfz6_1 hfz6_10 hfz6_11 hfz6_12 hfz6_2 hfz6_3 hfz6_4 hfz6_5 hfz6_6 hfz6_7 hfz6_8 hfz6_9
  obtain ⟨kq, x10_1, rfl, HA, HJ1, BK172, HB⟩ := hcut
  cases kq with
  | zero => exact absurd HA.out (by simp [giroref23_Check.j0])
  | succ kj1 =>
   have H := HA.out
   clear HA
   simp only [giroref23_Check.j0] at H
   by_cases c7 : x10_1 = true
   ·subst c7
    have H1 : (some 11) = some r := by rw [if_pos rfl] at H; exact H
    clear H
    have H := H1
    clear H1
    obtain rfl := Option.some.inj H
    go_wp2
    go_ret
    exact ⟨by first | rfl | (simp [errW_none, errW_some] <;> rfl) | (simp [*, errW_none, errW_some] <;> rfl), by repeat (first | (with_reducible first | exact HB.out | apply below_alloc | apply pw_below_drewN | apply below_drew1 | refine below_set ?_ GE172.out) | exact HB.out)⟩
   ·replace c7 := Bool.eq_false_iff.mpr c7
    subst c7
    have H1 : ((giroref23_valid.f kj1 1 a0_1).bind fun t173 => (if t173 = true then ((giroref23_valid.f kj1 1 a0_2).bind fun t174 => (giroref23_Check.j1 kj1 (!t174) a0_0 a0_1 a0_2 a0_3 a0_4 a0_5 a0_6 a0_7 a0_8 a0_9 a0_10 a0_11 a0_12)) else (giroref23_Check.j1 kj1 true a0_0 a0_1 a0_2 a0_3 a0_4 a0_5 a0_6 a0_7 a0_8 a0_9 a0_10 a0_11 a0_12))) = some r := by rw [if_neg (show ¬ (false = true) by decide)] at H; exact H
    clear H
    have H := H1
    clear H1
    have HC8 := Aside0.mk H
    clear H
    go_upto_region 3 with (fail)
    go_cut [20] (fun v20 wc => ∃ (kq : Nat) (x20_7 : Bool), v20 = .bool x20_7 ∧ Aside0 (giroref23_Check.j1 kq x20_7 a0_0 a0_1 a0_2 a0_3 a0_4 a0_5 a0_6 a0_7 a0_8 a0_9 a0_10 a0_11 a0_12 = some r) ∧ Aside0 (kq ≤ kj1) ∧ Aside0 (wc.heap[gb172]? = some (.cells #[.int .i64 a0_0, .string a0_1, .string a0_2, .string a0_3, .int .i64 a0_4, .int .i64 a0_5, .int .i64 a0_6, .int .i64 a0_7, .int .i64 a0_8, .bool a0_9, .int .i64 a0_10, .string a0_11, .string a0_12] 24 (0, 0))) ∧ Aside0 (Below w.heap.size w wc))
    case first =>
     have H := HC8.out
     clear HC8
     replace H := Option.bind_eq_some_iff.mp H
     obtain ⟨t173, A90, H⟩ := H
     replace H : (if t173 = true then ((giroref23_valid.f kj1 1 a0_2).bind fun t174 => (giroref23_Check.j1 kj1 (!t174) a0_0 a0_1 a0_2 a0_3 a0_4 a0_5 a0_6 a0_7 a0_8 a0_9 a0_10 a0_11 a0_12)) else (giroref23_Check.j1 kj1 true a0_0 a0_1 a0_2 a0_3 a0_4 a0_5 a0_6 a0_7 a0_8 a0_9 a0_10 a0_11 a0_12)) = some r := H
     have A9 := Aside0.mk A90
     clear A90
     by_cases c10 : t173 = true
     ·subst c10
      have H1 : ((giroref23_valid.f kj1 1 a0_2).bind fun t174 => (giroref23_Check.j1 kj1 (!t174) a0_0 a0_1 a0_2 a0_3 a0_4 a0_5 a0_6 a0_7 a0_8 a0_9 a0_10 a0_11 a0_12)) = some r := by rw [if_pos rfl] at H; exact H
      clear H
      have H := H1
      clear H1
      replace H := Option.bind_eq_some_iff.mp H
      obtain ⟨t174, A110, H⟩ := H
      replace H : (giroref23_Check.j1 kj1 (!t174) a0_0 a0_1 a0_2 a0_3 a0_4 a0_5 a0_6 a0_7 a0_8 a0_9 a0_10 a0_11 a0_12) = some r := H
      have A11 := Aside0.mk A110
      clear A110
      have H' := Aside0.mk H
      clear H
      have hcz12_0 : wc.cell? ⟨gb172, 0, none⟩ = some (.int .i64 a0_0) := (blk_cell BK172.out 0).trans rfl
      have hcz12_1 : wc.cell? ⟨gb172, 1, none⟩ = some (.string a0_1) := (blk_cell BK172.out 1).trans rfl
      have hcz12_2 : wc.cell? ⟨gb172, 2, none⟩ = some (.string a0_2) := (blk_cell BK172.out 2).trans rfl
      have hcz12_3 : wc.cell? ⟨gb172, 3, none⟩ = some (.string a0_3) := (blk_cell BK172.out 3).trans rfl
      have hcz12_4 : wc.cell? ⟨gb172, 4, none⟩ = some (.int .i64 a0_4) := (blk_cell BK172.out 4).trans rfl
      have hcz12_5 : wc.cell? ⟨gb172, 5, none⟩ = some (.int .i64 a0_5) := (blk_cell BK172.out 5).trans rfl
      have hcz12_6 : wc.cell? ⟨gb172, 6, none⟩ = some (.int .i64 a0_6) := (blk_cell BK172.out 6).trans rfl
      have hcz12_7 : wc.cell? ⟨gb172, 7, none⟩ = some (.int .i64 a0_7) := (blk_cell BK172.out 7).trans rfl
      have hcz12_8 : wc.cell? ⟨gb172, 8, none⟩ = some (.int .i64 a0_8) := (blk_cell BK172.out 8).trans rfl
      have hcz12_9 : wc.cell? ⟨gb172, 9, none⟩ = some (.bool a0_9) := (blk_cell BK172.out 9).trans rfl
      have hcz12_10 : wc.cell? ⟨gb172, 10, none⟩ = some (.int .i64 a0_10) := (blk_cell BK172.out 10).trans rfl
      have hcz12_11 : wc.cell? ⟨gb172, 11, none⟩ = some (.string a0_11) := (blk_cell BK172.out 11).trans rfl
      have hcz12_12 : wc.cell? ⟨gb172, 12, none⟩ = some (.string a0_12) := (blk_cell BK172.out 12).trans rfl
      have hfz12_0 := blk_frozen BK172.out 0
      have hfz12_1 := blk_frozen BK172.out 1
      have hfz12_2 := blk_frozen BK172.out 2
      have hfz12_3 := blk_frozen BK172.out 3
      have hfz12_4 := blk_frozen BK172.out 4
      have hfz12_5 := blk_frozen BK172.out 5
      have hfz12_6 := blk_frozen BK172.out 6
      have hfz12_7 := blk_frozen BK172.out 7
      have hfz12_8 := blk_frozen BK172.out 8
      have hfz12_9 := blk_frozen BK172.out 9
      have hfz12_10 := blk_frozen BK172.out 10
      have hfz12_11 := blk_frozen BK172.out 11
      have hfz12_12 := blk_frozen BK172.out 12
      go_wp2_with (first | ((with_reducible refine gate_callee (f := 25) rfl ?_); refine goesL_ (some 13) rfl rfl Tryd.func25 (by kernel_rfl) rfl #[.int .i64 1, .string a0_1] rfl (by (try simp only [List.map_toArray, List.map_cons, List.map_nil]); first | done | rfl | (simp only [List.length_drop, List.length_take]; rfl)) ?_; (with_reducible refine (giroref23_valid.calls kj1 1 a0_1 true _ A9.out).mono ?_); rintro e w13 ⟨rfl, hb⟩; refine ⟨_, rfl, ?_⟩; have n0_ := Aside0.mk (blk_below (g := gb172) (o := .cells #[.int .i64 a0_0, .string a0_1, .string a0_2, .string a0_3, .int .i64 a0_4, .int .i64 a0_5, .int .i64 a0_6, .int .i64 a0_7, .int .i64 a0_8, .bool a0_9, .int .i64 a0_10, .string a0_11, .string a0_12] 24 (0, 0)) (by (with_reducible repeat (first | refine blk_drewN ?_ _ | refine blk_drew ?_ | refine blk_alloc ?_ _)); exact BK172.out) hb); have n1_ := Aside0.mk (below_step (by repeat (first | (with_reducible first | exact HB.out | apply below_alloc | apply pw_below_drewN | apply below_drew1 | refine below_set ?_ GE172.out) | exact HB.out)) hb); clear BK172; clear HB; have BK172 := n0_; have HB := n1_; clear n0_ n1_; (try clear hb); (try clear hb2); (try clear hk); (try clear hi); have hcz14_0 : w13.cell? ⟨gb172, 0, none⟩ = some (.int .i64 a0_0) := (blk_cell BK172.out 0).trans rfl; have hcz14_1 : w13.cell? ⟨gb172, 1, none⟩ = some (.string a0_1) := (blk_cell BK172.out 1).trans rfl; have hcz14_2 : w13.cell? ⟨gb172, 2, none⟩ = some (.string a0_2) := (blk_cell BK172.out 2).trans rfl; have hcz14_3 : w13.cell? ⟨gb172, 3, none⟩ = some (.string a0_3) := (blk_cell BK172.out 3).trans rfl; have hcz14_4 : w13.cell? ⟨gb172, 4, none⟩ = some (.int .i64 a0_4) := (blk_cell BK172.out 4).trans rfl; have hcz14_5 : w13.cell? ⟨gb172, 5, none⟩ = some (.int .i64 a0_5) := (blk_cell BK172.out 5).trans rfl; have hcz14_6 : w13.cell? ⟨gb172, 6, none⟩ = some (.int .i64 a0_6) := (blk_cell BK172.out 6).trans rfl; have hcz14_7 : w13.cell? ⟨gb172, 7, none⟩ = some (.int .i64 a0_7) := (blk_cell BK172.out 7).trans rfl; have hcz14_8 : w13.cell? ⟨gb172, 8, none⟩ = some (.int .i64 a0_8) := (blk_cell BK172.out 8).trans rfl; have hcz14_9 : w13.cell? ⟨gb172, 9, none⟩ = some (.bool a0_9) := (blk_cell BK172.out 9).trans rfl; have hcz14_10 : w13.cell? ⟨gb172, 10, none⟩ = some (.int .i64 a0_10) := (blk_cell BK172.out 10).trans rfl; have hcz14_11 : w13.cell? ⟨gb172, 11, none⟩ = some (.string a0_11) := (blk_cell BK172.out 11).trans rfl; have hcz14_12 : w13.cell? ⟨gb172, 12, none⟩ = some (.string a0_12) := (blk_cell BK172.out 12).trans rfl; have hfz14_0 := blk_frozen BK172.out 0; have hfz14_1 := blk_frozen BK172.out 1; have hfz14_2 := blk_frozen BK172.out 2; have hfz14_3 := blk_frozen BK172.out 3; have hfz14_4 := blk_frozen BK172.out 4; have hfz14_5 := blk_frozen BK172.out 5; have hfz14_6 := blk_frozen BK172.out 6; have hfz14_7 := blk_frozen BK172.out 7; have hfz14_8 := blk_frozen BK172.out 8; have hfz14_9 := blk_frozen BK172.out 9; have hfz14_10 := blk_frozen BK172.out 10; have hfz14_11 := blk_frozen BK172.out 11; have hfz14_12 := blk_frozen BK172.out 12) | (go_at_call 25; (with_reducible refine (giroref23_valid.calls kj1 1 a0_2 t174 _ A11.out).mono ?_); rintro e w15 ⟨rfl, hb⟩; have n0_ := Aside0.mk (blk_below (g := gb172) (o := .cells #[.int .i64 a0_0, .string a0_1, .string a0_2, .string a0_3, .int .i64 a0_4, .int .i64 a0_5, .int .i64 a0_6, .int .i64 a0_7, .int .i64 a0_8, .bool a0_9, .int .i64 a0_10, .string a0_11, .string a0_12] 24 (0, 0)) (by (with_reducible repeat (first | refine blk_drewN ?_ _ | refine blk_drew ?_ | refine blk_alloc ?_ _)); exact BK172.out) hb); have n1_ := Aside0.mk (below_step (by repeat (first | (with_reducible first | exact HB.out | apply below_alloc | apply pw_below_drewN | apply below_drew1 | refine below_set ?_ GE172.out) | exact HB.out)) hb); clear BK172; clear HB; have BK172 := n0_; have HB := n1_; clear n0_ n1_; (try clear hb); (try clear hb2); (try clear hk); (try clear hi)))
      go_meet
      case rel => exact ⟨_, (!t174), (by first | rfl | (simp; done) | (simp [*]; done)), H', ⟨by have := HJ1.out; first | omega | exact Nat.le_refl _⟩, ⟨by (with_reducible repeat (first | refine blk_drewN ?_ _ | refine blk_drew ?_ | refine blk_alloc ?_ _)); exact BK172.out⟩, ⟨by repeat (first | (with_reducible first | exact HB.out | apply below_alloc | apply pw_below_drewN | apply below_drew1 | refine below_set ?_ GE172.out) | exact HB.out)⟩⟩
     ·replace c10 := Bool.eq_false_iff.mpr c10
      subst c10
      have H1 : (giroref23_Check.j1 kj1 true a0_0 a0_1 a0_2 a0_3 a0_4 a0_5 a0_6 a0_7 a0_8 a0_9 a0_10 a0_11 a0_12) = some r := by rw [if_neg (show ¬ (false = true) by decide)] at H; exact H
      clear H
      have H := H1
      clear H1
      have H' := Aside0.mk H
      clear H
      have hcz16_0 : wc.cell? ⟨gb172, 0, none⟩ = some (.int .i64 a0_0) := (blk_cell BK172.out 0).trans rfl
      have hcz16_1 : wc.cell? ⟨gb172, 1, none⟩ = some (.string a0_1) := (blk_cell BK172.out 1).trans rfl
      have hcz16_2 : wc.cell? ⟨gb172, 2, none⟩ = some (.string a0_2) := (blk_cell BK172.out 2).trans rfl
      have hcz16_3 : wc.cell? ⟨gb172, 3, none⟩ = some (.string a0_3) := (blk_cell BK172.out 3).trans rfl
      have hcz16_4 : wc.cell? ⟨gb172, 4, none⟩ = some (.int .i64 a0_4) := (blk_cell BK172.out 4).trans rfl
      have hcz16_5 : wc.cell? ⟨gb172, 5, none⟩ = some (.int .i64 a0_5) := (blk_cell BK172.out 5).trans rfl
      have hcz16_6 : wc.cell? ⟨gb172, 6, none⟩ = some (.int .i64 a0_6) := (blk_cell BK172.out 6).trans rfl
      have hcz16_7 : wc.cell? ⟨gb172, 7, none⟩ = some (.int .i64 a0_7) := (blk_cell BK172.out 7).trans rfl
      have hcz16_8 : wc.cell? ⟨gb172, 8, none⟩ = some (.int .i64 a0_8) := (blk_cell BK172.out 8).trans rfl
      have hcz16_9 : wc.cell? ⟨gb172, 9, none⟩ = some (.bool a0_9) := (blk_cell BK172.out 9).trans rfl
      have hcz16_10 : wc.cell? ⟨gb172, 10, none⟩ = some (.int .i64 a0_10) := (blk_cell BK172.out 10).trans rfl
      have hcz16_11 : wc.cell? ⟨gb172, 11, none⟩ = some (.string a0_11) := (blk_cell BK172.out 11).trans rfl
      have hcz16_12 : wc.cell? ⟨gb172, 12, none⟩ = some (.string a0_12) := (blk_cell BK172.out 12).trans rfl
      have hfz16_0 := blk_frozen BK172.out 0
      have hfz16_1 := blk_frozen BK172.out 1
      have hfz16_2 := blk_frozen BK172.out 2
      have hfz16_3 := blk_frozen BK172.out 3
      have hfz16_4 := blk_frozen BK172.out 4
      have hfz16_5 := blk_frozen BK172.out 5
      have hfz16_6 := blk_frozen BK172.out 6
      have hfz16_7 := blk_frozen BK172.out 7
      have hfz16_8 := blk_frozen BK172.out 8
      have hfz16_9 := blk_frozen BK172.out 9
      have hfz16_10 := blk_frozen BK172.out 10
      have hfz16_11 := blk_frozen BK172.out 11
      have hfz16_12 := blk_frozen BK172.out 12
      go_wp2_with (first | ((with_reducible refine gate_callee (f := 25) rfl ?_); refine goesL_ (some 13) rfl rfl Tryd.func25 (by kernel_rfl) rfl #[.int .i64 1, .string a0_1] rfl (by (try simp only [List.map_toArray, List.map_cons, List.map_nil]); first | done | rfl | (simp only [List.length_drop, List.length_take]; rfl)) ?_; (with_reducible refine (giroref23_valid.calls kj1 1 a0_1 false _ A9.out).mono ?_); rintro e w17 ⟨rfl, hb⟩; refine ⟨_, rfl, ?_⟩; have n0_ := Aside0.mk (blk_below (g := gb172) (o := .cells #[.int .i64 a0_0, .string a0_1, .string a0_2, .string a0_3, .int .i64 a0_4, .int .i64 a0_5, .int .i64 a0_6, .int .i64 a0_7, .int .i64 a0_8, .bool a0_9, .int .i64 a0_10, .string a0_11, .string a0_12] 24 (0, 0)) (by (with_reducible repeat (first | refine blk_drewN ?_ _ | refine blk_drew ?_ | refine blk_alloc ?_ _)); exact BK172.out) hb); have n1_ := Aside0.mk (below_step (by repeat (first | (with_reducible first | exact HB.out | apply below_alloc | apply pw_below_drewN | apply below_drew1 | refine below_set ?_ GE172.out) | exact HB.out)) hb); clear BK172; clear HB; have BK172 := n0_; have HB := n1_; clear n0_ n1_; (try clear hb); (try clear hb2); (try clear hk); (try clear hi)))
      go_meet
      case rel => exact ⟨_, (true), (by first | rfl | (simp; done) | (simp [*]; done)), H', ⟨by have := HJ1.out; first | omega | exact Nat.le_refl _⟩, ⟨by (with_reducible repeat (first | refine blk_drewN ?_ _ | refine blk_drew ?_ | refine blk_alloc ?_ _)); exact BK172.out⟩, ⟨by repeat (first | (with_reducible first | exact HB.out | apply below_alloc | apply pw_below_drewN | apply below_drew1 | refine below_set ?_ GE172.out) | exact HB.out)⟩⟩
    case rest =>
     clear HC8
     try clear c1
     try clear c2
     try clear p2
     try clear c4
     try clear c4b0
     try clear c4b1
     try clear c7
     try clear c9
     try clear c10
     try clear hcz12_0 hcz12_1 hcz12_10 hcz12_11 hcz12_12 hcz12_2 hcz12_3 hcz12_4 hcz12_5 hcz12_6 hcz12_7 hcz12_8 hcz12_9
     try clear hcz14_0 hcz14_1 hcz14_10 hcz14_11 hcz14_12 hcz14_2 hcz14_3 hcz14_4 hcz14_5 hcz14_6 hcz14_7 hcz14_8 hcz14_9
     try clear hcz16_0 hcz16_1 hcz16_10 hcz16_11 hcz16_12 hcz16_2 hcz16_3 hcz16_4 hcz16_5 hcz16_6 hcz16_7 hcz16_8 hcz16_9
     try clear hcz5_0 hcz5_1 hcz5_10 hcz5_11 hcz5_12 hcz5_2 hcz5_3 hcz5_4 hcz5_5 hcz5_6 hcz5_7 hcz5_8 hcz5_9
     try clear hcz6_0 hcz6_1 hcz6_10 hcz6_11 hcz6_12 hcz6_2 hcz6_3 hcz6_4 hcz6_5 hcz6_6 hcz6_7 hcz6_8 hcz6_9
     try clear hfz12_0 hfz12_1 hfz12_10 hfz12_11 hfz12_12 hfz12_2 hfz12_3 hfz12_4 hfz12_5 hfz12_6 hfz12_7 hfz12_8 hfz12_9
     try clear hfz14_0 hfz14_1 hfz14_10 hfz14_11 hfz14_12 hfz14_2 hfz14_3 hfz14_4 hfz14_5 hfz14_6 hfz14_7 hfz14_8 hfz14_9
     try clear hfz16_0 hfz16_1 hfz16_10 hfz16_11 hfz16_12 hfz16_2 hfz16_3 hfz16_4 hfz16_5 hfz16_6 hfz16_7 hfz16_8 hfz16_9
     try clear hfz5_0 hfz5_1 hfz5_10 hfz5_11 hfz5_12 hfz5_2 hfz5_3 hfz5_4 hfz5_5 hfz5_6 hfz5_7 hfz5_8 hfz5_9
     try clear hfz6_0 hfz6_1 hfz6_10 hfz6_11 hfz6_12 hfz6_2 hfz6_3 hfz6_4 hfz6_5 hfz6_6 hfz6_7 hfz6_8 hfz6_9
     try clear p2
     obtain ⟨kq, x20_7, rfl, HA, HJ7, BK172, HB⟩ := hcut
     cases kq with
     | zero => exact absurd HA.out (by simp [giroref23_Check.j1])
     | succ kj7 =>
      have H := HA.out
      clear HA
      simp only [giroref23_Check.j1] at H
      by_cases c18 : x20_7 = true
      ·subst c18
       have H1 : (some 6) = some r := by rw [if_pos rfl] at H; exact H
       clear H
       have H := H1
       clear H1
       obtain rfl := Option.some.inj H
       go_wp2
       go_ret
       exact ⟨by first | rfl | (simp [errW_none, errW_some] <;> rfl) | (simp [*, errW_none, errW_some] <;> rfl), by repeat (first | (with_reducible first | exact HB.out | apply below_alloc | apply pw_below_drewN | apply below_drew1 | refine below_set ?_ GE172.out) | exact HB.out)⟩
      ·replace c18 := Bool.eq_false_iff.mpr c18
       subst c18
       have H1 : (if a0_1.toList = a0_2.toList then (some 1) else ((giroref23_valid.f kj7 0 a0_3).bind fun t175 => (if t175 = true then (if a0_4 < 1 then (giroref23_Check.j2 kj7 true a0_0 a0_1 a0_2 a0_3 a0_4 a0_5 a0_6 a0_7 a0_8 a0_9 a0_10 a0_11 a0_12) else (if a0_4 > 1000000000000000 then (giroref23_Check.j2 kj7 true a0_0 a0_1 a0_2 a0_3 a0_4 a0_5 a0_6 a0_7 a0_8 a0_9 a0_10 a0_11 a0_12) else (if a0_0 = 1 then (if a0_5 < 1 then (giroref23_Check.j2 kj7 true a0_0 a0_1 a0_2 a0_3 a0_4 a0_5 a0_6 a0_7 a0_8 a0_9 a0_10 a0_11 a0_12) else (if a0_5 > 1000000000000000 then (giroref23_Check.j2 kj7 true a0_0 a0_1 a0_2 a0_3 a0_4 a0_5 a0_6 a0_7 a0_8 a0_9 a0_10 a0_11 a0_12) else (if a0_0 = 2 then (giroref23_Check.j2 kj7 (a0_5 != 0) a0_0 a0_1 a0_2 a0_3 a0_4 a0_5 a0_6 a0_7 a0_8 a0_9 a0_10 a0_11 a0_12) else (giroref23_Check.j2 kj7 false a0_0 a0_1 a0_2 a0_3 a0_4 a0_5 a0_6 a0_7 a0_8 a0_9 a0_10 a0_11 a0_12)))) else (if a0_0 = 2 then (giroref23_Check.j2 kj7 (a0_5 != 0) a0_0 a0_1 a0_2 a0_3 a0_4 a0_5 a0_6 a0_7 a0_8 a0_9 a0_10 a0_11 a0_12) else (giroref23_Check.j2 kj7 false a0_0 a0_1 a0_2 a0_3 a0_4 a0_5 a0_6 a0_7 a0_8 a0_9 a0_10 a0_11 a0_12))))) else (some 6)))) = some r := by rw [if_neg (show ¬ (false = true) by decide)] at H; exact H
       clear H
       have H := H1
       clear H1
       by_cases c19 : a0_1.toList = a0_2.toList
       ·rw [if_pos c19] at H
        have c19b0 : (a0_1.toList == a0_2.toList) = true := beq_iff_eq.mpr c19
        have c19b1 : (a0_1.toList != a0_2.toList) = false := bne_eq_false_iff_eq.mpr c19
        clear c19
        obtain rfl := Option.some.inj H
        have hcz20_0 : wc.cell? ⟨gb172, 0, none⟩ = some (.int .i64 a0_0) := (blk_cell BK172.out 0).trans rfl
        have hcz20_1 : wc.cell? ⟨gb172, 1, none⟩ = some (.string a0_1) := (blk_cell BK172.out 1).trans rfl
        have hcz20_2 : wc.cell? ⟨gb172, 2, none⟩ = some (.string a0_2) := (blk_cell BK172.out 2).trans rfl
        have hcz20_3 : wc.cell? ⟨gb172, 3, none⟩ = some (.string a0_3) := (blk_cell BK172.out 3).trans rfl
        have hcz20_4 : wc.cell? ⟨gb172, 4, none⟩ = some (.int .i64 a0_4) := (blk_cell BK172.out 4).trans rfl
        have hcz20_5 : wc.cell? ⟨gb172, 5, none⟩ = some (.int .i64 a0_5) := (blk_cell BK172.out 5).trans rfl
        have hcz20_6 : wc.cell? ⟨gb172, 6, none⟩ = some (.int .i64 a0_6) := (blk_cell BK172.out 6).trans rfl
        have hcz20_7 : wc.cell? ⟨gb172, 7, none⟩ = some (.int .i64 a0_7) := (blk_cell BK172.out 7).trans rfl
        have hcz20_8 : wc.cell? ⟨gb172, 8, none⟩ = some (.int .i64 a0_8) := (blk_cell BK172.out 8).trans rfl
        have hcz20_9 : wc.cell? ⟨gb172, 9, none⟩ = some (.bool a0_9) := (blk_cell BK172.out 9).trans rfl
        have hcz20_10 : wc.cell? ⟨gb172, 10, none⟩ = some (.int .i64 a0_10) := (blk_cell BK172.out 10).trans rfl
        have hcz20_11 : wc.cell? ⟨gb172, 11, none⟩ = some (.string a0_11) := (blk_cell BK172.out 11).trans rfl
        have hcz20_12 : wc.cell? ⟨gb172, 12, none⟩ = some (.string a0_12) := (blk_cell BK172.out 12).trans rfl
        have hfz20_0 := blk_frozen BK172.out 0
        have hfz20_1 := blk_frozen BK172.out 1
        have hfz20_2 := blk_frozen BK172.out 2
        have hfz20_3 := blk_frozen BK172.out 3
        have hfz20_4 := blk_frozen BK172.out 4
        have hfz20_5 := blk_frozen BK172.out 5
        have hfz20_6 := blk_frozen BK172.out 6
        have hfz20_7 := blk_frozen BK172.out 7
        have hfz20_8 := blk_frozen BK172.out 8
        have hfz20_9 := blk_frozen BK172.out 9
        have hfz20_10 := blk_frozen BK172.out 10
        have hfz20_11 := blk_frozen BK172.out 11
        have hfz20_12 := blk_frozen BK172.out 12
        go_wp2
        go_ret
        exact ⟨by first | rfl | (simp [errW_none, errW_some] <;> rfl) | (simp [*, errW_none, errW_some] <;> rfl), by repeat (first | (with_reducible first | exact HB.out | apply below_alloc | apply pw_below_drewN | apply below_drew1 | refine below_set ?_ GE172.out) | exact HB.out)⟩
       ·rw [if_neg c19] at H
        have c19b0 : (a0_1.toList == a0_2.toList) = false := beq_eq_false_iff_ne.mpr c19
        have c19b1 : (a0_1.toList != a0_2.toList) = true := bne_iff_ne.mpr c19
        replace H := Option.bind_eq_some_iff.mp H
        obtain ⟨t175, A210, H⟩ := H
        replace H : (if t175 = true then (if a0_4 < 1 then (giroref23_Check.j2 kj7 true a0_0 a0_1 a0_2 a0_3 a0_4 a0_5 a0_6 a0_7 a0_8 a0_9 a0_10 a0_11 a0_12) else (if a0_4 > 1000000000000000 then (giroref23_Check.j2 kj7 true a0_0 a0_1 a0_2 a0_3 a0_4 a0_5 a0_6 a0_7 a0_8 a0_9 a0_10 a0_11 a0_12) else (if a0_0 = 1 then (if a0_5 < 1 then (giroref23_Check.j2 kj7 true a0_0 a0_1 a0_2 a0_3 a0_4 a0_5 a0_6 a0_7 a0_8 a0_9 a0_10 a0_11 a0_12) else (if a0_5 > 1000000000000000 then (giroref23_Check.j2 kj7 true a0_0 a0_1 a0_2 a0_3 a0_4 a0_5 a0_6 a0_7 a0_8 a0_9 a0_10 a0_11 a0_12) else (if a0_0 = 2 then (giroref23_Check.j2 kj7 (a0_5 != 0) a0_0 a0_1 a0_2 a0_3 a0_4 a0_5 a0_6 a0_7 a0_8 a0_9 a0_10 a0_11 a0_12) else (giroref23_Check.j2 kj7 false a0_0 a0_1 a0_2 a0_3 a0_4 a0_5 a0_6 a0_7 a0_8 a0_9 a0_10 a0_11 a0_12)))) else (if a0_0 = 2 then (giroref23_Check.j2 kj7 (a0_5 != 0) a0_0 a0_1 a0_2 a0_3 a0_4 a0_5 a0_6 a0_7 a0_8 a0_9 a0_10 a0_11 a0_12) else (giroref23_Check.j2 kj7 false a0_0 a0_1 a0_2 a0_3 a0_4 a0_5 a0_6 a0_7 a0_8 a0_9 a0_10 a0_11 a0_12))))) else (some 6)) = some r := H
        have A21 := Aside0.mk A210
        clear A210
        by_cases c22 : t175 = true
        ·subst c22
         have H1 : (if a0_4 < 1 then (giroref23_Check.j2 kj7 true a0_0 a0_1 a0_2 a0_3 a0_4 a0_5 a0_6 a0_7 a0_8 a0_9 a0_10 a0_11 a0_12) else (if a0_4 > 1000000000000000 then (giroref23_Check.j2 kj7 true a0_0 a0_1 a0_2 a0_3 a0_4 a0_5 a0_6 a0_7 a0_8 a0_9 a0_10 a0_11 a0_12) else (if a0_0 = 1 then (if a0_5 < 1 then (giroref23_Check.j2 kj7 true a0_0 a0_1 a0_2 a0_3 a0_4 a0_5 a0_6 a0_7 a0_8 a0_9 a0_10 a0_11 a0_12) else (if a0_5 > 1000000000000000 then (giroref23_Check.j2 kj7 true a0_0 a0_1 a0_2 a0_3 a0_4 a0_5 a0_6 a0_7 a0_8 a0_9 a0_10 a0_11 a0_12) else (if a0_0 = 2 then (giroref23_Check.j2 kj7 (a0_5 != 0) a0_0 a0_1 a0_2 a0_3 a0_4 a0_5 a0_6 a0_7 a0_8 a0_9 a0_10 a0_11 a0_12) else (giroref23_Check.j2 kj7 false a0_0 a0_1 a0_2 a0_3 a0_4 a0_5 a0_6 a0_7 a0_8 a0_9 a0_10 a0_11 a0_12)))) else (if a0_0 = 2 then (giroref23_Check.j2 kj7 (a0_5 != 0) a0_0 a0_1 a0_2 a0_3 a0_4 a0_5 a0_6 a0_7 a0_8 a0_9 a0_10 a0_11 a0_12) else (giroref23_Check.j2 kj7 false a0_0 a0_1 a0_2 a0_3 a0_4 a0_5 a0_6 a0_7 a0_8 a0_9 a0_10 a0_11 a0_12))))) = some r := by rw [if_pos rfl] at H; exact H
         clear H
         have H := H1
         clear H1
         have HC23 := Aside0.mk H
         clear H
         have hcz24_0 : wc.cell? ⟨gb172, 0, none⟩ = some (.int .i64 a0_0) := (blk_cell BK172.out 0).trans rfl
         have hcz24_1 : wc.cell? ⟨gb172, 1, none⟩ = some (.string a0_1) := (blk_cell BK172.out 1).trans rfl
         have hcz24_2 : wc.cell? ⟨gb172, 2, none⟩ = some (.string a0_2) := (blk_cell BK172.out 2).trans rfl
         have hcz24_3 : wc.cell? ⟨gb172, 3, none⟩ = some (.string a0_3) := (blk_cell BK172.out 3).trans rfl
         have hcz24_4 : wc.cell? ⟨gb172, 4, none⟩ = some (.int .i64 a0_4) := (blk_cell BK172.out 4).trans rfl
         have hcz24_5 : wc.cell? ⟨gb172, 5, none⟩ = some (.int .i64 a0_5) := (blk_cell BK172.out 5).trans rfl
         have hcz24_6 : wc.cell? ⟨gb172, 6, none⟩ = some (.int .i64 a0_6) := (blk_cell BK172.out 6).trans rfl
         have hcz24_7 : wc.cell? ⟨gb172, 7, none⟩ = some (.int .i64 a0_7) := (blk_cell BK172.out 7).trans rfl
         have hcz24_8 : wc.cell? ⟨gb172, 8, none⟩ = some (.int .i64 a0_8) := (blk_cell BK172.out 8).trans rfl
         have hcz24_9 : wc.cell? ⟨gb172, 9, none⟩ = some (.bool a0_9) := (blk_cell BK172.out 9).trans rfl
         have hcz24_10 : wc.cell? ⟨gb172, 10, none⟩ = some (.int .i64 a0_10) := (blk_cell BK172.out 10).trans rfl
         have hcz24_11 : wc.cell? ⟨gb172, 11, none⟩ = some (.string a0_11) := (blk_cell BK172.out 11).trans rfl
         have hcz24_12 : wc.cell? ⟨gb172, 12, none⟩ = some (.string a0_12) := (blk_cell BK172.out 12).trans rfl
         have hfz24_0 := blk_frozen BK172.out 0
         have hfz24_1 := blk_frozen BK172.out 1
         have hfz24_2 := blk_frozen BK172.out 2
         have hfz24_3 := blk_frozen BK172.out 3
         have hfz24_4 := blk_frozen BK172.out 4
         have hfz24_5 := blk_frozen BK172.out 5
         have hfz24_6 := blk_frozen BK172.out 6
         have hfz24_7 := blk_frozen BK172.out 7
         have hfz24_8 := blk_frozen BK172.out 8
         have hfz24_9 := blk_frozen BK172.out 9
         have hfz24_10 := blk_frozen BK172.out 10
         have hfz24_11 := blk_frozen BK172.out 11
         have hfz24_12 := blk_frozen BK172.out 12
         go_upto_region 9 with (first | ((with_reducible refine gate_callee (f := 25) rfl ?_); refine goesL_ (some 28) rfl rfl Tryd.func25 (by kernel_rfl) rfl #[.int .i64 0, .string a0_3] rfl (by (try simp only [List.map_toArray, List.map_cons, List.map_nil]); first | done | rfl | (simp only [List.length_drop, List.length_take]; rfl)) ?_; (with_reducible refine (giroref23_valid.calls kj7 0 a0_3 true _ A21.out).mono ?_); rintro e w25 ⟨rfl, hb⟩; refine ⟨_, rfl, ?_⟩; have n0_ := Aside0.mk (blk_below (g := gb172) (o := .cells #[.int .i64 a0_0, .string a0_1, .string a0_2, .string a0_3, .int .i64 a0_4, .int .i64 a0_5, .int .i64 a0_6, .int .i64 a0_7, .int .i64 a0_8, .bool a0_9, .int .i64 a0_10, .string a0_11, .string a0_12] 24 (0, 0)) (by (with_reducible repeat (first | refine blk_drewN ?_ _ | refine blk_drew ?_ | refine blk_alloc ?_ _)); exact BK172.out) hb); have n1_ := Aside0.mk (below_step (by repeat (first | (with_reducible first | exact HB.out | apply below_alloc | apply pw_below_drewN | apply below_drew1 | refine below_set ?_ GE172.out) | exact HB.out)) hb); clear BK172; clear HB; have BK172 := n0_; have HB := n1_; clear n0_ n1_; (try clear hb); (try clear hb2); (try clear hk); (try clear hi)))
         (try simp only [Act.put, List.setIfInBounds_toArray, List.set_cons_zero, List.set_cons_succ])
         go_cut [62] (fun v62 wc => ∃ (kq : Nat) (x62_22 : Bool), v62 = .bool x62_22 ∧ Aside0 (giroref23_Check.j2 kq x62_22 a0_0 a0_1 a0_2 a0_3 a0_4 a0_5 a0_6 a0_7 a0_8 a0_9 a0_10 a0_11 a0_12 = some r) ∧ Aside0 (kq ≤ kj7) ∧ Aside0 (wc.heap[gb172]? = some (.cells #[.int .i64 a0_0, .string a0_1, .string a0_2, .string a0_3, .int .i64 a0_4, .int .i64 a0_5, .int .i64 a0_6, .int .i64 a0_7, .int .i64 a0_8, .bool a0_9, .int .i64 a0_10, .string a0_11, .string a0_12] 24 (0, 0))) ∧ Aside0 (Below w.heap.size w wc))
         case first =>
          have H := HC23.out
          clear HC23
          by_cases c26 : a0_4 < 1
          ·rw [if_pos c26] at H
           have c26b0 : decide (a0_4 < 1) = true := decide_eq_true c26
           clear c26
           (first | rw [c26b0] | (simp only [i64_w, i32_w]; rw [c26b0]) | skip)
           have H' := Aside0.mk H
           clear H
           have hcz27_0 : w25.cell? ⟨gb172, 0, none⟩ = some (.int .i64 a0_0) := (blk_cell BK172.out 0).trans rfl
           have hcz27_1 : w25.cell? ⟨gb172, 1, none⟩ = some (.string a0_1) := (blk_cell BK172.out 1).trans rfl
           have hcz27_2 : w25.cell? ⟨gb172, 2, none⟩ = some (.string a0_2) := (blk_cell BK172.out 2).trans rfl
           have hcz27_3 : w25.cell? ⟨gb172, 3, none⟩ = some (.string a0_3) := (blk_cell BK172.out 3).trans rfl
           have hcz27_4 : w25.cell? ⟨gb172, 4, none⟩ = some (.int .i64 a0_4) := (blk_cell BK172.out 4).trans rfl
           have hcz27_5 : w25.cell? ⟨gb172, 5, none⟩ = some (.int .i64 a0_5) := (blk_cell BK172.out 5).trans rfl
           have hcz27_6 : w25.cell? ⟨gb172, 6, none⟩ = some (.int .i64 a0_6) := (blk_cell BK172.out 6).trans rfl
           have hcz27_7 : w25.cell? ⟨gb172, 7, none⟩ = some (.int .i64 a0_7) := (blk_cell BK172.out 7).trans rfl
           have hcz27_8 : w25.cell? ⟨gb172, 8, none⟩ = some (.int .i64 a0_8) := (blk_cell BK172.out 8).trans rfl
           have hcz27_9 : w25.cell? ⟨gb172, 9, none⟩ = some (.bool a0_9) := (blk_cell BK172.out 9).trans rfl
           have hcz27_10 : w25.cell? ⟨gb172, 10, none⟩ = some (.int .i64 a0_10) := (blk_cell BK172.out 10).trans rfl
           have hcz27_11 : w25.cell? ⟨gb172, 11, none⟩ = some (.string a0_11) := (blk_cell BK172.out 11).trans rfl
           have hcz27_12 : w25.cell? ⟨gb172, 12, none⟩ = some (.string a0_12) := (blk_cell BK172.out 12).trans rfl
           have hfz27_0 := blk_frozen BK172.out 0
           have hfz27_1 := blk_frozen BK172.out 1
           have hfz27_2 := blk_frozen BK172.out 2
           have hfz27_3 := blk_frozen BK172.out 3
           have hfz27_4 := blk_frozen BK172.out 4
           have hfz27_5 := blk_frozen BK172.out 5
           have hfz27_6 := blk_frozen BK172.out 6
           have hfz27_7 := blk_frozen BK172.out 7
           have hfz27_8 := blk_frozen BK172.out 8
           have hfz27_9 := blk_frozen BK172.out 9
           have hfz27_10 := blk_frozen BK172.out 10
           have hfz27_11 := blk_frozen BK172.out 11
           have hfz27_12 := blk_frozen BK172.out 12
           go_wp2
           go_meet
           case rel => exact ⟨_, (true), (by first | rfl | (simp; done) | (simp [*]; done)), H', ⟨by have := HJ1.out; have := HJ7.out; first | omega | exact Nat.le_refl _⟩, ⟨by (with_reducible repeat (first | refine blk_drewN ?_ _ | refine blk_drew ?_ | refine blk_alloc ?_ _)); exact BK172.out⟩, ⟨by repeat (first | (with_reducible first | exact HB.out | apply below_alloc | apply pw_below_drewN | apply below_drew1 | refine below_set ?_ GE172.out) | exact HB.out)⟩⟩
          ·rw [if_neg c26] at H
           have c26b0 : decide (a0_4 < 1) = false := decide_eq_false c26
           clear c26
           (first | rw [c26b0] | (simp only [i64_w, i32_w]; rw [c26b0]) | skip)
           by_cases c28 : a0_4 > 1000000000000000
           ·rw [if_pos c28] at H
            have c28b0 : decide (1000000000000000 < a0_4) = true := decide_eq_true c28
            clear c28
            have H' := Aside0.mk H
            clear H
            have hcz29_0 : w25.cell? ⟨gb172, 0, none⟩ = some (.int .i64 a0_0) := (blk_cell BK172.out 0).trans rfl
            have hcz29_1 : w25.cell? ⟨gb172, 1, none⟩ = some (.string a0_1) := (blk_cell BK172.out 1).trans rfl
            have hcz29_2 : w25.cell? ⟨gb172, 2, none⟩ = some (.string a0_2) := (blk_cell BK172.out 2).trans rfl
            have hcz29_3 : w25.cell? ⟨gb172, 3, none⟩ = some (.string a0_3) := (blk_cell BK172.out 3).trans rfl
            have hcz29_4 : w25.cell? ⟨gb172, 4, none⟩ = some (.int .i64 a0_4) := (blk_cell BK172.out 4).trans rfl
            have hcz29_5 : w25.cell? ⟨gb172, 5, none⟩ = some (.int .i64 a0_5) := (blk_cell BK172.out 5).trans rfl
            have hcz29_6 : w25.cell? ⟨gb172, 6, none⟩ = some (.int .i64 a0_6) := (blk_cell BK172.out 6).trans rfl
            have hcz29_7 : w25.cell? ⟨gb172, 7, none⟩ = some (.int .i64 a0_7) := (blk_cell BK172.out 7).trans rfl
            have hcz29_8 : w25.cell? ⟨gb172, 8, none⟩ = some (.int .i64 a0_8) := (blk_cell BK172.out 8).trans rfl
            have hcz29_9 : w25.cell? ⟨gb172, 9, none⟩ = some (.bool a0_9) := (blk_cell BK172.out 9).trans rfl
            have hcz29_10 : w25.cell? ⟨gb172, 10, none⟩ = some (.int .i64 a0_10) := (blk_cell BK172.out 10).trans rfl
            have hcz29_11 : w25.cell? ⟨gb172, 11, none⟩ = some (.string a0_11) := (blk_cell BK172.out 11).trans rfl
            have hcz29_12 : w25.cell? ⟨gb172, 12, none⟩ = some (.string a0_12) := (blk_cell BK172.out 12).trans rfl
            have hfz29_0 := blk_frozen BK172.out 0
            have hfz29_1 := blk_frozen BK172.out 1
            have hfz29_2 := blk_frozen BK172.out 2
            have hfz29_3 := blk_frozen BK172.out 3
            have hfz29_4 := blk_frozen BK172.out 4
            have hfz29_5 := blk_frozen BK172.out 5
            have hfz29_6 := blk_frozen BK172.out 6
            have hfz29_7 := blk_frozen BK172.out 7
            have hfz29_8 := blk_frozen BK172.out 8
            have hfz29_9 := blk_frozen BK172.out 9
            have hfz29_10 := blk_frozen BK172.out 10
            have hfz29_11 := blk_frozen BK172.out 11
            have hfz29_12 := blk_frozen BK172.out 12
            go_wp2
            go_meet
            case rel => exact ⟨_, (true), (by first | rfl | (simp; done) | (simp [*]; done)), H', ⟨by have := HJ1.out; have := HJ7.out; first | omega | exact Nat.le_refl _⟩, ⟨by (with_reducible repeat (first | refine blk_drewN ?_ _ | refine blk_drew ?_ | refine blk_alloc ?_ _)); exact BK172.out⟩, ⟨by repeat (first | (with_reducible first | exact HB.out | apply below_alloc | apply pw_below_drewN | apply below_drew1 | refine below_set ?_ GE172.out) | exact HB.out)⟩⟩
           ·rw [if_neg c28] at H
            have c28b0 : decide (1000000000000000 < a0_4) = false := decide_eq_false c28
            clear c28
            by_cases c30 : a0_0 = 1
            ·rw [if_pos c30] at H
             have c30b0 : (a0_0 == 1) = true := beq_iff_eq.mpr c30
             have c30b1 : (a0_0 != 1) = false := bne_eq_false_iff_eq.mpr c30
             clear c30
             by_cases c31 : a0_5 < 1
             ·rw [if_pos c31] at H
              have c31b0 : decide (a0_5 < 1) = true := decide_eq_true c31
              clear c31
              have H' := Aside0.mk H
              clear H
              have hcz32_0 : w25.cell? ⟨gb172, 0, none⟩ = some (.int .i64 a0_0) := (blk_cell BK172.out 0).trans rfl
              have hcz32_1 : w25.cell? ⟨gb172, 1, none⟩ = some (.string a0_1) := (blk_cell BK172.out 1).trans rfl
              have hcz32_2 : w25.cell? ⟨gb172, 2, none⟩ = some (.string a0_2) := (blk_cell BK172.out 2).trans rfl
              have hcz32_3 : w25.cell? ⟨gb172, 3, none⟩ = some (.string a0_3) := (blk_cell BK172.out 3).trans rfl
              have hcz32_4 : w25.cell? ⟨gb172, 4, none⟩ = some (.int .i64 a0_4) := (blk_cell BK172.out 4).trans rfl
              have hcz32_5 : w25.cell? ⟨gb172, 5, none⟩ = some (.int .i64 a0_5) := (blk_cell BK172.out 5).trans rfl
              have hcz32_6 : w25.cell? ⟨gb172, 6, none⟩ = some (.int .i64 a0_6) := (blk_cell BK172.out 6).trans rfl
              have hcz32_7 : w25.cell? ⟨gb172, 7, none⟩ = some (.int .i64 a0_7) := (blk_cell BK172.out 7).trans rfl
              have hcz32_8 : w25.cell? ⟨gb172, 8, none⟩ = some (.int .i64 a0_8) := (blk_cell BK172.out 8).trans rfl
              have hcz32_9 : w25.cell? ⟨gb172, 9, none⟩ = some (.bool a0_9) := (blk_cell BK172.out 9).trans rfl
              have hcz32_10 : w25.cell? ⟨gb172, 10, none⟩ = some (.int .i64 a0_10) := (blk_cell BK172.out 10).trans rfl
              have hcz32_11 : w25.cell? ⟨gb172, 11, none⟩ = some (.string a0_11) := (blk_cell BK172.out 11).trans rfl
              have hcz32_12 : w25.cell? ⟨gb172, 12, none⟩ = some (.string a0_12) := (blk_cell BK172.out 12).trans rfl
              have hfz32_0 := blk_frozen BK172.out 0
              have hfz32_1 := blk_frozen BK172.out 1
              have hfz32_2 := blk_frozen BK172.out 2
              have hfz32_3 := blk_frozen BK172.out 3
              have hfz32_4 := blk_frozen BK172.out 4
              have hfz32_5 := blk_frozen BK172.out 5
              have hfz32_6 := blk_frozen BK172.out 6
              have hfz32_7 := blk_frozen BK172.out 7
              have hfz32_8 := blk_frozen BK172.out 8
              have hfz32_9 := blk_frozen BK172.out 9
              have hfz32_10 := blk_frozen BK172.out 10
              have hfz32_11 := blk_frozen BK172.out 11
              have hfz32_12 := blk_frozen BK172.out 12
              go_wp2
              go_meet
              case rel => exact ⟨_, (true), (by first | rfl | (simp; done) | (simp [*]; done)), H', ⟨by have := HJ1.out; have := HJ7.out; first | omega | exact Nat.le_refl _⟩, ⟨by (with_reducible repeat (first | refine blk_drewN ?_ _ | refine blk_drew ?_ | refine blk_alloc ?_ _)); exact BK172.out⟩, ⟨by repeat (first | (with_reducible first | exact HB.out | apply below_alloc | apply pw_below_drewN | apply below_drew1 | refine below_set ?_ GE172.out) | exact HB.out)⟩⟩
             ·rw [if_neg c31] at H
              have c31b0 : decide (a0_5 < 1) = false := decide_eq_false c31
              clear c31
              by_cases c33 : a0_5 > 1000000000000000
              ·rw [if_pos c33] at H
               have c33b0 : decide (1000000000000000 < a0_5) = true := decide_eq_true c33
               clear c33
               have H' := Aside0.mk H
               clear H
               have hcz34_0 : w25.cell? ⟨gb172, 0, none⟩ = some (.int .i64 a0_0) := (blk_cell BK172.out 0).trans rfl
               have hcz34_1 : w25.cell? ⟨gb172, 1, none⟩ = some (.string a0_1) := (blk_cell BK172.out 1).trans rfl
               have hcz34_2 : w25.cell? ⟨gb172, 2, none⟩ = some (.string a0_2) := (blk_cell BK172.out 2).trans rfl
               have hcz34_3 : w25.cell? ⟨gb172, 3, none⟩ = some (.string a0_3) := (blk_cell BK172.out 3).trans rfl
               have hcz34_4 : w25.cell? ⟨gb172, 4, none⟩ = some (.int .i64 a0_4) := (blk_cell BK172.out 4).trans rfl
               have hcz34_5 : w25.cell? ⟨gb172, 5, none⟩ = some (.int .i64 a0_5) := (blk_cell BK172.out 5).trans rfl
               have hcz34_6 : w25.cell? ⟨gb172, 6, none⟩ = some (.int .i64 a0_6) := (blk_cell BK172.out 6).trans rfl
               have hcz34_7 : w25.cell? ⟨gb172, 7, none⟩ = some (.int .i64 a0_7) := (blk_cell BK172.out 7).trans rfl
               have hcz34_8 : w25.cell? ⟨gb172, 8, none⟩ = some (.int .i64 a0_8) := (blk_cell BK172.out 8).trans rfl
               have hcz34_9 : w25.cell? ⟨gb172, 9, none⟩ = some (.bool a0_9) := (blk_cell BK172.out 9).trans rfl
               have hcz34_10 : w25.cell? ⟨gb172, 10, none⟩ = some (.int .i64 a0_10) := (blk_cell BK172.out 10).trans rfl
               have hcz34_11 : w25.cell? ⟨gb172, 11, none⟩ = some (.string a0_11) := (blk_cell BK172.out 11).trans rfl
               have hcz34_12 : w25.cell? ⟨gb172, 12, none⟩ = some (.string a0_12) := (blk_cell BK172.out 12).trans rfl
               have hfz34_0 := blk_frozen BK172.out 0
               have hfz34_1 := blk_frozen BK172.out 1
               have hfz34_2 := blk_frozen BK172.out 2
               have hfz34_3 := blk_frozen BK172.out 3
               have hfz34_4 := blk_frozen BK172.out 4
               have hfz34_5 := blk_frozen BK172.out 5
               have hfz34_6 := blk_frozen BK172.out 6
               have hfz34_7 := blk_frozen BK172.out 7
               have hfz34_8 := blk_frozen BK172.out 8
               have hfz34_9 := blk_frozen BK172.out 9
               have hfz34_10 := blk_frozen BK172.out 10
               have hfz34_11 := blk_frozen BK172.out 11
               have hfz34_12 := blk_frozen BK172.out 12
               go_wp2
               go_meet
               case rel => exact ⟨_, (true), (by first | rfl | (simp; done) | (simp [*]; done)), H', ⟨by have := HJ1.out; have := HJ7.out; first | omega | exact Nat.le_refl _⟩, ⟨by (with_reducible repeat (first | refine blk_drewN ?_ _ | refine blk_drew ?_ | refine blk_alloc ?_ _)); exact BK172.out⟩, ⟨by repeat (first | (with_reducible first | exact HB.out | apply below_alloc | apply pw_below_drewN | apply below_drew1 | refine below_set ?_ GE172.out) | exact HB.out)⟩⟩
              ·rw [if_neg c33] at H
               have c33b0 : decide (1000000000000000 < a0_5) = false := decide_eq_false c33
               clear c33
               by_cases c35 : a0_0 = 2
               ·rw [if_pos c35] at H
                have c35b0 : (a0_0 == 2) = true := beq_iff_eq.mpr c35
                have c35b1 : (a0_0 != 2) = false := bne_eq_false_iff_eq.mpr c35
                clear c35
                have H' := Aside0.mk H
                clear H
                have hcz36_0 : w25.cell? ⟨gb172, 0, none⟩ = some (.int .i64 a0_0) := (blk_cell BK172.out 0).trans rfl
                have hcz36_1 : w25.cell? ⟨gb172, 1, none⟩ = some (.string a0_1) := (blk_cell BK172.out 1).trans rfl
                have hcz36_2 : w25.cell? ⟨gb172, 2, none⟩ = some (.string a0_2) := (blk_cell BK172.out 2).trans rfl
                have hcz36_3 : w25.cell? ⟨gb172, 3, none⟩ = some (.string a0_3) := (blk_cell BK172.out 3).trans rfl
                have hcz36_4 : w25.cell? ⟨gb172, 4, none⟩ = some (.int .i64 a0_4) := (blk_cell BK172.out 4).trans rfl
                have hcz36_5 : w25.cell? ⟨gb172, 5, none⟩ = some (.int .i64 a0_5) := (blk_cell BK172.out 5).trans rfl
                have hcz36_6 : w25.cell? ⟨gb172, 6, none⟩ = some (.int .i64 a0_6) := (blk_cell BK172.out 6).trans rfl
                have hcz36_7 : w25.cell? ⟨gb172, 7, none⟩ = some (.int .i64 a0_7) := (blk_cell BK172.out 7).trans rfl
                have hcz36_8 : w25.cell? ⟨gb172, 8, none⟩ = some (.int .i64 a0_8) := (blk_cell BK172.out 8).trans rfl
                have hcz36_9 : w25.cell? ⟨gb172, 9, none⟩ = some (.bool a0_9) := (blk_cell BK172.out 9).trans rfl
                have hcz36_10 : w25.cell? ⟨gb172, 10, none⟩ = some (.int .i64 a0_10) := (blk_cell BK172.out 10).trans rfl
                have hcz36_11 : w25.cell? ⟨gb172, 11, none⟩ = some (.string a0_11) := (blk_cell BK172.out 11).trans rfl
                have hcz36_12 : w25.cell? ⟨gb172, 12, none⟩ = some (.string a0_12) := (blk_cell BK172.out 12).trans rfl
                have hfz36_0 := blk_frozen BK172.out 0
                have hfz36_1 := blk_frozen BK172.out 1
                have hfz36_2 := blk_frozen BK172.out 2
                have hfz36_3 := blk_frozen BK172.out 3
                have hfz36_4 := blk_frozen BK172.out 4
                have hfz36_5 := blk_frozen BK172.out 5
                have hfz36_6 := blk_frozen BK172.out 6
                have hfz36_7 := blk_frozen BK172.out 7
                have hfz36_8 := blk_frozen BK172.out 8
                have hfz36_9 := blk_frozen BK172.out 9
                have hfz36_10 := blk_frozen BK172.out 10
                have hfz36_11 := blk_frozen BK172.out 11
                have hfz36_12 := blk_frozen BK172.out 12
                go_wp2
                go_meet
                case rel => exact ⟨_, ((a0_5 != 0)), (by first | rfl | (simp; done) | (simp [*]; done)), H', ⟨by have := HJ1.out; have := HJ7.out; first | omega | exact Nat.le_refl _⟩, ⟨by (with_reducible repeat (first | refine blk_drewN ?_ _ | refine blk_drew ?_ | refine blk_alloc ?_ _)); exact BK172.out⟩, ⟨by repeat (first | (with_reducible first | exact HB.out | apply below_alloc | apply pw_below_drewN | apply below_drew1 | refine below_set ?_ GE172.out) | exact HB.out)⟩⟩
               ·rw [if_neg c35] at H
                have c35b0 : (a0_0 == 2) = false := beq_eq_false_iff_ne.mpr c35
                have c35b1 : (a0_0 != 2) = true := bne_iff_ne.mpr c35
                have H' := Aside0.mk H
                clear H
                have hcz37_0 : w25.cell? ⟨gb172, 0, none⟩ = some (.int .i64 a0_0) := (blk_cell BK172.out 0).trans rfl
                have hcz37_1 : w25.cell? ⟨gb172, 1, none⟩ = some (.string a0_1) := (blk_cell BK172.out 1).trans rfl
                have hcz37_2 : w25.cell? ⟨gb172, 2, none⟩ = some (.string a0_2) := (blk_cell BK172.out 2).trans rfl
                have hcz37_3 : w25.cell? ⟨gb172, 3, none⟩ = some (.string a0_3) := (blk_cell BK172.out 3).trans rfl
                have hcz37_4 : w25.cell? ⟨gb172, 4, none⟩ = some (.int .i64 a0_4) := (blk_cell BK172.out 4).trans rfl
                have hcz37_5 : w25.cell? ⟨gb172, 5, none⟩ = some (.int .i64 a0_5) := (blk_cell BK172.out 5).trans rfl
                have hcz37_6 : w25.cell? ⟨gb172, 6, none⟩ = some (.int .i64 a0_6) := (blk_cell BK172.out 6).trans rfl
                have hcz37_7 : w25.cell? ⟨gb172, 7, none⟩ = some (.int .i64 a0_7) := (blk_cell BK172.out 7).trans rfl
                have hcz37_8 : w25.cell? ⟨gb172, 8, none⟩ = some (.int .i64 a0_8) := (blk_cell BK172.out 8).trans rfl
                have hcz37_9 : w25.cell? ⟨gb172, 9, none⟩ = some (.bool a0_9) := (blk_cell BK172.out 9).trans rfl
                have hcz37_10 : w25.cell? ⟨gb172, 10, none⟩ = some (.int .i64 a0_10) := (blk_cell BK172.out 10).trans rfl
                have hcz37_11 : w25.cell? ⟨gb172, 11, none⟩ = some (.string a0_11) := (blk_cell BK172.out 11).trans rfl
                have hcz37_12 : w25.cell? ⟨gb172, 12, none⟩ = some (.string a0_12) := (blk_cell BK172.out 12).trans rfl
                have hfz37_0 := blk_frozen BK172.out 0
                have hfz37_1 := blk_frozen BK172.out 1
                have hfz37_2 := blk_frozen BK172.out 2
                have hfz37_3 := blk_frozen BK172.out 3
                have hfz37_4 := blk_frozen BK172.out 4
                have hfz37_5 := blk_frozen BK172.out 5
                have hfz37_6 := blk_frozen BK172.out 6
                have hfz37_7 := blk_frozen BK172.out 7
                have hfz37_8 := blk_frozen BK172.out 8
                have hfz37_9 := blk_frozen BK172.out 9
                have hfz37_10 := blk_frozen BK172.out 10
                have hfz37_11 := blk_frozen BK172.out 11
                have hfz37_12 := blk_frozen BK172.out 12
                go_wp2
                go_meet
                case rel => exact ⟨_, (false), (by first | rfl | (simp; done) | (simp [*]; done)), H', ⟨by have := HJ1.out; have := HJ7.out; first | omega | exact Nat.le_refl _⟩, ⟨by (with_reducible repeat (first | refine blk_drewN ?_ _ | refine blk_drew ?_ | refine blk_alloc ?_ _)); exact BK172.out⟩, ⟨by repeat (first | (with_reducible first | exact HB.out | apply below_alloc | apply pw_below_drewN | apply below_drew1 | refine below_set ?_ GE172.out) | exact HB.out)⟩⟩
            ·rw [if_neg c30] at H
             have c30b0 : (a0_0 == 1) = false := beq_eq_false_iff_ne.mpr c30
             have c30b1 : (a0_0 != 1) = true := bne_iff_ne.mpr c30
             by_cases c38 : a0_0 = 2
             ·rw [if_pos c38] at H
              have c38b0 : (a0_0 == 2) = true := beq_iff_eq.mpr c38
              have c38b1 : (a0_0 != 2) = false := bne_eq_false_iff_eq.mpr c38
              clear c38
              have H' := Aside0.mk H
              clear H
              have hcz39_0 : w25.cell? ⟨gb172, 0, none⟩ = some (.int .i64 a0_0) := (blk_cell BK172.out 0).trans rfl
              have hcz39_1 : w25.cell? ⟨gb172, 1, none⟩ = some (.string a0_1) := (blk_cell BK172.out 1).trans rfl
              have hcz39_2 : w25.cell? ⟨gb172, 2, none⟩ = some (.string a0_2) := (blk_cell BK172.out 2).trans rfl
              have hcz39_3 : w25.cell? ⟨gb172, 3, none⟩ = some (.string a0_3) := (blk_cell BK172.out 3).trans rfl
              have hcz39_4 : w25.cell? ⟨gb172, 4, none⟩ = some (.int .i64 a0_4) := (blk_cell BK172.out 4).trans rfl
              have hcz39_5 : w25.cell? ⟨gb172, 5, none⟩ = some (.int .i64 a0_5) := (blk_cell BK172.out 5).trans rfl
              have hcz39_6 : w25.cell? ⟨gb172, 6, none⟩ = some (.int .i64 a0_6) := (blk_cell BK172.out 6).trans rfl
              have hcz39_7 : w25.cell? ⟨gb172, 7, none⟩ = some (.int .i64 a0_7) := (blk_cell BK172.out 7).trans rfl
              have hcz39_8 : w25.cell? ⟨gb172, 8, none⟩ = some (.int .i64 a0_8) := (blk_cell BK172.out 8).trans rfl
              have hcz39_9 : w25.cell? ⟨gb172, 9, none⟩ = some (.bool a0_9) := (blk_cell BK172.out 9).trans rfl
              have hcz39_10 : w25.cell? ⟨gb172, 10, none⟩ = some (.int .i64 a0_10) := (blk_cell BK172.out 10).trans rfl
              have hcz39_11 : w25.cell? ⟨gb172, 11, none⟩ = some (.string a0_11) := (blk_cell BK172.out 11).trans rfl
              have hcz39_12 : w25.cell? ⟨gb172, 12, none⟩ = some (.string a0_12) := (blk_cell BK172.out 12).trans rfl
              have hfz39_0 := blk_frozen BK172.out 0
              have hfz39_1 := blk_frozen BK172.out 1
              have hfz39_2 := blk_frozen BK172.out 2
              have hfz39_3 := blk_frozen BK172.out 3
              have hfz39_4 := blk_frozen BK172.out 4
              have hfz39_5 := blk_frozen BK172.out 5
              have hfz39_6 := blk_frozen BK172.out 6
              have hfz39_7 := blk_frozen BK172.out 7
              have hfz39_8 := blk_frozen BK172.out 8
              have hfz39_9 := blk_frozen BK172.out 9
              have hfz39_10 := blk_frozen BK172.out 10
              have hfz39_11 := blk_frozen BK172.out 11
              have hfz39_12 := blk_frozen BK172.out 12
              go_wp2
              go_meet
              case rel => exact ⟨_, ((a0_5 != 0)), (by first | rfl | (simp; done) | (simp [*]; done)), H', ⟨by have := HJ1.out; have := HJ7.out; first | omega | exact Nat.le_refl _⟩, ⟨by (with_reducible repeat (first | refine blk_drewN ?_ _ | refine blk_drew ?_ | refine blk_alloc ?_ _)); exact BK172.out⟩, ⟨by repeat (first | (with_reducible first | exact HB.out | apply below_alloc | apply pw_below_drewN | apply below_drew1 | refine below_set ?_ GE172.out) | exact HB.out)⟩⟩
             ·rw [if_neg c38] at H
              have c38b0 : (a0_0 == 2) = false := beq_eq_false_iff_ne.mpr c38
              have c38b1 : (a0_0 != 2) = true := bne_iff_ne.mpr c38
              have H' := Aside0.mk H
              clear H
              have hcz40_0 : w25.cell? ⟨gb172, 0, none⟩ = some (.int .i64 a0_0) := (blk_cell BK172.out 0).trans rfl
              have hcz40_1 : w25.cell? ⟨gb172, 1, none⟩ = some (.string a0_1) := (blk_cell BK172.out 1).trans rfl
              have hcz40_2 : w25.cell? ⟨gb172, 2, none⟩ = some (.string a0_2) := (blk_cell BK172.out 2).trans rfl
              have hcz40_3 : w25.cell? ⟨gb172, 3, none⟩ = some (.string a0_3) := (blk_cell BK172.out 3).trans rfl
              have hcz40_4 : w25.cell? ⟨gb172, 4, none⟩ = some (.int .i64 a0_4) := (blk_cell BK172.out 4).trans rfl
              have hcz40_5 : w25.cell? ⟨gb172, 5, none⟩ = some (.int .i64 a0_5) := (blk_cell BK172.out 5).trans rfl
              have hcz40_6 : w25.cell? ⟨gb172, 6, none⟩ = some (.int .i64 a0_6) := (blk_cell BK172.out 6).trans rfl
              have hcz40_7 : w25.cell? ⟨gb172, 7, none⟩ = some (.int .i64 a0_7) := (blk_cell BK172.out 7).trans rfl
              have hcz40_8 : w25.cell? ⟨gb172, 8, none⟩ = some (.int .i64 a0_8) := (blk_cell BK172.out 8).trans rfl
              have hcz40_9 : w25.cell? ⟨gb172, 9, none⟩ = some (.bool a0_9) := (blk_cell BK172.out 9).trans rfl
              have hcz40_10 : w25.cell? ⟨gb172, 10, none⟩ = some (.int .i64 a0_10) := (blk_cell BK172.out 10).trans rfl
              have hcz40_11 : w25.cell? ⟨gb172, 11, none⟩ = some (.string a0_11) := (blk_cell BK172.out 11).trans rfl
              have hcz40_12 : w25.cell? ⟨gb172, 12, none⟩ = some (.string a0_12) := (blk_cell BK172.out 12).trans rfl
              have hfz40_0 := blk_frozen BK172.out 0
              have hfz40_1 := blk_frozen BK172.out 1
              have hfz40_2 := blk_frozen BK172.out 2
              have hfz40_3 := blk_frozen BK172.out 3
              have hfz40_4 := blk_frozen BK172.out 4
              have hfz40_5 := blk_frozen BK172.out 5
              have hfz40_6 := blk_frozen BK172.out 6
              have hfz40_7 := blk_frozen BK172.out 7
              have hfz40_8 := blk_frozen BK172.out 8
              have hfz40_9 := blk_frozen BK172.out 9
              have hfz40_10 := blk_frozen BK172.out 10
              have hfz40_11 := blk_frozen BK172.out 11
              have hfz40_12 := blk_frozen BK172.out 12
              go_wp2
              go_meet
              case rel => exact ⟨_, (false), (by first | rfl | (simp; done) | (simp [*]; done)), H', ⟨by have := HJ1.out; have := HJ7.out; first | omega | exact Nat.le_refl _⟩, ⟨by (with_reducible repeat (first | refine blk_drewN ?_ _ | refine blk_drew ?_ | refine blk_alloc ?_ _)); exact BK172.out⟩, ⟨by repeat (first | (with_reducible first | exact HB.out | apply below_alloc | apply pw_below_drewN | apply below_drew1 | refine below_set ?_ GE172.out) | exact HB.out)⟩⟩
         case rest =>
          clear HC23
          try clear c1
          try clear c2
          try clear p2
          try clear c3
          try clear c4
          try clear c4b0
          try clear c4b1
          try clear c7
          try clear c9
          try clear c10
          try clear c18
          try clear c19
          try clear c19b0
          try clear c19b1
          try clear c22
          try clear c25
          try clear c26
          try clear c26b0
          try clear c28
          try clear c28b0
          try clear c30
          try clear c30b0
          try clear c30b1
          try clear c31
          try clear c31b0
          try clear c33
          try clear c33b0
          try clear c35
          try clear c35b0
          try clear c35b1
          try clear c38
          try clear c38b0
          try clear c38b1
          try clear hcz12_0 hcz12_1 hcz12_10 hcz12_11 hcz12_12 hcz12_2 hcz12_3 hcz12_4 hcz12_5 hcz12_6 hcz12_7 hcz12_8 hcz12_9
          try clear hcz14_0 hcz14_1 hcz14_10 hcz14_11 hcz14_12 hcz14_2 hcz14_3 hcz14_4 hcz14_5 hcz14_6 hcz14_7 hcz14_8 hcz14_9
          try clear hcz16_0 hcz16_1 hcz16_10 hcz16_11 hcz16_12 hcz16_2 hcz16_3 hcz16_4 hcz16_5 hcz16_6 hcz16_7 hcz16_8 hcz16_9
          try clear hcz20_0 hcz20_1 hcz20_10 hcz20_11 hcz20_12 hcz20_2 hcz20_3 hcz20_4 hcz20_5 hcz20_6 hcz20_7 hcz20_8 hcz20_9
          try clear hcz24_0 hcz24_1 hcz24_10 hcz24_11 hcz24_12 hcz24_2 hcz24_3 hcz24_4 hcz24_5 hcz24_6 hcz24_7 hcz24_8 hcz24_9
          try clear hcz27_0 hcz27_1 hcz27_10 hcz27_11 hcz27_12 hcz27_2 hcz27_3 hcz27_4 hcz27_5 hcz27_6 hcz27_7 hcz27_8 hcz27_9
          try clear hcz29_0 hcz29_1 hcz29_10 hcz29_11 hcz29_12 hcz29_2 hcz29_3 hcz29_4 hcz29_5 hcz29_6 hcz29_7 hcz29_8 hcz29_9
          try clear hcz32_0 hcz32_1 hcz32_10 hcz32_11 hcz32_12 hcz32_2 hcz32_3 hcz32_4 hcz32_5 hcz32_6 hcz32_7 hcz32_8 hcz32_9
          try clear hcz34_0 hcz34_1 hcz34_10 hcz34_11 hcz34_12 hcz34_2 hcz34_3 hcz34_4 hcz34_5 hcz34_6 hcz34_7 hcz34_8 hcz34_9
          try clear hcz36_0 hcz36_1 hcz36_10 hcz36_11 hcz36_12 hcz36_2 hcz36_3 hcz36_4 hcz36_5 hcz36_6 hcz36_7 hcz36_8 hcz36_9
          try clear hcz37_0 hcz37_1 hcz37_10 hcz37_11 hcz37_12 hcz37_2 hcz37_3 hcz37_4 hcz37_5 hcz37_6 hcz37_7 hcz37_8 hcz37_9
          try clear hcz39_0 hcz39_1 hcz39_10 hcz39_11 hcz39_12 hcz39_2 hcz39_3 hcz39_4 hcz39_5 hcz39_6 hcz39_7 hcz39_8 hcz39_9
          try clear hcz40_0 hcz40_1 hcz40_10 hcz40_11 hcz40_12 hcz40_2 hcz40_3 hcz40_4 hcz40_5 hcz40_6 hcz40_7 hcz40_8 hcz40_9
          try clear hcz5_0 hcz5_1 hcz5_10 hcz5_11 hcz5_12 hcz5_2 hcz5_3 hcz5_4 hcz5_5 hcz5_6 hcz5_7 hcz5_8 hcz5_9
          try clear hcz6_0 hcz6_1 hcz6_10 hcz6_11 hcz6_12 hcz6_2 hcz6_3 hcz6_4 hcz6_5 hcz6_6 hcz6_7 hcz6_8 hcz6_9
          try clear hfz12_0 hfz12_1 hfz12_10 hfz12_11 hfz12_12 hfz12_2 hfz12_3 hfz12_4 hfz12_5 hfz12_6 hfz12_7 hfz12_8 hfz12_9
          try clear hfz14_0 hfz14_1 hfz14_10 hfz14_11 hfz14_12 hfz14_2 hfz14_3 hfz14_4 hfz14_5 hfz14_6 hfz14_7 hfz14_8 hfz14_9
          try clear hfz16_0 hfz16_1 hfz16_10 hfz16_11 hfz16_12 hfz16_2 hfz16_3 hfz16_4 hfz16_5 hfz16_6 hfz16_7 hfz16_8 hfz16_9
          try clear hfz20_0 hfz20_1 hfz20_10 hfz20_11 hfz20_12 hfz20_2 hfz20_3 hfz20_4 hfz20_5 hfz20_6 hfz20_7 hfz20_8 hfz20_9
          try clear hfz24_0 hfz24_1 hfz24_10 hfz24_11 hfz24_12 hfz24_2 hfz24_3 hfz24_4 hfz24_5 hfz24_6 hfz24_7 hfz24_8 hfz24_9
          try clear hfz27_0 hfz27_1 hfz27_10 hfz27_11 hfz27_12 hfz27_2 hfz27_3 hfz27_4 hfz27_5 hfz27_6 hfz27_7 hfz27_8 hfz27_9
          try clear hfz29_0 hfz29_1 hfz29_10 hfz29_11 hfz29_12 hfz29_2 hfz29_3 hfz29_4 hfz29_5 hfz29_6 hfz29_7 hfz29_8 hfz29_9
          try clear hfz32_0 hfz32_1 hfz32_10 hfz32_11 hfz32_12 hfz32_2 hfz32_3 hfz32_4 hfz32_5 hfz32_6 hfz32_7 hfz32_8 hfz32_9
          try clear hfz34_0 hfz34_1 hfz34_10 hfz34_11 hfz34_12 hfz34_2 hfz34_3 hfz34_4 hfz34_5 hfz34_6 hfz34_7 hfz34_8 hfz34_9
          try clear hfz36_0 hfz36_1 hfz36_10 hfz36_11 hfz36_12 hfz36_2 hfz36_3 hfz36_4 hfz36_5 hfz36_6 hfz36_7 hfz36_8 hfz36_9
          try clear hfz37_0 hfz37_1 hfz37_10 hfz37_11 hfz37_12 hfz37_2 hfz37_3 hfz37_4 hfz37_5 hfz37_6 hfz37_7 hfz37_8 hfz37_9
          try clear hfz39_0 hfz39_1 hfz39_10 hfz39_11 hfz39_12 hfz39_2 hfz39_3 hfz39_4 hfz39_5 hfz39_6 hfz39_7 hfz39_8 hfz39_9
          try clear hfz40_0 hfz40_1 hfz40_10 hfz40_11 hfz40_12 hfz40_2 hfz40_3 hfz40_4 hfz40_5 hfz40_6 hfz40_7 hfz40_8 hfz40_9
          try clear hfz5_0 hfz5_1 hfz5_10 hfz5_11 hfz5_12 hfz5_2 hfz5_3 hfz5_4 hfz5_5 hfz5_6 hfz5_7 hfz5_8 hfz5_9
          try clear hfz6_0 hfz6_1 hfz6_10 hfz6_11 hfz6_12 hfz6_2 hfz6_3 hfz6_4 hfz6_5 hfz6_6 hfz6_7 hfz6_8 hfz6_9
          try clear p2
          obtain ⟨kq, x62_22, rfl, HA, HJ22, BK172, HB⟩ := hcut
          cases kq with
          | zero => exact absurd HA.out (by simp [giroref23_Check.j2])
          | succ kj22 =>
           have H := HA.out
           clear HA
           simp only [giroref23_Check.j2] at H
           by_cases c41 : x62_22 = true
           ·subst c41
            have H1 : (some 2) = some r := by rw [if_pos rfl] at H; exact H
            clear H
            have H := H1
            clear H1
            obtain rfl := Option.some.inj H
            go_wp2
            go_ret
            exact ⟨by first | rfl | (simp [errW_none, errW_some] <;> rfl) | (simp [*, errW_none, errW_some] <;> rfl), by repeat (first | (with_reducible first | exact HB.out | apply below_alloc | apply pw_below_drewN | apply below_drew1 | refine below_set ?_ GE172.out) | exact HB.out)⟩
           ·replace c41 := Bool.eq_false_iff.mpr c41
            subst c41
            have H1 : (if a0_7 < 0 then (giroref23_Check.j3 kj22 true a0_0 a0_1 a0_2 a0_3 a0_4 a0_5 a0_6 a0_7 a0_8 a0_9 a0_10 a0_11 a0_12) else (if a0_7 > 73048 then (giroref23_Check.j3 kj22 true a0_0 a0_1 a0_2 a0_3 a0_4 a0_5 a0_6 a0_7 a0_8 a0_9 a0_10 a0_11 a0_12) else (if a0_6 < 0 then (giroref23_Check.j3 kj22 true a0_0 a0_1 a0_2 a0_3 a0_4 a0_5 a0_6 a0_7 a0_8 a0_9 a0_10 a0_11 a0_12) else (giroref23_Check.j3 kj22 (decide (a0_6 > a0_7)) a0_0 a0_1 a0_2 a0_3 a0_4 a0_5 a0_6 a0_7 a0_8 a0_9 a0_10 a0_11 a0_12)))) = some r := by rw [if_neg (show ¬ (false = true) by decide)] at H; exact H
            clear H
            have H := H1
            clear H1
            have HC42 := Aside0.mk H
            clear H
            go_upto_region 11 with (fail)
            go_cut [82] (fun v82 wc => ∃ (kq : Nat) (x82_41 : Bool), v82 = .bool x82_41 ∧ Aside0 (giroref23_Check.j3 kq x82_41 a0_0 a0_1 a0_2 a0_3 a0_4 a0_5 a0_6 a0_7 a0_8 a0_9 a0_10 a0_11 a0_12 = some r) ∧ Aside0 (kq ≤ kj22) ∧ Aside0 (wc.heap[gb172]? = some (.cells #[.int .i64 a0_0, .string a0_1, .string a0_2, .string a0_3, .int .i64 a0_4, .int .i64 a0_5, .int .i64 a0_6, .int .i64 a0_7, .int .i64 a0_8, .bool a0_9, .int .i64 a0_10, .string a0_11, .string a0_12] 24 (0, 0))) ∧ Aside0 (Below w.heap.size w wc))
            case first =>
             have H := HC42.out
             clear HC42
             by_cases c43 : a0_7 < 0
             ·rw [if_pos c43] at H
              have c43b0 : decide (a0_7 < 0) = true := decide_eq_true c43
              clear c43
              (first | rw [c43b0] | (simp only [i64_w, i32_w]; rw [c43b0]) | skip)
              have H' := Aside0.mk H
              clear H
              have hcz44_0 : wc.cell? ⟨gb172, 0, none⟩ = some (.int .i64 a0_0) := (blk_cell BK172.out 0).trans rfl
              have hcz44_1 : wc.cell? ⟨gb172, 1, none⟩ = some (.string a0_1) := (blk_cell BK172.out 1).trans rfl
              have hcz44_2 : wc.cell? ⟨gb172, 2, none⟩ = some (.string a0_2) := (blk_cell BK172.out 2).trans rfl
              have hcz44_3 : wc.cell? ⟨gb172, 3, none⟩ = some (.string a0_3) := (blk_cell BK172.out 3).trans rfl
              have hcz44_4 : wc.cell? ⟨gb172, 4, none⟩ = some (.int .i64 a0_4) := (blk_cell BK172.out 4).trans rfl
              have hcz44_5 : wc.cell? ⟨gb172, 5, none⟩ = some (.int .i64 a0_5) := (blk_cell BK172.out 5).trans rfl
              have hcz44_6 : wc.cell? ⟨gb172, 6, none⟩ = some (.int .i64 a0_6) := (blk_cell BK172.out 6).trans rfl
              have hcz44_7 : wc.cell? ⟨gb172, 7, none⟩ = some (.int .i64 a0_7) := (blk_cell BK172.out 7).trans rfl
              have hcz44_8 : wc.cell? ⟨gb172, 8, none⟩ = some (.int .i64 a0_8) := (blk_cell BK172.out 8).trans rfl
              have hcz44_9 : wc.cell? ⟨gb172, 9, none⟩ = some (.bool a0_9) := (blk_cell BK172.out 9).trans rfl
              have hcz44_10 : wc.cell? ⟨gb172, 10, none⟩ = some (.int .i64 a0_10) := (blk_cell BK172.out 10).trans rfl
              have hcz44_11 : wc.cell? ⟨gb172, 11, none⟩ = some (.string a0_11) := (blk_cell BK172.out 11).trans rfl
              have hcz44_12 : wc.cell? ⟨gb172, 12, none⟩ = some (.string a0_12) := (blk_cell BK172.out 12).trans rfl
              have hfz44_0 := blk_frozen BK172.out 0
              have hfz44_1 := blk_frozen BK172.out 1
              have hfz44_2 := blk_frozen BK172.out 2
              have hfz44_3 := blk_frozen BK172.out 3
              have hfz44_4 := blk_frozen BK172.out 4
              have hfz44_5 := blk_frozen BK172.out 5
              have hfz44_6 := blk_frozen BK172.out 6
              have hfz44_7 := blk_frozen BK172.out 7
              have hfz44_8 := blk_frozen BK172.out 8
              have hfz44_9 := blk_frozen BK172.out 9
              have hfz44_10 := blk_frozen BK172.out 10
              have hfz44_11 := blk_frozen BK172.out 11
              have hfz44_12 := blk_frozen BK172.out 12
              go_wp2
              go_meet
              case rel => exact ⟨_, (true), (by first | rfl | (simp; done) | (simp [*]; done)), H', ⟨by have := HJ1.out; have := HJ7.out; have := HJ22.out; first | omega | exact Nat.le_refl _⟩, ⟨by (with_reducible repeat (first | refine blk_drewN ?_ _ | refine blk_drew ?_ | refine blk_alloc ?_ _)); exact BK172.out⟩, ⟨by repeat (first | (with_reducible first | exact HB.out | apply below_alloc | apply pw_below_drewN | apply below_drew1 | refine below_set ?_ GE172.out) | exact HB.out)⟩⟩
             ·rw [if_neg c43] at H
              have c43b0 : decide (a0_7 < 0) = false := decide_eq_false c43
              clear c43
              (first | rw [c43b0] | (simp only [i64_w, i32_w]; rw [c43b0]) | skip)
              by_cases c45 : a0_7 > 73048
              ·rw [if_pos c45] at H
               have c45b0 : decide (73048 < a0_7) = true := decide_eq_true c45
               clear c45
               have H' := Aside0.mk H
               clear H
               have hcz46_0 : wc.cell? ⟨gb172, 0, none⟩ = some (.int .i64 a0_0) := (blk_cell BK172.out 0).trans rfl
               have hcz46_1 : wc.cell? ⟨gb172, 1, none⟩ = some (.string a0_1) := (blk_cell BK172.out 1).trans rfl
               have hcz46_2 : wc.cell? ⟨gb172, 2, none⟩ = some (.string a0_2) := (blk_cell BK172.out 2).trans rfl
               have hcz46_3 : wc.cell? ⟨gb172, 3, none⟩ = some (.string a0_3) := (blk_cell BK172.out 3).trans rfl
               have hcz46_4 : wc.cell? ⟨gb172, 4, none⟩ = some (.int .i64 a0_4) := (blk_cell BK172.out 4).trans rfl
               have hcz46_5 : wc.cell? ⟨gb172, 5, none⟩ = some (.int .i64 a0_5) := (blk_cell BK172.out 5).trans rfl
               have hcz46_6 : wc.cell? ⟨gb172, 6, none⟩ = some (.int .i64 a0_6) := (blk_cell BK172.out 6).trans rfl
               have hcz46_7 : wc.cell? ⟨gb172, 7, none⟩ = some (.int .i64 a0_7) := (blk_cell BK172.out 7).trans rfl
               have hcz46_8 : wc.cell? ⟨gb172, 8, none⟩ = some (.int .i64 a0_8) := (blk_cell BK172.out 8).trans rfl
               have hcz46_9 : wc.cell? ⟨gb172, 9, none⟩ = some (.bool a0_9) := (blk_cell BK172.out 9).trans rfl
               have hcz46_10 : wc.cell? ⟨gb172, 10, none⟩ = some (.int .i64 a0_10) := (blk_cell BK172.out 10).trans rfl
               have hcz46_11 : wc.cell? ⟨gb172, 11, none⟩ = some (.string a0_11) := (blk_cell BK172.out 11).trans rfl
               have hcz46_12 : wc.cell? ⟨gb172, 12, none⟩ = some (.string a0_12) := (blk_cell BK172.out 12).trans rfl
               have hfz46_0 := blk_frozen BK172.out 0
               have hfz46_1 := blk_frozen BK172.out 1
               have hfz46_2 := blk_frozen BK172.out 2
               have hfz46_3 := blk_frozen BK172.out 3
               have hfz46_4 := blk_frozen BK172.out 4
               have hfz46_5 := blk_frozen BK172.out 5
               have hfz46_6 := blk_frozen BK172.out 6
               have hfz46_7 := blk_frozen BK172.out 7
               have hfz46_8 := blk_frozen BK172.out 8
               have hfz46_9 := blk_frozen BK172.out 9
               have hfz46_10 := blk_frozen BK172.out 10
               have hfz46_11 := blk_frozen BK172.out 11
               have hfz46_12 := blk_frozen BK172.out 12
               go_wp2
               go_meet
               case rel => exact ⟨_, (true), (by first | rfl | (simp; done) | (simp [*]; done)), H', ⟨by have := HJ1.out; have := HJ7.out; have := HJ22.out; first | omega | exact Nat.le_refl _⟩, ⟨by (with_reducible repeat (first | refine blk_drewN ?_ _ | refine blk_drew ?_ | refine blk_alloc ?_ _)); exact BK172.out⟩, ⟨by repeat (first | (with_reducible first | exact HB.out | apply below_alloc | apply pw_below_drewN | apply below_drew1 | refine below_set ?_ GE172.out) | exact HB.out)⟩⟩
              ·rw [if_neg c45] at H
               have c45b0 : decide (73048 < a0_7) = false := decide_eq_false c45
               clear c45
               by_cases c47 : a0_6 < 0
               ·rw [if_pos c47] at H
                have c47b0 : decide (a0_6 < 0) = true := decide_eq_true c47
                clear c47
                have H' := Aside0.mk H
                clear H
                have hcz48_0 : wc.cell? ⟨gb172, 0, none⟩ = some (.int .i64 a0_0) := (blk_cell BK172.out 0).trans rfl
                have hcz48_1 : wc.cell? ⟨gb172, 1, none⟩ = some (.string a0_1) := (blk_cell BK172.out 1).trans rfl
                have hcz48_2 : wc.cell? ⟨gb172, 2, none⟩ = some (.string a0_2) := (blk_cell BK172.out 2).trans rfl
                have hcz48_3 : wc.cell? ⟨gb172, 3, none⟩ = some (.string a0_3) := (blk_cell BK172.out 3).trans rfl
                have hcz48_4 : wc.cell? ⟨gb172, 4, none⟩ = some (.int .i64 a0_4) := (blk_cell BK172.out 4).trans rfl
                have hcz48_5 : wc.cell? ⟨gb172, 5, none⟩ = some (.int .i64 a0_5) := (blk_cell BK172.out 5).trans rfl
                have hcz48_6 : wc.cell? ⟨gb172, 6, none⟩ = some (.int .i64 a0_6) := (blk_cell BK172.out 6).trans rfl
                have hcz48_7 : wc.cell? ⟨gb172, 7, none⟩ = some (.int .i64 a0_7) := (blk_cell BK172.out 7).trans rfl
                have hcz48_8 : wc.cell? ⟨gb172, 8, none⟩ = some (.int .i64 a0_8) := (blk_cell BK172.out 8).trans rfl
                have hcz48_9 : wc.cell? ⟨gb172, 9, none⟩ = some (.bool a0_9) := (blk_cell BK172.out 9).trans rfl
                have hcz48_10 : wc.cell? ⟨gb172, 10, none⟩ = some (.int .i64 a0_10) := (blk_cell BK172.out 10).trans rfl
                have hcz48_11 : wc.cell? ⟨gb172, 11, none⟩ = some (.string a0_11) := (blk_cell BK172.out 11).trans rfl
                have hcz48_12 : wc.cell? ⟨gb172, 12, none⟩ = some (.string a0_12) := (blk_cell BK172.out 12).trans rfl
                have hfz48_0 := blk_frozen BK172.out 0
                have hfz48_1 := blk_frozen BK172.out 1
                have hfz48_2 := blk_frozen BK172.out 2
                have hfz48_3 := blk_frozen BK172.out 3
                have hfz48_4 := blk_frozen BK172.out 4
                have hfz48_5 := blk_frozen BK172.out 5
                have hfz48_6 := blk_frozen BK172.out 6
                have hfz48_7 := blk_frozen BK172.out 7
                have hfz48_8 := blk_frozen BK172.out 8
                have hfz48_9 := blk_frozen BK172.out 9
                have hfz48_10 := blk_frozen BK172.out 10
                have hfz48_11 := blk_frozen BK172.out 11
                have hfz48_12 := blk_frozen BK172.out 12
                go_wp2
                go_meet
                case rel => exact ⟨_, (true), (by first | rfl | (simp; done) | (simp [*]; done)), H', ⟨by have := HJ1.out; have := HJ7.out; have := HJ22.out; first | omega | exact Nat.le_refl _⟩, ⟨by (with_reducible repeat (first | refine blk_drewN ?_ _ | refine blk_drew ?_ | refine blk_alloc ?_ _)); exact BK172.out⟩, ⟨by repeat (first | (with_reducible first | exact HB.out | apply below_alloc | apply pw_below_drewN | apply below_drew1 | refine below_set ?_ GE172.out) | exact HB.out)⟩⟩
               ·rw [if_neg c47] at H
                have c47b0 : decide (a0_6 < 0) = false := decide_eq_false c47
                clear c47
                have H' := Aside0.mk H
                clear H
                have hcz49_0 : wc.cell? ⟨gb172, 0, none⟩ = some (.int .i64 a0_0) := (blk_cell BK172.out 0).trans rfl
                have hcz49_1 : wc.cell? ⟨gb172, 1, none⟩ = some (.string a0_1) := (blk_cell BK172.out 1).trans rfl
                have hcz49_2 : wc.cell? ⟨gb172, 2, none⟩ = some (.string a0_2) := (blk_cell BK172.out 2).trans rfl
                have hcz49_3 : wc.cell? ⟨gb172, 3, none⟩ = some (.string a0_3) := (blk_cell BK172.out 3).trans rfl
                have hcz49_4 : wc.cell? ⟨gb172, 4, none⟩ = some (.int .i64 a0_4) := (blk_cell BK172.out 4).trans rfl
                have hcz49_5 : wc.cell? ⟨gb172, 5, none⟩ = some (.int .i64 a0_5) := (blk_cell BK172.out 5).trans rfl
                have hcz49_6 : wc.cell? ⟨gb172, 6, none⟩ = some (.int .i64 a0_6) := (blk_cell BK172.out 6).trans rfl
                have hcz49_7 : wc.cell? ⟨gb172, 7, none⟩ = some (.int .i64 a0_7) := (blk_cell BK172.out 7).trans rfl
                have hcz49_8 : wc.cell? ⟨gb172, 8, none⟩ = some (.int .i64 a0_8) := (blk_cell BK172.out 8).trans rfl
                have hcz49_9 : wc.cell? ⟨gb172, 9, none⟩ = some (.bool a0_9) := (blk_cell BK172.out 9).trans rfl
                have hcz49_10 : wc.cell? ⟨gb172, 10, none⟩ = some (.int .i64 a0_10) := (blk_cell BK172.out 10).trans rfl
                have hcz49_11 : wc.cell? ⟨gb172, 11, none⟩ = some (.string a0_11) := (blk_cell BK172.out 11).trans rfl
                have hcz49_12 : wc.cell? ⟨gb172, 12, none⟩ = some (.string a0_12) := (blk_cell BK172.out 12).trans rfl
                have hfz49_0 := blk_frozen BK172.out 0
                have hfz49_1 := blk_frozen BK172.out 1
                have hfz49_2 := blk_frozen BK172.out 2
                have hfz49_3 := blk_frozen BK172.out 3
                have hfz49_4 := blk_frozen BK172.out 4
                have hfz49_5 := blk_frozen BK172.out 5
                have hfz49_6 := blk_frozen BK172.out 6
                have hfz49_7 := blk_frozen BK172.out 7
                have hfz49_8 := blk_frozen BK172.out 8
                have hfz49_9 := blk_frozen BK172.out 9
                have hfz49_10 := blk_frozen BK172.out 10
                have hfz49_11 := blk_frozen BK172.out 11
                have hfz49_12 := blk_frozen BK172.out 12
                go_wp2
                go_meet
                case rel => exact ⟨_, (decide (a0_6 > a0_7)), (by first | rfl | (simp; done) | (simp [*]; done)), H', ⟨by have := HJ1.out; have := HJ7.out; have := HJ22.out; first | omega | exact Nat.le_refl _⟩, ⟨by (with_reducible repeat (first | refine blk_drewN ?_ _ | refine blk_drew ?_ | refine blk_alloc ?_ _)); exact BK172.out⟩, ⟨by repeat (first | (with_reducible first | exact HB.out | apply below_alloc | apply pw_below_drewN | apply below_drew1 | refine below_set ?_ GE172.out) | exact HB.out)⟩⟩
            case rest =>
             clear HC42
             try clear c1
             try clear c2
             try clear p2
             try clear c3
             try clear c4
             try clear c4b0
             try clear c4b1
             try clear c7
             try clear c9
             try clear c10
             try clear c18
             try clear c19
             try clear c19b0
             try clear c19b1
             try clear c22
             try clear c25
             try clear c26
             try clear c26b0
             try clear c28
             try clear c28b0
             try clear c30
             try clear c30b0
             try clear c30b1
             try clear c31
             try clear c31b0
             try clear c33
             try clear c33b0
             try clear c35
             try clear c35b0
             try clear c35b1
             try clear c38
             try clear c38b0
             try clear c38b1
             try clear c41
             try clear c43
             try clear c43b0
             try clear c45
             try clear c45b0
             try clear c47
             try clear c47b0
             try clear hcz12_0 hcz12_1 hcz12_10 hcz12_11 hcz12_12 hcz12_2 hcz12_3 hcz12_4 hcz12_5 hcz12_6 hcz12_7 hcz12_8 hcz12_9
             try clear hcz14_0 hcz14_1 hcz14_10 hcz14_11 hcz14_12 hcz14_2 hcz14_3 hcz14_4 hcz14_5 hcz14_6 hcz14_7 hcz14_8 hcz14_9
             try clear hcz16_0 hcz16_1 hcz16_10 hcz16_11 hcz16_12 hcz16_2 hcz16_3 hcz16_4 hcz16_5 hcz16_6 hcz16_7 hcz16_8 hcz16_9
             try clear hcz20_0 hcz20_1 hcz20_10 hcz20_11 hcz20_12 hcz20_2 hcz20_3 hcz20_4 hcz20_5 hcz20_6 hcz20_7 hcz20_8 hcz20_9
             try clear hcz24_0 hcz24_1 hcz24_10 hcz24_11 hcz24_12 hcz24_2 hcz24_3 hcz24_4 hcz24_5 hcz24_6 hcz24_7 hcz24_8 hcz24_9
             try clear hcz27_0 hcz27_1 hcz27_10 hcz27_11 hcz27_12 hcz27_2 hcz27_3 hcz27_4 hcz27_5 hcz27_6 hcz27_7 hcz27_8 hcz27_9
             try clear hcz29_0 hcz29_1 hcz29_10 hcz29_11 hcz29_12 hcz29_2 hcz29_3 hcz29_4 hcz29_5 hcz29_6 hcz29_7 hcz29_8 hcz29_9
             try clear hcz32_0 hcz32_1 hcz32_10 hcz32_11 hcz32_12 hcz32_2 hcz32_3 hcz32_4 hcz32_5 hcz32_6 hcz32_7 hcz32_8 hcz32_9
             try clear hcz34_0 hcz34_1 hcz34_10 hcz34_11 hcz34_12 hcz34_2 hcz34_3 hcz34_4 hcz34_5 hcz34_6 hcz34_7 hcz34_8 hcz34_9
             try clear hcz36_0 hcz36_1 hcz36_10 hcz36_11 hcz36_12 hcz36_2 hcz36_3 hcz36_4 hcz36_5 hcz36_6 hcz36_7 hcz36_8 hcz36_9
             try clear hcz37_0 hcz37_1 hcz37_10 hcz37_11 hcz37_12 hcz37_2 hcz37_3 hcz37_4 hcz37_5 hcz37_6 hcz37_7 hcz37_8 hcz37_9
             try clear hcz39_0 hcz39_1 hcz39_10 hcz39_11 hcz39_12 hcz39_2 hcz39_3 hcz39_4 hcz39_5 hcz39_6 hcz39_7 hcz39_8 hcz39_9
             try clear hcz40_0 hcz40_1 hcz40_10 hcz40_11 hcz40_12 hcz40_2 hcz40_3 hcz40_4 hcz40_5 hcz40_6 hcz40_7 hcz40_8 hcz40_9
             try clear hcz44_0 hcz44_1 hcz44_10 hcz44_11 hcz44_12 hcz44_2 hcz44_3 hcz44_4 hcz44_5 hcz44_6 hcz44_7 hcz44_8 hcz44_9
             try clear hcz46_0 hcz46_1 hcz46_10 hcz46_11 hcz46_12 hcz46_2 hcz46_3 hcz46_4 hcz46_5 hcz46_6 hcz46_7 hcz46_8 hcz46_9
             try clear hcz48_0 hcz48_1 hcz48_10 hcz48_11 hcz48_12 hcz48_2 hcz48_3 hcz48_4 hcz48_5 hcz48_6 hcz48_7 hcz48_8 hcz48_9
             try clear hcz49_0 hcz49_1 hcz49_10 hcz49_11 hcz49_12 hcz49_2 hcz49_3 hcz49_4 hcz49_5 hcz49_6 hcz49_7 hcz49_8 hcz49_9
             try clear hcz5_0 hcz5_1 hcz5_10 hcz5_11 hcz5_12 hcz5_2 hcz5_3 hcz5_4 hcz5_5 hcz5_6 hcz5_7 hcz5_8 hcz5_9
             try clear hcz6_0 hcz6_1 hcz6_10 hcz6_11 hcz6_12 hcz6_2 hcz6_3 hcz6_4 hcz6_5 hcz6_6 hcz6_7 hcz6_8 hcz6_9
             try clear hfz12_0 hfz12_1 hfz12_10 hfz12_11 hfz12_12 hfz12_2 hfz12_3 hfz12_4 hfz12_5 hfz12_6 hfz12_7 hfz12_8 hfz12_9
             try clear hfz14_0 hfz14_1 hfz14_10 hfz14_11 hfz14_12 hfz14_2 hfz14_3 hfz14_4 hfz14_5 hfz14_6 hfz14_7 hfz14_8 hfz14_9
             try clear hfz16_0 hfz16_1 hfz16_10 hfz16_11 hfz16_12 hfz16_2 hfz16_3 hfz16_4 hfz16_5 hfz16_6 hfz16_7 hfz16_8 hfz16_9
             try clear hfz20_0 hfz20_1 hfz20_10 hfz20_11 hfz20_12 hfz20_2 hfz20_3 hfz20_4 hfz20_5 hfz20_6 hfz20_7 hfz20_8 hfz20_9
             try clear hfz24_0 hfz24_1 hfz24_10 hfz24_11 hfz24_12 hfz24_2 hfz24_3 hfz24_4 hfz24_5 hfz24_6 hfz24_7 hfz24_8 hfz24_9
             try clear hfz27_0 hfz27_1 hfz27_10 hfz27_11 hfz27_12 hfz27_2 hfz27_3 hfz27_4 hfz27_5 hfz27_6 hfz27_7 hfz27_8 hfz27_9
             try clear hfz29_0 hfz29_1 hfz29_10 hfz29_11 hfz29_12 hfz29_2 hfz29_3 hfz29_4 hfz29_5 hfz29_6 hfz29_7 hfz29_8 hfz29_9
             try clear hfz32_0 hfz32_1 hfz32_10 hfz32_11 hfz32_12 hfz32_2 hfz32_3 hfz32_4 hfz32_5 hfz32_6 hfz32_7 hfz32_8 hfz32_9
             try clear hfz34_0 hfz34_1 hfz34_10 hfz34_11 hfz34_12 hfz34_2 hfz34_3 hfz34_4 hfz34_5 hfz34_6 hfz34_7 hfz34_8 hfz34_9
             try clear hfz36_0 hfz36_1 hfz36_10 hfz36_11 hfz36_12 hfz36_2 hfz36_3 hfz36_4 hfz36_5 hfz36_6 hfz36_7 hfz36_8 hfz36_9
             try clear hfz37_0 hfz37_1 hfz37_10 hfz37_11 hfz37_12 hfz37_2 hfz37_3 hfz37_4 hfz37_5 hfz37_6 hfz37_7 hfz37_8 hfz37_9
             try clear hfz39_0 hfz39_1 hfz39_10 hfz39_11 hfz39_12 hfz39_2 hfz39_3 hfz39_4 hfz39_5 hfz39_6 hfz39_7 hfz39_8 hfz39_9
             try clear hfz40_0 hfz40_1 hfz40_10 hfz40_11 hfz40_12 hfz40_2 hfz40_3 hfz40_4 hfz40_5 hfz40_6 hfz40_7 hfz40_8 hfz40_9
             try clear hfz44_0 hfz44_1 hfz44_10 hfz44_11 hfz44_12 hfz44_2 hfz44_3 hfz44_4 hfz44_5 hfz44_6 hfz44_7 hfz44_8 hfz44_9
             try clear hfz46_0 hfz46_1 hfz46_10 hfz46_11 hfz46_12 hfz46_2 hfz46_3 hfz46_4 hfz46_5 hfz46_6 hfz46_7 hfz46_8 hfz46_9
             try clear hfz48_0 hfz48_1 hfz48_10 hfz48_11 hfz48_12 hfz48_2 hfz48_3 hfz48_4 hfz48_5 hfz48_6 hfz48_7 hfz48_8 hfz48_9
             try clear hfz49_0 hfz49_1 hfz49_10 hfz49_11 hfz49_12 hfz49_2 hfz49_3 hfz49_4 hfz49_5 hfz49_6 hfz49_7 hfz49_8 hfz49_9
             try clear hfz5_0 hfz5_1 hfz5_10 hfz5_11 hfz5_12 hfz5_2 hfz5_3 hfz5_4 hfz5_5 hfz5_6 hfz5_7 hfz5_8 hfz5_9
             try clear hfz6_0 hfz6_1 hfz6_10 hfz6_11 hfz6_12 hfz6_2 hfz6_3 hfz6_4 hfz6_5 hfz6_6 hfz6_7 hfz6_8 hfz6_9
             try clear p2
             obtain ⟨kq, x82_41, rfl, HA, HJ41, BK172, HB⟩ := hcut
             cases kq with
             | zero => exact absurd HA.out (by simp [giroref23_Check.j3])
             | succ kj41 =>
              have H := HA.out
              clear HA
              simp only [giroref23_Check.j3] at H
              by_cases c50 : x82_41 = true
              ·subst c50
               have H1 : (some 28) = some r := by rw [if_pos rfl] at H; exact H
               clear H
               have H := H1
               clear H1
               obtain rfl := Option.some.inj H
               go_wp2
               go_ret
               exact ⟨by first | rfl | (simp [errW_none, errW_some] <;> rfl) | (simp [*, errW_none, errW_some] <;> rfl), by repeat (first | (with_reducible first | exact HB.out | apply below_alloc | apply pw_below_drewN | apply below_drew1 | refine below_set ?_ GE172.out) | exact HB.out)⟩
              ·replace c50 := Bool.eq_false_iff.mpr c50
               subst c50
               have H1 : (if a0_8 < 0 then (giroref23_Check.j4 kj41 true a0_0 a0_1 a0_2 a0_3 a0_4 a0_5 a0_6 a0_7 a0_8 a0_9 a0_10 a0_11 a0_12) else (giroref23_Check.j4 kj41 (decide (a0_8 > 2)) a0_0 a0_1 a0_2 a0_3 a0_4 a0_5 a0_6 a0_7 a0_8 a0_9 a0_10 a0_11 a0_12)) = some r := by rw [if_neg (show ¬ (false = true) by decide)] at H; exact H
               clear H
               have H := H1
               clear H1
               have HC51 := Aside0.mk H
               clear H
               go_upto_region 13 with (fail)
               go_cut [90] (fun v90 wc => ∃ (kq : Nat) (x90_50 : Bool), v90 = .bool x90_50 ∧ Aside0 (giroref23_Check.j4 kq x90_50 a0_0 a0_1 a0_2 a0_3 a0_4 a0_5 a0_6 a0_7 a0_8 a0_9 a0_10 a0_11 a0_12 = some r) ∧ Aside0 (kq ≤ kj41) ∧ Aside0 (wc.heap[gb172]? = some (.cells #[.int .i64 a0_0, .string a0_1, .string a0_2, .string a0_3, .int .i64 a0_4, .int .i64 a0_5, .int .i64 a0_6, .int .i64 a0_7, .int .i64 a0_8, .bool a0_9, .int .i64 a0_10, .string a0_11, .string a0_12] 24 (0, 0))) ∧ Aside0 (Below w.heap.size w wc))
               case first =>
                have H := HC51.out
                clear HC51
                by_cases c52 : a0_8 < 0
                ·rw [if_pos c52] at H
                 have c52b0 : decide (a0_8 < 0) = true := decide_eq_true c52
                 clear c52
                 (first | rw [c52b0] | (simp only [i64_w, i32_w]; rw [c52b0]) | skip)
                 have H' := Aside0.mk H
                 clear H
                 have hcz53_0 : wc.cell? ⟨gb172, 0, none⟩ = some (.int .i64 a0_0) := (blk_cell BK172.out 0).trans rfl
                 have hcz53_1 : wc.cell? ⟨gb172, 1, none⟩ = some (.string a0_1) := (blk_cell BK172.out 1).trans rfl
                 have hcz53_2 : wc.cell? ⟨gb172, 2, none⟩ = some (.string a0_2) := (blk_cell BK172.out 2).trans rfl
                 have hcz53_3 : wc.cell? ⟨gb172, 3, none⟩ = some (.string a0_3) := (blk_cell BK172.out 3).trans rfl
                 have hcz53_4 : wc.cell? ⟨gb172, 4, none⟩ = some (.int .i64 a0_4) := (blk_cell BK172.out 4).trans rfl
                 have hcz53_5 : wc.cell? ⟨gb172, 5, none⟩ = some (.int .i64 a0_5) := (blk_cell BK172.out 5).trans rfl
                 have hcz53_6 : wc.cell? ⟨gb172, 6, none⟩ = some (.int .i64 a0_6) := (blk_cell BK172.out 6).trans rfl
                 have hcz53_7 : wc.cell? ⟨gb172, 7, none⟩ = some (.int .i64 a0_7) := (blk_cell BK172.out 7).trans rfl
                 have hcz53_8 : wc.cell? ⟨gb172, 8, none⟩ = some (.int .i64 a0_8) := (blk_cell BK172.out 8).trans rfl
                 have hcz53_9 : wc.cell? ⟨gb172, 9, none⟩ = some (.bool a0_9) := (blk_cell BK172.out 9).trans rfl
                 have hcz53_10 : wc.cell? ⟨gb172, 10, none⟩ = some (.int .i64 a0_10) := (blk_cell BK172.out 10).trans rfl
                 have hcz53_11 : wc.cell? ⟨gb172, 11, none⟩ = some (.string a0_11) := (blk_cell BK172.out 11).trans rfl
                 have hcz53_12 : wc.cell? ⟨gb172, 12, none⟩ = some (.string a0_12) := (blk_cell BK172.out 12).trans rfl
                 have hfz53_0 := blk_frozen BK172.out 0
                 have hfz53_1 := blk_frozen BK172.out 1
                 have hfz53_2 := blk_frozen BK172.out 2
                 have hfz53_3 := blk_frozen BK172.out 3
                 have hfz53_4 := blk_frozen BK172.out 4
                 have hfz53_5 := blk_frozen BK172.out 5
                 have hfz53_6 := blk_frozen BK172.out 6
                 have hfz53_7 := blk_frozen BK172.out 7
                 have hfz53_8 := blk_frozen BK172.out 8
                 have hfz53_9 := blk_frozen BK172.out 9
                 have hfz53_10 := blk_frozen BK172.out 10
                 have hfz53_11 := blk_frozen BK172.out 11
                 have hfz53_12 := blk_frozen BK172.out 12
                 go_wp2
                 go_meet
                 case rel => exact ⟨_, (true), (by first | rfl | (simp; done) | (simp [*]; done)), H', ⟨by have := HJ1.out; have := HJ7.out; have := HJ22.out; have := HJ41.out; first | omega | exact Nat.le_refl _⟩, ⟨by (with_reducible repeat (first | refine blk_drewN ?_ _ | refine blk_drew ?_ | refine blk_alloc ?_ _)); exact BK172.out⟩, ⟨by repeat (first | (with_reducible first | exact HB.out | apply below_alloc | apply pw_below_drewN | apply below_drew1 | refine below_set ?_ GE172.out) | exact HB.out)⟩⟩
                ·rw [if_neg c52] at H
                 have c52b0 : decide (a0_8 < 0) = false := decide_eq_false c52
                 clear c52
                 (first | rw [c52b0] | (simp only [i64_w, i32_w]; rw [c52b0]) | skip)
                 have H' := Aside0.mk H
                 clear H
                 have hcz54_0 : wc.cell? ⟨gb172, 0, none⟩ = some (.int .i64 a0_0) := (blk_cell BK172.out 0).trans rfl
                 have hcz54_1 : wc.cell? ⟨gb172, 1, none⟩ = some (.string a0_1) := (blk_cell BK172.out 1).trans rfl
                 have hcz54_2 : wc.cell? ⟨gb172, 2, none⟩ = some (.string a0_2) := (blk_cell BK172.out 2).trans rfl
                 have hcz54_3 : wc.cell? ⟨gb172, 3, none⟩ = some (.string a0_3) := (blk_cell BK172.out 3).trans rfl
                 have hcz54_4 : wc.cell? ⟨gb172, 4, none⟩ = some (.int .i64 a0_4) := (blk_cell BK172.out 4).trans rfl
                 have hcz54_5 : wc.cell? ⟨gb172, 5, none⟩ = some (.int .i64 a0_5) := (blk_cell BK172.out 5).trans rfl
                 have hcz54_6 : wc.cell? ⟨gb172, 6, none⟩ = some (.int .i64 a0_6) := (blk_cell BK172.out 6).trans rfl
                 have hcz54_7 : wc.cell? ⟨gb172, 7, none⟩ = some (.int .i64 a0_7) := (blk_cell BK172.out 7).trans rfl
                 have hcz54_8 : wc.cell? ⟨gb172, 8, none⟩ = some (.int .i64 a0_8) := (blk_cell BK172.out 8).trans rfl
                 have hcz54_9 : wc.cell? ⟨gb172, 9, none⟩ = some (.bool a0_9) := (blk_cell BK172.out 9).trans rfl
                 have hcz54_10 : wc.cell? ⟨gb172, 10, none⟩ = some (.int .i64 a0_10) := (blk_cell BK172.out 10).trans rfl
                 have hcz54_11 : wc.cell? ⟨gb172, 11, none⟩ = some (.string a0_11) := (blk_cell BK172.out 11).trans rfl
                 have hcz54_12 : wc.cell? ⟨gb172, 12, none⟩ = some (.string a0_12) := (blk_cell BK172.out 12).trans rfl
                 have hfz54_0 := blk_frozen BK172.out 0
                 have hfz54_1 := blk_frozen BK172.out 1
                 have hfz54_2 := blk_frozen BK172.out 2
                 have hfz54_3 := blk_frozen BK172.out 3
                 have hfz54_4 := blk_frozen BK172.out 4
                 have hfz54_5 := blk_frozen BK172.out 5
                 have hfz54_6 := blk_frozen BK172.out 6
                 have hfz54_7 := blk_frozen BK172.out 7
                 have hfz54_8 := blk_frozen BK172.out 8
                 have hfz54_9 := blk_frozen BK172.out 9
                 have hfz54_10 := blk_frozen BK172.out 10
                 have hfz54_11 := blk_frozen BK172.out 11
                 have hfz54_12 := blk_frozen BK172.out 12
                 go_wp2
                 go_meet
                 case rel => exact ⟨_, (decide (a0_8 > 2)), (by first | rfl | (simp; done) | (simp [*]; done)), H', ⟨by have := HJ1.out; have := HJ7.out; have := HJ22.out; have := HJ41.out; first | omega | exact Nat.le_refl _⟩, ⟨by (with_reducible repeat (first | refine blk_drewN ?_ _ | refine blk_drew ?_ | refine blk_alloc ?_ _)); exact BK172.out⟩, ⟨by repeat (first | (with_reducible first | exact HB.out | apply below_alloc | apply pw_below_drewN | apply below_drew1 | refine below_set ?_ GE172.out) | exact HB.out)⟩⟩
               case rest =>
                clear HC51
                try clear p2
                try clear c4
                try clear c5
                try clear c47
                try clear c47b0
                try clear c50
                try clear c52
                try clear c52b0
                try clear hcz12_0 hcz12_1 hcz12_10 hcz12_11 hcz12_12 hcz12_2 hcz12_3 hcz12_4 hcz12_5 hcz12_6 hcz12_7 hcz12_8 hcz12_9
                try clear hcz14_0 hcz14_1 hcz14_10 hcz14_11 hcz14_12 hcz14_2 hcz14_3 hcz14_4 hcz14_5 hcz14_6 hcz14_7 hcz14_8 hcz14_9
                try clear hcz16_0 hcz16_1 hcz16_10 hcz16_11 hcz16_12 hcz16_2 hcz16_3 hcz16_4 hcz16_5 hcz16_6 hcz16_7 hcz16_8 hcz16_9
                try clear hcz20_0 hcz20_1 hcz20_10 hcz20_11 hcz20_12 hcz20_2 hcz20_3 hcz20_4 hcz20_5 hcz20_6 hcz20_7 hcz20_8 hcz20_9
                try clear hcz24_0 hcz24_1 hcz24_10 hcz24_11 hcz24_12 hcz24_2 hcz24_3 hcz24_4 hcz24_5 hcz24_6 hcz24_7 hcz24_8 hcz24_9
                try clear hcz27_0 hcz27_1 hcz27_10 hcz27_11 hcz27_12 hcz27_2 hcz27_3 hcz27_4 hcz27_5 hcz27_6 hcz27_7 hcz27_8 hcz27_9
                try clear hcz29_0 hcz29_1 hcz29_10 hcz29_11 hcz29_12 hcz29_2 hcz29_3 hcz29_4 hcz29_5 hcz29_6 hcz29_7 hcz29_8 hcz29_9
                try clear hcz32_0 hcz32_1 hcz32_10 hcz32_11 hcz32_12 hcz32_2 hcz32_3 hcz32_4 hcz32_5 hcz32_6 hcz32_7 hcz32_8 hcz32_9
                try clear hcz34_0 hcz34_1 hcz34_10 hcz34_11 hcz34_12 hcz34_2 hcz34_3 hcz34_4 hcz34_5 hcz34_6 hcz34_7 hcz34_8 hcz34_9
                try clear hcz36_0 hcz36_1 hcz36_10 hcz36_11 hcz36_12 hcz36_2 hcz36_3 hcz36_4 hcz36_5 hcz36_6 hcz36_7 hcz36_8 hcz36_9
                try clear hcz37_0 hcz37_1 hcz37_10 hcz37_11 hcz37_12 hcz37_2 hcz37_3 hcz37_4 hcz37_5 hcz37_6 hcz37_7 hcz37_8 hcz37_9
                try clear hcz39_0 hcz39_1 hcz39_10 hcz39_11 hcz39_12 hcz39_2 hcz39_3 hcz39_4 hcz39_5 hcz39_6 hcz39_7 hcz39_8 hcz39_9
                try clear hcz40_0 hcz40_1 hcz40_10 hcz40_11 hcz40_12 hcz40_2 hcz40_3 hcz40_4 hcz40_5 hcz40_6 hcz40_7 hcz40_8 hcz40_9
                try clear hcz44_0 hcz44_1 hcz44_10 hcz44_11 hcz44_12 hcz44_2 hcz44_3 hcz44_4 hcz44_5 hcz44_6 hcz44_7 hcz44_8 hcz44_9
                try clear hcz46_0 hcz46_1 hcz46_10 hcz46_11 hcz46_12 hcz46_2 hcz46_3 hcz46_4 hcz46_5 hcz46_6 hcz46_7 hcz46_8 hcz46_9
                try clear hcz48_0 hcz48_1 hcz48_10 hcz48_11 hcz48_12 hcz48_2 hcz48_3 hcz48_4 hcz48_5 hcz48_6 hcz48_7 hcz48_8 hcz48_9
                try clear hcz49_0 hcz49_1 hcz49_10 hcz49_11 hcz49_12 hcz49_2 hcz49_3 hcz49_4 hcz49_5 hcz49_6 hcz49_7 hcz49_8 hcz49_9
                try clear hcz53_0 hcz53_1 hcz53_10 hcz53_11 hcz53_12 hcz53_2 hcz53_3 hcz53_4 hcz53_5 hcz53_6 hcz53_7 hcz53_8 hcz53_9
                try clear hcz54_0 hcz54_1 hcz54_10 hcz54_11 hcz54_12 hcz54_2 hcz54_3 hcz54_4 hcz54_5 hcz54_6 hcz54_7 hcz54_8 hcz54_9
                try clear hcz5_0 hcz5_1 hcz5_10 hcz5_11 hcz5_12 hcz5_2 hcz5_3 hcz5_4 hcz5_5 hcz5_6 hcz5_7 hcz5_8 hcz5_9
                try clear hcz6_0 hcz6_1 hcz6_10 hcz6_11 hcz6_12 hcz6_2 hcz6_3 hcz6_4 hcz6_5 hcz6_6 hcz6_7 hcz6_8 hcz6_9
                try clear hfz12_0 hfz12_1 hfz12_10 hfz12_11 hfz12_12 hfz12_2 hfz12_3 hfz12_4 hfz12_5 hfz12_6 hfz12_7 hfz12_8 hfz12_9
                try clear hfz14_0 hfz14_1 hfz14_10 hfz14_11 hfz14_12 hfz14_2 hfz14_3 hfz14_4 hfz14_5 hfz14_6 hfz14_7 hfz14_8 hfz14_9
                try clear hfz16_0 hfz16_1 hfz16_10 hfz16_11 hfz16_12 hfz16_2 hfz16_3 hfz16_4 hfz16_5 hfz16_6 hfz16_7 hfz16_8 hfz16_9
                try clear hfz20_0 hfz20_1 hfz20_10 hfz20_11 hfz20_12 hfz20_2 hfz20_3 hfz20_4 hfz20_5 hfz20_6 hfz20_7 hfz20_8 hfz20_9
                try clear hfz24_0 hfz24_1 hfz24_10 hfz24_11 hfz24_12 hfz24_2 hfz24_3 hfz24_4 hfz24_5 hfz24_6 hfz24_7 hfz24_8 hfz24_9
                try clear hfz27_0 hfz27_1 hfz27_10 hfz27_11 hfz27_12 hfz27_2 hfz27_3 hfz27_4 hfz27_5 hfz27_6 hfz27_7 hfz27_8 hfz27_9
                try clear hfz29_0 hfz29_1 hfz29_10 hfz29_11 hfz29_12 hfz29_2 hfz29_3 hfz29_4 hfz29_5 hfz29_6 hfz29_7 hfz29_8 hfz29_9
                try clear hfz32_0 hfz32_1 hfz32_10 hfz32_11 hfz32_12 hfz32_2 hfz32_3 hfz32_4 hfz32_5 hfz32_6 hfz32_7 hfz32_8 hfz32_9
                try clear hfz34_0 hfz34_1 hfz34_10 hfz34_11 hfz34_12 hfz34_2 hfz34_3 hfz34_4 hfz34_5 hfz34_6 hfz34_7 hfz34_8 hfz34_9
                try clear hfz36_0 hfz36_1 hfz36_10 hfz36_11 hfz36_12 hfz36_2 hfz36_3 hfz36_4 hfz36_5 hfz36_6 hfz36_7 hfz36_8 hfz36_9
                try clear hfz37_0 hfz37_1 hfz37_10 hfz37_11 hfz37_12 hfz37_2 hfz37_3 hfz37_4 hfz37_5 hfz37_6 hfz37_7 hfz37_8 hfz37_9
                try clear hfz39_0 hfz39_1 hfz39_10 hfz39_11 hfz39_12 hfz39_2 hfz39_3 hfz39_4 hfz39_5 hfz39_6 hfz39_7 hfz39_8 hfz39_9
                try clear hfz40_0 hfz40_1 hfz40_10 hfz40_11 hfz40_12 hfz40_2 hfz40_3 hfz40_4 hfz40_5 hfz40_6 hfz40_7 hfz40_8 hfz40_9
                try clear hfz44_0 hfz44_1 hfz44_10 hfz44_11 hfz44_12 hfz44_2 hfz44_3 hfz44_4 hfz44_5 hfz44_6 hfz44_7 hfz44_8 hfz44_9
                try clear hfz46_0 hfz46_1 hfz46_10 hfz46_11 hfz46_12 hfz46_2 hfz46_3 hfz46_4 hfz46_5 hfz46_6 hfz46_7 hfz46_8 hfz46_9
                try clear hfz48_0 hfz48_1 hfz48_10 hfz48_11 hfz48_12 hfz48_2 hfz48_3 hfz48_4 hfz48_5 hfz48_6 hfz48_7 hfz48_8 hfz48_9
                try clear hfz49_0 hfz49_1 hfz49_10 hfz49_11 hfz49_12 hfz49_2 hfz49_3 hfz49_4 hfz49_5 hfz49_6 hfz49_7 hfz49_8 hfz49_9
                try clear hfz53_0 hfz53_1 hfz53_10 hfz53_11 hfz53_12 hfz53_2 hfz53_3 hfz53_4 hfz53_5 hfz53_6 hfz53_7 hfz53_8 hfz53_9
                try clear hfz54_0 hfz54_1 hfz54_10 hfz54_11 hfz54_12 hfz54_2 hfz54_3 hfz54_4 hfz54_5 hfz54_6 hfz54_7 hfz54_8 hfz54_9
                try clear hfz5_0 hfz5_1 hfz5_10 hfz5_11 hfz5_12 hfz5_2 hfz5_3 hfz5_4 hfz5_5 hfz5_6 hfz5_7 hfz5_8 hfz5_9
                try clear hfz6_0 hfz6_1 hfz6_10 hfz6_11 hfz6_12 hfz6_2 hfz6_3 hfz6_4 hfz6_5 hfz6_6 hfz6_7 hfz6_8 hfz6_9
                try clear p2
                obtain ⟨kq, x90_50, rfl, HA, HJ50, BK172, HB⟩ := hcut
                cases kq with
                | zero => exact absurd HA.out (by simp [giroref23_Check.j4])
                | succ kj50 =>
                 have H := HA.out
                 clear HA
                 simp only [giroref23_Check.j4] at H
                 by_cases c55 : x90_50 = true
                 ·subst c55
                  have H1 : (some 2) = some r := by rw [if_pos rfl] at H; exact H
                  clear H
                  have H := H1
                  clear H1
                  obtain rfl := Option.some.inj H
                  go_wp2
                  go_ret
                  exact ⟨by first | rfl | (simp [errW_none, errW_some] <;> rfl) | (simp [*, errW_none, errW_some] <;> rfl), by repeat (first | (with_reducible first | exact HB.out | apply below_alloc | apply pw_below_drewN | apply below_drew1 | refine below_set ?_ GE172.out) | exact HB.out)⟩
                 ·replace c55 := Bool.eq_false_iff.mpr c55
                  subst c55
                  have H1 : (if a0_9 = true then (if a0_10 < 1 then (giroref23_Check.j5 kj50 true a0_0 a0_1 a0_2 a0_3 a0_4 a0_5 a0_6 a0_7 a0_8 a0_9 a0_10 a0_11 a0_12) else (if a0_10 > a0_4 then (giroref23_Check.j5 kj50 true a0_0 a0_1 a0_2 a0_3 a0_4 a0_5 a0_6 a0_7 a0_8 a0_9 a0_10 a0_11 a0_12) else (giroref23_Check.j5 kj50 false a0_0 a0_1 a0_2 a0_3 a0_4 a0_5 a0_6 a0_7 a0_8 a0_9 a0_10 a0_11 a0_12))) else (giroref23_Check.j5 kj50 (a0_10 != 0) a0_0 a0_1 a0_2 a0_3 a0_4 a0_5 a0_6 a0_7 a0_8 a0_9 a0_10 a0_11 a0_12)) = some r := by rw [if_neg (show ¬ (false = true) by decide)] at H; exact H
                  clear H
                  have H := H1
                  clear H1
                  have HC56 := Aside0.mk H
                  clear H
                  go_upto_region 15 with (fail)
                  go_cut [114] (fun v114 wc => ∃ (kq : Nat) (x114_55 : Bool), v114 = .bool x114_55 ∧ Aside0 (giroref23_Check.j5 kq x114_55 a0_0 a0_1 a0_2 a0_3 a0_4 a0_5 a0_6 a0_7 a0_8 a0_9 a0_10 a0_11 a0_12 = some r) ∧ Aside0 (kq ≤ kj50) ∧ Aside0 (wc.heap[gb172]? = some (.cells #[.int .i64 a0_0, .string a0_1, .string a0_2, .string a0_3, .int .i64 a0_4, .int .i64 a0_5, .int .i64 a0_6, .int .i64 a0_7, .int .i64 a0_8, .bool a0_9, .int .i64 a0_10, .string a0_11, .string a0_12] 24 (0, 0))) ∧ Aside0 (Below w.heap.size w wc))
                  case first =>
                   have H := HC56.out
                   clear HC56
                   by_cases c57 : a0_9 = true
                   ·subst c57
                    have H1 : (if a0_10 < 1 then (giroref23_Check.j5 kj50 true a0_0 a0_1 a0_2 a0_3 a0_4 a0_5 a0_6 a0_7 a0_8 true a0_10 a0_11 a0_12) else (if a0_10 > a0_4 then (giroref23_Check.j5 kj50 true a0_0 a0_1 a0_2 a0_3 a0_4 a0_5 a0_6 a0_7 a0_8 true a0_10 a0_11 a0_12) else (giroref23_Check.j5 kj50 false a0_0 a0_1 a0_2 a0_3 a0_4 a0_5 a0_6 a0_7 a0_8 true a0_10 a0_11 a0_12))) = some r := by rw [if_pos rfl] at H; exact H
                    clear H
                    have H := H1
                    clear H1
                    by_cases c58 : a0_10 < 1
                    ·rw [if_pos c58] at H
                     have c58b0 : decide (a0_10 < 1) = true := decide_eq_true c58
                     clear c58
                     (first | rw [c58b0] | (simp only [i64_w, i32_w]; rw [c58b0]) | skip)
                     have H' := Aside0.mk H
                     clear H
                     have hcz59_0 : wc.cell? ⟨gb172, 0, none⟩ = some (.int .i64 a0_0) := (blk_cell BK172.out 0).trans rfl
                     have hcz59_1 : wc.cell? ⟨gb172, 1, none⟩ = some (.string a0_1) := (blk_cell BK172.out 1).trans rfl
                     have hcz59_2 : wc.cell? ⟨gb172, 2, none⟩ = some (.string a0_2) := (blk_cell BK172.out 2).trans rfl
                     have hcz59_3 : wc.cell? ⟨gb172, 3, none⟩ = some (.string a0_3) := (blk_cell BK172.out 3).trans rfl
                     have hcz59_4 : wc.cell? ⟨gb172, 4, none⟩ = some (.int .i64 a0_4) := (blk_cell BK172.out 4).trans rfl
                     have hcz59_5 : wc.cell? ⟨gb172, 5, none⟩ = some (.int .i64 a0_5) := (blk_cell BK172.out 5).trans rfl
                     have hcz59_6 : wc.cell? ⟨gb172, 6, none⟩ = some (.int .i64 a0_6) := (blk_cell BK172.out 6).trans rfl
                     have hcz59_7 : wc.cell? ⟨gb172, 7, none⟩ = some (.int .i64 a0_7) := (blk_cell BK172.out 7).trans rfl
                     have hcz59_8 : wc.cell? ⟨gb172, 8, none⟩ = some (.int .i64 a0_8) := (blk_cell BK172.out 8).trans rfl
                     have hcz59_9 : wc.cell? ⟨gb172, 9, none⟩ = some (.bool true) := (blk_cell BK172.out 9).trans rfl
                     have hcz59_10 : wc.cell? ⟨gb172, 10, none⟩ = some (.int .i64 a0_10) := (blk_cell BK172.out 10).trans rfl
                     have hcz59_11 : wc.cell? ⟨gb172, 11, none⟩ = some (.string a0_11) := (blk_cell BK172.out 11).trans rfl
                     have hcz59_12 : wc.cell? ⟨gb172, 12, none⟩ = some (.string a0_12) := (blk_cell BK172.out 12).trans rfl
                     have hfz59_0 := blk_frozen BK172.out 0
                     have hfz59_1 := blk_frozen BK172.out 1
                     have hfz59_2 := blk_frozen BK172.out 2
                     have hfz59_3 := blk_frozen BK172.out 3
                     have hfz59_4 := blk_frozen BK172.out 4
                     have hfz59_5 := blk_frozen BK172.out 5
                     have hfz59_6 := blk_frozen BK172.out 6
                     have hfz59_7 := blk_frozen BK172.out 7
                     have hfz59_8 := blk_frozen BK172.out 8
                     have hfz59_9 := blk_frozen BK172.out 9
                     have hfz59_10 := blk_frozen BK172.out 10
                     have hfz59_11 := blk_frozen BK172.out 11
                     have hfz59_12 := blk_frozen BK172.out 12
                     go_wp2
                     go_meet
                     case rel => exact ⟨_, (true), (by first | rfl | (simp; done) | (simp [*]; done)), H', ⟨by have := HJ1.out; have := HJ7.out; have := HJ22.out; have := HJ41.out; have := HJ50.out; first | omega | exact Nat.le_refl _⟩, ⟨by (with_reducible repeat (first | refine blk_drewN ?_ _ | refine blk_drew ?_ | refine blk_alloc ?_ _)); exact BK172.out⟩, ⟨by repeat (first | (with_reducible first | exact HB.out | apply below_alloc | apply pw_below_drewN | apply below_drew1 | refine below_set ?_ GE172.out) | exact HB.out)⟩⟩
                    ·rw [if_neg c58] at H
                     have c58b0 : decide (a0_10 < 1) = false := decide_eq_false c58
                     clear c58
                     (first | rw [c58b0] | (simp only [i64_w, i32_w]; rw [c58b0]) | skip)
                     by_cases c60 : a0_10 > a0_4
                     ·rw [if_pos c60] at H
                      have c60b0 : decide (a0_4 < a0_10) = true := decide_eq_true c60
                      clear c60
                      have H' := Aside0.mk H
                      clear H
                      have hcz61_0 : wc.cell? ⟨gb172, 0, none⟩ = some (.int .i64 a0_0) := (blk_cell BK172.out 0).trans rfl
                      have hcz61_1 : wc.cell? ⟨gb172, 1, none⟩ = some (.string a0_1) := (blk_cell BK172.out 1).trans rfl
                      have hcz61_2 : wc.cell? ⟨gb172, 2, none⟩ = some (.string a0_2) := (blk_cell BK172.out 2).trans rfl
                      have hcz61_3 : wc.cell? ⟨gb172, 3, none⟩ = some (.string a0_3) := (blk_cell BK172.out 3).trans rfl
                      have hcz61_4 : wc.cell? ⟨gb172, 4, none⟩ = some (.int .i64 a0_4) := (blk_cell BK172.out 4).trans rfl
                      have hcz61_5 : wc.cell? ⟨gb172, 5, none⟩ = some (.int .i64 a0_5) := (blk_cell BK172.out 5).trans rfl
                      have hcz61_6 : wc.cell? ⟨gb172, 6, none⟩ = some (.int .i64 a0_6) := (blk_cell BK172.out 6).trans rfl
                      have hcz61_7 : wc.cell? ⟨gb172, 7, none⟩ = some (.int .i64 a0_7) := (blk_cell BK172.out 7).trans rfl
                      have hcz61_8 : wc.cell? ⟨gb172, 8, none⟩ = some (.int .i64 a0_8) := (blk_cell BK172.out 8).trans rfl
                      have hcz61_9 : wc.cell? ⟨gb172, 9, none⟩ = some (.bool true) := (blk_cell BK172.out 9).trans rfl
                      have hcz61_10 : wc.cell? ⟨gb172, 10, none⟩ = some (.int .i64 a0_10) := (blk_cell BK172.out 10).trans rfl
                      have hcz61_11 : wc.cell? ⟨gb172, 11, none⟩ = some (.string a0_11) := (blk_cell BK172.out 11).trans rfl
                      have hcz61_12 : wc.cell? ⟨gb172, 12, none⟩ = some (.string a0_12) := (blk_cell BK172.out 12).trans rfl
                      have hfz61_0 := blk_frozen BK172.out 0
                      have hfz61_1 := blk_frozen BK172.out 1
                      have hfz61_2 := blk_frozen BK172.out 2
                      have hfz61_3 := blk_frozen BK172.out 3
                      have hfz61_4 := blk_frozen BK172.out 4
                      have hfz61_5 := blk_frozen BK172.out 5
                      have hfz61_6 := blk_frozen BK172.out 6
                      have hfz61_7 := blk_frozen BK172.out 7
                      have hfz61_8 := blk_frozen BK172.out 8
                      have hfz61_9 := blk_frozen BK172.out 9
                      have hfz61_10 := blk_frozen BK172.out 10
                      have hfz61_11 := blk_frozen BK172.out 11
                      have hfz61_12 := blk_frozen BK172.out 12
                      go_wp2
                      go_meet
                      case rel => exact ⟨_, (true), (by first | rfl | (simp; done) | (simp [*]; done)), H', ⟨by have := HJ1.out; have := HJ7.out; have := HJ22.out; have := HJ41.out; have := HJ50.out; first | omega | exact Nat.le_refl _⟩, ⟨by (with_reducible repeat (first | refine blk_drewN ?_ _ | refine blk_drew ?_ | refine blk_alloc ?_ _)); exact BK172.out⟩, ⟨by repeat (first | (with_reducible first | exact HB.out | apply below_alloc | apply pw_below_drewN | apply below_drew1 | refine below_set ?_ GE172.out) | exact HB.out)⟩⟩
                     ·rw [if_neg c60] at H
                      have c60b0 : decide (a0_4 < a0_10) = false := decide_eq_false c60
                      clear c60
                      have H' := Aside0.mk H
                      clear H
                      have hcz62_0 : wc.cell? ⟨gb172, 0, none⟩ = some (.int .i64 a0_0) := (blk_cell BK172.out 0).trans rfl
                      have hcz62_1 : wc.cell? ⟨gb172, 1, none⟩ = some (.string a0_1) := (blk_cell BK172.out 1).trans rfl
                      have hcz62_2 : wc.cell? ⟨gb172, 2, none⟩ = some (.string a0_2) := (blk_cell BK172.out 2).trans rfl
                      have hcz62_3 : wc.cell? ⟨gb172, 3, none⟩ = some (.string a0_3) := (blk_cell BK172.out 3).trans rfl
                      have hcz62_4 : wc.cell? ⟨gb172, 4, none⟩ = some (.int .i64 a0_4) := (blk_cell BK172.out 4).trans rfl
                      have hcz62_5 : wc.cell? ⟨gb172, 5, none⟩ = some (.int .i64 a0_5) := (blk_cell BK172.out 5).trans rfl
                      have hcz62_6 : wc.cell? ⟨gb172, 6, none⟩ = some (.int .i64 a0_6) := (blk_cell BK172.out 6).trans rfl
                      have hcz62_7 : wc.cell? ⟨gb172, 7, none⟩ = some (.int .i64 a0_7) := (blk_cell BK172.out 7).trans rfl
                      have hcz62_8 : wc.cell? ⟨gb172, 8, none⟩ = some (.int .i64 a0_8) := (blk_cell BK172.out 8).trans rfl
                      have hcz62_9 : wc.cell? ⟨gb172, 9, none⟩ = some (.bool true) := (blk_cell BK172.out 9).trans rfl
                      have hcz62_10 : wc.cell? ⟨gb172, 10, none⟩ = some (.int .i64 a0_10) := (blk_cell BK172.out 10).trans rfl
                      have hcz62_11 : wc.cell? ⟨gb172, 11, none⟩ = some (.string a0_11) := (blk_cell BK172.out 11).trans rfl
                      have hcz62_12 : wc.cell? ⟨gb172, 12, none⟩ = some (.string a0_12) := (blk_cell BK172.out 12).trans rfl
                      have hfz62_0 := blk_frozen BK172.out 0
                      have hfz62_1 := blk_frozen BK172.out 1
                      have hfz62_2 := blk_frozen BK172.out 2
                      have hfz62_3 := blk_frozen BK172.out 3
                      have hfz62_4 := blk_frozen BK172.out 4
                      have hfz62_5 := blk_frozen BK172.out 5
                      have hfz62_6 := blk_frozen BK172.out 6
                      have hfz62_7 := blk_frozen BK172.out 7
                      have hfz62_8 := blk_frozen BK172.out 8
                      have hfz62_9 := blk_frozen BK172.out 9
                      have hfz62_10 := blk_frozen BK172.out 10
                      have hfz62_11 := blk_frozen BK172.out 11
                      have hfz62_12 := blk_frozen BK172.out 12
                      go_wp2
                      go_meet
                      case rel => exact ⟨_, (false), (by first | rfl | (simp; done) | (simp [*]; done)), H', ⟨by have := HJ1.out; have := HJ7.out; have := HJ22.out; have := HJ41.out; have := HJ50.out; first | omega | exact Nat.le_refl _⟩, ⟨by (with_reducible repeat (first | refine blk_drewN ?_ _ | refine blk_drew ?_ | refine blk_alloc ?_ _)); exact BK172.out⟩, ⟨by repeat (first | (with_reducible first | exact HB.out | apply below_alloc | apply pw_below_drewN | apply below_drew1 | refine below_set ?_ GE172.out) | exact HB.out)⟩⟩
                   ·replace c57 := Bool.eq_false_iff.mpr c57
                    subst c57
                    have H1 : (giroref23_Check.j5 kj50 (a0_10 != 0) a0_0 a0_1 a0_2 a0_3 a0_4 a0_5 a0_6 a0_7 a0_8 false a0_10 a0_11 a0_12) = some r := by rw [if_neg (show ¬ (false = true) by decide)] at H; exact H
                    clear H
                    have H := H1
                    clear H1
                    have H' := Aside0.mk H
                    clear H
                    have hcz63_0 : wc.cell? ⟨gb172, 0, none⟩ = some (.int .i64 a0_0) := (blk_cell BK172.out 0).trans rfl
                    have hcz63_1 : wc.cell? ⟨gb172, 1, none⟩ = some (.string a0_1) := (blk_cell BK172.out 1).trans rfl
                    have hcz63_2 : wc.cell? ⟨gb172, 2, none⟩ = some (.string a0_2) := (blk_cell BK172.out 2).trans rfl
                    have hcz63_3 : wc.cell? ⟨gb172, 3, none⟩ = some (.string a0_3) := (blk_cell BK172.out 3).trans rfl
                    have hcz63_4 : wc.cell? ⟨gb172, 4, none⟩ = some (.int .i64 a0_4) := (blk_cell BK172.out 4).trans rfl
                    have hcz63_5 : wc.cell? ⟨gb172, 5, none⟩ = some (.int .i64 a0_5) := (blk_cell BK172.out 5).trans rfl
                    have hcz63_6 : wc.cell? ⟨gb172, 6, none⟩ = some (.int .i64 a0_6) := (blk_cell BK172.out 6).trans rfl
                    have hcz63_7 : wc.cell? ⟨gb172, 7, none⟩ = some (.int .i64 a0_7) := (blk_cell BK172.out 7).trans rfl
                    have hcz63_8 : wc.cell? ⟨gb172, 8, none⟩ = some (.int .i64 a0_8) := (blk_cell BK172.out 8).trans rfl
                    have hcz63_9 : wc.cell? ⟨gb172, 9, none⟩ = some (.bool false) := (blk_cell BK172.out 9).trans rfl
                    have hcz63_10 : wc.cell? ⟨gb172, 10, none⟩ = some (.int .i64 a0_10) := (blk_cell BK172.out 10).trans rfl
                    have hcz63_11 : wc.cell? ⟨gb172, 11, none⟩ = some (.string a0_11) := (blk_cell BK172.out 11).trans rfl
                    have hcz63_12 : wc.cell? ⟨gb172, 12, none⟩ = some (.string a0_12) := (blk_cell BK172.out 12).trans rfl
                    have hfz63_0 := blk_frozen BK172.out 0
                    have hfz63_1 := blk_frozen BK172.out 1
                    have hfz63_2 := blk_frozen BK172.out 2
                    have hfz63_3 := blk_frozen BK172.out 3
                    have hfz63_4 := blk_frozen BK172.out 4
                    have hfz63_5 := blk_frozen BK172.out 5
                    have hfz63_6 := blk_frozen BK172.out 6
                    have hfz63_7 := blk_frozen BK172.out 7
                    have hfz63_8 := blk_frozen BK172.out 8
                    have hfz63_9 := blk_frozen BK172.out 9
                    have hfz63_10 := blk_frozen BK172.out 10
                    have hfz63_11 := blk_frozen BK172.out 11
                    have hfz63_12 := blk_frozen BK172.out 12
                    go_wp2
                    go_meet
                    case rel => exact ⟨_, ((a0_10 != 0)), (by first | rfl | (simp; done) | (simp [*]; done)), H', ⟨by have := HJ1.out; have := HJ7.out; have := HJ22.out; have := HJ41.out; have := HJ50.out; first | omega | exact Nat.le_refl _⟩, ⟨by (with_reducible repeat (first | refine blk_drewN ?_ _ | refine blk_drew ?_ | refine blk_alloc ?_ _)); exact BK172.out⟩, ⟨by repeat (first | (with_reducible first | exact HB.out | apply below_alloc | apply pw_below_drewN | apply below_drew1 | refine below_set ?_ GE172.out) | exact HB.out)⟩⟩
                  case rest =>
                   clear HC56
                   try clear p2
                   try clear c5
                   try clear c6
                   try clear c55
                   try clear c57
                   try clear c58
                   try clear c58b0
                   try clear c60
                   try clear c60b0
                   try clear hcz37_1 hcz37_10 hcz37_11 hcz37_12 hcz37_2 hcz37_3 hcz37_4 hcz37_5 hcz37_6 hcz37_7 hcz37_8 hcz37_9
                   try clear hcz39_0 hcz39_1 hcz39_10 hcz39_11 hcz39_12 hcz39_2 hcz39_3 hcz39_4 hcz39_5 hcz39_6 hcz39_7 hcz39_8 hcz39_9
                   try clear hcz40_0 hcz40_1 hcz40_10 hcz40_11 hcz40_12 hcz40_2 hcz40_3 hcz40_4 hcz40_5 hcz40_6 hcz40_7 hcz40_8 hcz40_9
                   try clear hcz44_0 hcz44_1 hcz44_10 hcz44_11 hcz44_12 hcz44_2 hcz44_3 hcz44_4 hcz44_5 hcz44_6 hcz44_7 hcz44_8 hcz44_9
                   try clear hcz46_0 hcz46_1 hcz46_10 hcz46_11 hcz46_12 hcz46_2 hcz46_3 hcz46_4 hcz46_5 hcz46_6 hcz46_7 hcz46_8 hcz46_9
                   try clear hcz48_0 hcz48_1 hcz48_10 hcz48_11 hcz48_12 hcz48_2 hcz48_3 hcz48_4 hcz48_5 hcz48_6 hcz48_7 hcz48_8 hcz48_9
                   try clear hcz49_0 hcz49_1 hcz49_10 hcz49_11 hcz49_12 hcz49_2 hcz49_3 hcz49_4 hcz49_5 hcz49_6 hcz49_7 hcz49_8 hcz49_9
                   try clear hcz53_0 hcz53_1 hcz53_10 hcz53_11 hcz53_12 hcz53_2 hcz53_3 hcz53_4 hcz53_5 hcz53_6 hcz53_7 hcz53_8 hcz53_9
                   try clear hcz54_0 hcz54_1 hcz54_10 hcz54_11 hcz54_12 hcz54_2 hcz54_3 hcz54_4 hcz54_5 hcz54_6 hcz54_7 hcz54_8 hcz54_9
                   try clear hcz59_0 hcz59_1 hcz59_10 hcz59_11 hcz59_12 hcz59_2 hcz59_3 hcz59_4 hcz59_5 hcz59_6 hcz59_7 hcz59_8 hcz59_9
                   try clear hcz5_0 hcz5_1 hcz5_10 hcz5_11 hcz5_12 hcz5_2 hcz5_3 hcz5_4 hcz5_5 hcz5_6 hcz5_7 hcz5_8 hcz5_9
                   try clear hcz61_0 hcz61_1 hcz61_10 hcz61_11 hcz61_12 hcz61_2 hcz61_3 hcz61_4 hcz61_5 hcz61_6 hcz61_7 hcz61_8 hcz61_9
                   try clear hcz62_0 hcz62_1 hcz62_10 hcz62_11 hcz62_12 hcz62_2 hcz62_3 hcz62_4 hcz62_5 hcz62_6 hcz62_7 hcz62_8 hcz62_9
                   try clear hcz63_0 hcz63_1 hcz63_10 hcz63_11 hcz63_12 hcz63_2 hcz63_3 hcz63_4 hcz63_5 hcz63_6 hcz63_7 hcz63_8 hcz63_9
                   try clear hcz6_0 hcz6_1 hcz6_10 hcz6_11 hcz6_12 hcz6_2 hcz6_3 hcz6_4 hcz6_5 hcz6_6 hcz6_7 hcz6_8 hcz6_9
                   try clear hfz12_0 hfz12_1 hfz12_10 hfz12_11 hfz12_12 hfz12_2 hfz12_3 hfz12_4 hfz12_5 hfz12_6 hfz12_7 hfz12_8 hfz12_9
                   try clear hfz14_0 hfz14_1 hfz14_10 hfz14_11 hfz14_12 hfz14_2 hfz14_3 hfz14_4 hfz14_5 hfz14_6 hfz14_7 hfz14_8 hfz14_9
                   try clear hfz16_0 hfz16_1 hfz16_10 hfz16_11 hfz16_12 hfz16_2 hfz16_3 hfz16_4 hfz16_5 hfz16_6 hfz16_7 hfz16_8 hfz16_9
                   try clear hfz20_0 hfz20_1 hfz20_10 hfz20_11 hfz20_12 hfz20_2 hfz20_3 hfz20_4 hfz20_5 hfz20_6 hfz20_7 hfz20_8 hfz20_9
                   try clear hfz24_0 hfz24_1 hfz24_10 hfz24_11 hfz24_12 hfz24_2 hfz24_3 hfz24_4 hfz24_5 hfz24_6 hfz24_7 hfz24_8 hfz24_9
                   try clear hfz27_0 hfz27_1 hfz27_10 hfz27_11 hfz27_12 hfz27_2 hfz27_3 hfz27_4 hfz27_5 hfz27_6 hfz27_7 hfz27_8 hfz27_9
                   try clear hfz29_0 hfz29_1 hfz29_10 hfz29_11 hfz29_12 hfz29_2 hfz29_3 hfz29_4 hfz29_5 hfz29_6 hfz29_7 hfz29_8 hfz29_9
                   try clear hfz32_0 hfz32_1 hfz32_10 hfz32_11 hfz32_12 hfz32_2 hfz32_3 hfz32_4 hfz32_5 hfz32_6 hfz32_7 hfz32_8 hfz32_9
                   try clear hfz34_0 hfz34_1 hfz34_10 hfz34_11 hfz34_12 hfz34_2 hfz34_3 hfz34_4 hfz34_5 hfz34_6 hfz34_7 hfz34_8 hfz34_9
                   try clear hfz36_0 hfz36_1 hfz36_10 hfz36_11 hfz36_12 hfz36_2 hfz36_3 hfz36_4 hfz36_5 hfz36_6 hfz36_7 hfz36_8 hfz36_9
                   try clear hfz37_0 hfz37_1 hfz37_10 hfz37_11 hfz37_12 hfz37_2 hfz37_3 hfz37_4 hfz37_5 hfz37_6 hfz37_7 hfz37_8 hfz37_9
                   try clear hfz39_0 hfz39_1 hfz39_10 hfz39_11 hfz39_12 hfz39_2 hfz39_3 hfz39_4 hfz39_5 hfz39_6 hfz39_7 hfz39_8 hfz39_9
                   try clear hfz40_0 hfz40_1 hfz40_10 hfz40_11 hfz40_12 hfz40_2 hfz40_3 hfz40_4 hfz40_5 hfz40_6 hfz40_7 hfz40_8 hfz40_9
                   try clear hfz44_0 hfz44_1 hfz44_10 hfz44_11 hfz44_12 hfz44_2 hfz44_3 hfz44_4 hfz44_5 hfz44_6 hfz44_7 hfz44_8 hfz44_9
                   try clear hfz46_0 hfz46_1 hfz46_10 hfz46_11 hfz46_12 hfz46_2 hfz46_3 hfz46_4 hfz46_5 hfz46_6 hfz46_7 hfz46_8 hfz46_9
                   try clear hfz48_0 hfz48_1 hfz48_10 hfz48_11 hfz48_12 hfz48_2 hfz48_3 hfz48_4 hfz48_5 hfz48_6 hfz48_7 hfz48_8 hfz48_9
                   try clear hfz49_0 hfz49_1 hfz49_10 hfz49_11 hfz49_12 hfz49_2 hfz49_3 hfz49_4 hfz49_5 hfz49_6 hfz49_7 hfz49_8 hfz49_9
                   try clear hfz53_0 hfz53_1 hfz53_10 hfz53_11 hfz53_12 hfz53_2 hfz53_3 hfz53_4 hfz53_5 hfz53_6 hfz53_7 hfz53_8 hfz53_9
                   try clear hfz54_0 hfz54_1 hfz54_10 hfz54_11 hfz54_12 hfz54_2 hfz54_3 hfz54_4 hfz54_5 hfz54_6 hfz54_7 hfz54_8 hfz54_9
                   try clear hfz59_0 hfz59_1 hfz59_10 hfz59_11 hfz59_12 hfz59_2 hfz59_3 hfz59_4 hfz59_5 hfz59_6 hfz59_7 hfz59_8 hfz59_9
                   try clear hfz5_0 hfz5_1 hfz5_10 hfz5_11 hfz5_12 hfz5_2 hfz5_3 hfz5_4 hfz5_5 hfz5_6 hfz5_7 hfz5_8 hfz5_9
                   try clear hfz61_0 hfz61_1 hfz61_10 hfz61_11 hfz61_12 hfz61_2 hfz61_3 hfz61_4 hfz61_5 hfz61_6 hfz61_7 hfz61_8 hfz61_9
                   try clear hfz62_0 hfz62_1 hfz62_10 hfz62_11 hfz62_12 hfz62_2 hfz62_3 hfz62_4 hfz62_5 hfz62_6 hfz62_7 hfz62_8 hfz62_9
                   try clear hfz63_0 hfz63_1 hfz63_10 hfz63_11 hfz63_12 hfz63_2 hfz63_3 hfz63_4 hfz63_5 hfz63_6 hfz63_7 hfz63_8 hfz63_9
                   try clear hfz6_0 hfz6_1 hfz6_10 hfz6_11 hfz6_12 hfz6_2 hfz6_3 hfz6_4 hfz6_5 hfz6_6 hfz6_7 hfz6_8 hfz6_9
                   try clear p2
                   obtain ⟨kq, x114_55, rfl, HA, HJ55, BK172, HB⟩ := hcut
                   cases kq with
                   | zero => exact absurd HA.out (by simp [giroref23_Check.j5])
                   | succ kj55 =>
                    have H := HA.out
                    clear HA
                    simp only [giroref23_Check.j5] at H
                    by_cases c64 : x114_55 = true
                    ·subst c64
                     have H1 : (some 2) = some r := by rw [if_pos rfl] at H; exact H
                     clear H
                     have H := H1
                     clear H1
                     obtain rfl := Option.some.inj H
                     go_wp2
                     go_ret
                     exact ⟨by first | rfl | (simp [errW_none, errW_some] <;> rfl) | (simp [*, errW_none, errW_some] <;> rfl), by repeat (first | (with_reducible first | exact HB.out | apply below_alloc | apply pw_below_drewN | apply below_drew1 | refine below_set ?_ GE172.out) | exact HB.out)⟩
                    ·replace c64 := Bool.eq_false_iff.mpr c64
                     subst c64
                     have H1 : ((giroref23_valid.f kj55 2 a0_11).bind fun t176 => (if t176 = true then ((giroref23_valid.f kj55 2 a0_12).bind fun t177 => (if t177 = true then (some 0) else (some 6))) else (some 6))) = some r := by rw [if_neg (show ¬ (false = true) by decide)] at H; exact H
                     clear H
                     have H := H1
                     clear H1
                     replace H := Option.bind_eq_some_iff.mp H
                     obtain ⟨t176, A650, H⟩ := H
                     replace H : (if t176 = true then ((giroref23_valid.f kj55 2 a0_12).bind fun t177 => (if t177 = true then (some 0) else (some 6))) else (some 6)) = some r := H
                     have A65 := Aside0.mk A650
                     clear A650
                     by_cases c66 : t176 = true
                     ·subst c66
                      have H1 : ((giroref23_valid.f kj55 2 a0_12).bind fun t177 => (if t177 = true then (some 0) else (some 6))) = some r := by rw [if_pos rfl] at H; exact H
                      clear H
                      have H := H1
                      clear H1
                      replace H := Option.bind_eq_some_iff.mp H
                      obtain ⟨t177, A670, H⟩ := H
                      replace H : (if t177 = true then (some 0) else (some 6)) = some r := H
                      have A67 := Aside0.mk A670
                      clear A670
                      by_cases c68 : t177 = true
                      ·subst c68
                       have H1 : (some 0) = some r := by rw [if_pos rfl] at H; exact H
                       clear H
                       have H := H1
                       clear H1
                       obtain rfl := Option.some.inj H
                       have hcz69_0 : wc.cell? ⟨gb172, 0, none⟩ = some (.int .i64 a0_0) := (blk_cell BK172.out 0).trans rfl
                       have hcz69_1 : wc.cell? ⟨gb172, 1, none⟩ = some (.string a0_1) := (blk_cell BK172.out 1).trans rfl
                       have hcz69_2 : wc.cell? ⟨gb172, 2, none⟩ = some (.string a0_2) := (blk_cell BK172.out 2).trans rfl
                       have hcz69_3 : wc.cell? ⟨gb172, 3, none⟩ = some (.string a0_3) := (blk_cell BK172.out 3).trans rfl
                       have hcz69_4 : wc.cell? ⟨gb172, 4, none⟩ = some (.int .i64 a0_4) := (blk_cell BK172.out 4).trans rfl
                       have hcz69_5 : wc.cell? ⟨gb172, 5, none⟩ = some (.int .i64 a0_5) := (blk_cell BK172.out 5).trans rfl
                       have hcz69_6 : wc.cell? ⟨gb172, 6, none⟩ = some (.int .i64 a0_6) := (blk_cell BK172.out 6).trans rfl
                       have hcz69_7 : wc.cell? ⟨gb172, 7, none⟩ = some (.int .i64 a0_7) := (blk_cell BK172.out 7).trans rfl
                       have hcz69_8 : wc.cell? ⟨gb172, 8, none⟩ = some (.int .i64 a0_8) := (blk_cell BK172.out 8).trans rfl
                       have hcz69_9 : wc.cell? ⟨gb172, 9, none⟩ = some (.bool a0_9) := (blk_cell BK172.out 9).trans rfl
                       have hcz69_10 : wc.cell? ⟨gb172, 10, none⟩ = some (.int .i64 a0_10) := (blk_cell BK172.out 10).trans rfl
                       have hcz69_11 : wc.cell? ⟨gb172, 11, none⟩ = some (.string a0_11) := (blk_cell BK172.out 11).trans rfl
                       have hcz69_12 : wc.cell? ⟨gb172, 12, none⟩ = some (.string a0_12) := (blk_cell BK172.out 12).trans rfl
                       have hfz69_0 := blk_frozen BK172.out 0
                       have hfz69_1 := blk_frozen BK172.out 1
                       have hfz69_2 := blk_frozen BK172.out 2
                       have hfz69_3 := blk_frozen BK172.out 3
                       have hfz69_4 := blk_frozen BK172.out 4
                       have hfz69_5 := blk_frozen BK172.out 5
                       have hfz69_6 := blk_frozen BK172.out 6
                       have hfz69_7 := blk_frozen BK172.out 7
                       have hfz69_8 := blk_frozen BK172.out 8
                       have hfz69_9 := blk_frozen BK172.out 9
                       have hfz69_10 := blk_frozen BK172.out 10
                       have hfz69_11 := blk_frozen BK172.out 11
                       have hfz69_12 := blk_frozen BK172.out 12
                       go_wp2_with (first | ((with_reducible refine gate_callee (f := 25) rfl ?_); refine goesL_ (some 118) rfl rfl Tryd.func25 (by kernel_rfl) rfl #[.int .i64 2, .string a0_11] rfl (by (try simp only [List.map_toArray, List.map_cons, List.map_nil]); first | done | rfl | (simp only [List.length_drop, List.length_take]; rfl)) ?_; (with_reducible refine (giroref23_valid.calls kj55 2 a0_11 true _ A65.out).mono ?_); rintro e w70 ⟨rfl, hb⟩; refine ⟨_, rfl, ?_⟩; have n0_ := Aside0.mk (blk_below (g := gb172) (o := .cells #[.int .i64 a0_0, .string a0_1, .string a0_2, .string a0_3, .int .i64 a0_4, .int .i64 a0_5, .int .i64 a0_6, .int .i64 a0_7, .int .i64 a0_8, .bool a0_9, .int .i64 a0_10, .string a0_11, .string a0_12] 24 (0, 0)) (by (with_reducible repeat (first | refine blk_drewN ?_ _ | refine blk_drew ?_ | refine blk_alloc ?_ _)); exact BK172.out) hb); have n1_ := Aside0.mk (below_step (by repeat (first | (with_reducible first | exact HB.out | apply below_alloc | apply pw_below_drewN | apply below_drew1 | refine below_set ?_ GE172.out) | exact HB.out)) hb); clear BK172; clear HB; have BK172 := n0_; have HB := n1_; clear n0_ n1_; (try clear hb); (try clear hb2); (try clear hk); (try clear hi); have hcz71_0 : w70.cell? ⟨gb172, 0, none⟩ = some (.int .i64 a0_0) := (blk_cell BK172.out 0).trans rfl; have hcz71_1 : w70.cell? ⟨gb172, 1, none⟩ = some (.string a0_1) := (blk_cell BK172.out 1).trans rfl; have hcz71_2 : w70.cell? ⟨gb172, 2, none⟩ = some (.string a0_2) := (blk_cell BK172.out 2).trans rfl; have hcz71_3 : w70.cell? ⟨gb172, 3, none⟩ = some (.string a0_3) := (blk_cell BK172.out 3).trans rfl; have hcz71_4 : w70.cell? ⟨gb172, 4, none⟩ = some (.int .i64 a0_4) := (blk_cell BK172.out 4).trans rfl; have hcz71_5 : w70.cell? ⟨gb172, 5, none⟩ = some (.int .i64 a0_5) := (blk_cell BK172.out 5).trans rfl; have hcz71_6 : w70.cell? ⟨gb172, 6, none⟩ = some (.int .i64 a0_6) := (blk_cell BK172.out 6).trans rfl; have hcz71_7 : w70.cell? ⟨gb172, 7, none⟩ = some (.int .i64 a0_7) := (blk_cell BK172.out 7).trans rfl; have hcz71_8 : w70.cell? ⟨gb172, 8, none⟩ = some (.int .i64 a0_8) := (blk_cell BK172.out 8).trans rfl; have hcz71_9 : w70.cell? ⟨gb172, 9, none⟩ = some (.bool a0_9) := (blk_cell BK172.out 9).trans rfl; have hcz71_10 : w70.cell? ⟨gb172, 10, none⟩ = some (.int .i64 a0_10) := (blk_cell BK172.out 10).trans rfl; have hcz71_11 : w70.cell? ⟨gb172, 11, none⟩ = some (.string a0_11) := (blk_cell BK172.out 11).trans rfl; have hcz71_12 : w70.cell? ⟨gb172, 12, none⟩ = some (.string a0_12) := (blk_cell BK172.out 12).trans rfl; have hfz71_0 := blk_frozen BK172.out 0; have hfz71_1 := blk_frozen BK172.out 1; have hfz71_2 := blk_frozen BK172.out 2; have hfz71_3 := blk_frozen BK172.out 3; have hfz71_4 := blk_frozen BK172.out 4; have hfz71_5 := blk_frozen BK172.out 5; have hfz71_6 := blk_frozen BK172.out 6; have hfz71_7 := blk_frozen BK172.out 7; have hfz71_8 := blk_frozen BK172.out 8; have hfz71_9 := blk_frozen BK172.out 9; have hfz71_10 := blk_frozen BK172.out 10; have hfz71_11 := blk_frozen BK172.out 11; have hfz71_12 := blk_frozen BK172.out 12) | (go_at_call 25; (with_reducible refine (giroref23_valid.calls kj55 2 a0_12 true _ A67.out).mono ?_); rintro e w72 ⟨rfl, hb⟩; have n0_ := Aside0.mk (blk_below (g := gb172) (o := .cells #[.int .i64 a0_0, .string a0_1, .string a0_2, .string a0_3, .int .i64 a0_4, .int .i64 a0_5, .int .i64 a0_6, .int .i64 a0_7, .int .i64 a0_8, .bool a0_9, .int .i64 a0_10, .string a0_11, .string a0_12] 24 (0, 0)) (by (with_reducible repeat (first | refine blk_drewN ?_ _ | refine blk_drew ?_ | refine blk_alloc ?_ _)); exact BK172.out) hb); have n1_ := Aside0.mk (below_step (by repeat (first | (with_reducible first | exact HB.out | apply below_alloc | apply pw_below_drewN | apply below_drew1 | refine below_set ?_ GE172.out) | exact HB.out)) hb); clear BK172; clear HB; have BK172 := n0_; have HB := n1_; clear n0_ n1_; (try clear hb); (try clear hb2); (try clear hk); (try clear hi)))
                       go_ret
                       exact ⟨by first | rfl | (simp [errW_none, errW_some] <;> rfl) | (simp [*, errW_none, errW_some] <;> rfl), by repeat (first | (with_reducible first | exact HB.out | apply below_alloc | apply pw_below_drewN | apply below_drew1 | refine below_set ?_ GE172.out) | exact HB.out)⟩
                      ·replace c68 := Bool.eq_false_iff.mpr c68
                       subst c68
                       have H1 : (some 6) = some r := by rw [if_neg (show ¬ (false = true) by decide)] at H; exact H
                       clear H
                       have H := H1
                       clear H1
                       obtain rfl := Option.some.inj H
                       have hcz73_0 : wc.cell? ⟨gb172, 0, none⟩ = some (.int .i64 a0_0) := (blk_cell BK172.out 0).trans rfl
                       have hcz73_1 : wc.cell? ⟨gb172, 1, none⟩ = some (.string a0_1) := (blk_cell BK172.out 1).trans rfl
                       have hcz73_2 : wc.cell? ⟨gb172, 2, none⟩ = some (.string a0_2) := (blk_cell BK172.out 2).trans rfl
                       have hcz73_3 : wc.cell? ⟨gb172, 3, none⟩ = some (.string a0_3) := (blk_cell BK172.out 3).trans rfl
                       have hcz73_4 : wc.cell? ⟨gb172, 4, none⟩ = some (.int .i64 a0_4) := (blk_cell BK172.out 4).trans rfl
                       have hcz73_5 : wc.cell? ⟨gb172, 5, none⟩ = some (.int .i64 a0_5) := (blk_cell BK172.out 5).trans rfl
                       have hcz73_6 : wc.cell? ⟨gb172, 6, none⟩ = some (.int .i64 a0_6) := (blk_cell BK172.out 6).trans rfl
                       have hcz73_7 : wc.cell? ⟨gb172, 7, none⟩ = some (.int .i64 a0_7) := (blk_cell BK172.out 7).trans rfl
                       have hcz73_8 : wc.cell? ⟨gb172, 8, none⟩ = some (.int .i64 a0_8) := (blk_cell BK172.out 8).trans rfl
                       have hcz73_9 : wc.cell? ⟨gb172, 9, none⟩ = some (.bool a0_9) := (blk_cell BK172.out 9).trans rfl
                       have hcz73_10 : wc.cell? ⟨gb172, 10, none⟩ = some (.int .i64 a0_10) := (blk_cell BK172.out 10).trans rfl
                       have hcz73_11 : wc.cell? ⟨gb172, 11, none⟩ = some (.string a0_11) := (blk_cell BK172.out 11).trans rfl
                       have hcz73_12 : wc.cell? ⟨gb172, 12, none⟩ = some (.string a0_12) := (blk_cell BK172.out 12).trans rfl
                       have hfz73_0 := blk_frozen BK172.out 0
                       have hfz73_1 := blk_frozen BK172.out 1
                       have hfz73_2 := blk_frozen BK172.out 2
                       have hfz73_3 := blk_frozen BK172.out 3
                       have hfz73_4 := blk_frozen BK172.out 4
                       have hfz73_5 := blk_frozen BK172.out 5
                       have hfz73_6 := blk_frozen BK172.out 6
                       have hfz73_7 := blk_frozen BK172.out 7
                       have hfz73_8 := blk_frozen BK172.out 8
                       have hfz73_9 := blk_frozen BK172.out 9
                       have hfz73_10 := blk_frozen BK172.out 10
                       have hfz73_11 := blk_frozen BK172.out 11
                       have hfz73_12 := blk_frozen BK172.out 12
                       go_wp2_with (first | ((with_reducible refine gate_callee (f := 25) rfl ?_); refine goesL_ (some 118) rfl rfl Tryd.func25 (by kernel_rfl) rfl #[.int .i64 2, .string a0_11] rfl (by (try simp only [List.map_toArray, List.map_cons, List.map_nil]); first | done | rfl | (simp only [List.length_drop, List.length_take]; rfl)) ?_; (with_reducible refine (giroref23_valid.calls kj55 2 a0_11 true _ A65.out).mono ?_); rintro e w74 ⟨rfl, hb⟩; refine ⟨_, rfl, ?_⟩; have n0_ := Aside0.mk (blk_below (g := gb172) (o := .cells #[.int .i64 a0_0, .string a0_1, .string a0_2, .string a0_3, .int .i64 a0_4, .int .i64 a0_5, .int .i64 a0_6, .int .i64 a0_7, .int .i64 a0_8, .bool a0_9, .int .i64 a0_10, .string a0_11, .string a0_12] 24 (0, 0)) (by (with_reducible repeat (first | refine blk_drewN ?_ _ | refine blk_drew ?_ | refine blk_alloc ?_ _)); exact BK172.out) hb); have n1_ := Aside0.mk (below_step (by repeat (first | (with_reducible first | exact HB.out | apply below_alloc | apply pw_below_drewN | apply below_drew1 | refine below_set ?_ GE172.out) | exact HB.out)) hb); clear BK172; clear HB; have BK172 := n0_; have HB := n1_; clear n0_ n1_; (try clear hb); (try clear hb2); (try clear hk); (try clear hi); have hcz75_0 : w74.cell? ⟨gb172, 0, none⟩ = some (.int .i64 a0_0) := (blk_cell BK172.out 0).trans rfl; have hcz75_1 : w74.cell? ⟨gb172, 1, none⟩ = some (.string a0_1) := (blk_cell BK172.out 1).trans rfl; have hcz75_2 : w74.cell? ⟨gb172, 2, none⟩ = some (.string a0_2) := (blk_cell BK172.out 2).trans rfl; have hcz75_3 : w74.cell? ⟨gb172, 3, none⟩ = some (.string a0_3) := (blk_cell BK172.out 3).trans rfl; have hcz75_4 : w74.cell? ⟨gb172, 4, none⟩ = some (.int .i64 a0_4) := (blk_cell BK172.out 4).trans rfl; have hcz75_5 : w74.cell? ⟨gb172, 5, none⟩ = some (.int .i64 a0_5) := (blk_cell BK172.out 5).trans rfl; have hcz75_6 : w74.cell? ⟨gb172, 6, none⟩ = some (.int .i64 a0_6) := (blk_cell BK172.out 6).trans rfl; have hcz75_7 : w74.cell? ⟨gb172, 7, none⟩ = some (.int .i64 a0_7) := (blk_cell BK172.out 7).trans rfl; have hcz75_8 : w74.cell? ⟨gb172, 8, none⟩ = some (.int .i64 a0_8) := (blk_cell BK172.out 8).trans rfl; have hcz75_9 : w74.cell? ⟨gb172, 9, none⟩ = some (.bool a0_9) := (blk_cell BK172.out 9).trans rfl; have hcz75_10 : w74.cell? ⟨gb172, 10, none⟩ = some (.int .i64 a0_10) := (blk_cell BK172.out 10).trans rfl; have hcz75_11 : w74.cell? ⟨gb172, 11, none⟩ = some (.string a0_11) := (blk_cell BK172.out 11).trans rfl; have hcz75_12 : w74.cell? ⟨gb172, 12, none⟩ = some (.string a0_12) := (blk_cell BK172.out 12).trans rfl; have hfz75_0 := blk_frozen BK172.out 0; have hfz75_1 := blk_frozen BK172.out 1; have hfz75_2 := blk_frozen BK172.out 2; have hfz75_3 := blk_frozen BK172.out 3; have hfz75_4 := blk_frozen BK172.out 4; have hfz75_5 := blk_frozen BK172.out 5; have hfz75_6 := blk_frozen BK172.out 6; have hfz75_7 := blk_frozen BK172.out 7; have hfz75_8 := blk_frozen BK172.out 8; have hfz75_9 := blk_frozen BK172.out 9; have hfz75_10 := blk_frozen BK172.out 10; have hfz75_11 := blk_frozen BK172.out 11; have hfz75_12 := blk_frozen BK172.out 12) | (go_at_call 25; (with_reducible refine (giroref23_valid.calls kj55 2 a0_12 false _ A67.out).mono ?_); rintro e w76 ⟨rfl, hb⟩; have n0_ := Aside0.mk (blk_below (g := gb172) (o := .cells #[.int .i64 a0_0, .string a0_1, .string a0_2, .string a0_3, .int .i64 a0_4, .int .i64 a0_5, .int .i64 a0_6, .int .i64 a0_7, .int .i64 a0_8, .bool a0_9, .int .i64 a0_10, .string a0_11, .string a0_12] 24 (0, 0)) (by (with_reducible repeat (first | refine blk_drewN ?_ _ | refine blk_drew ?_ | refine blk_alloc ?_ _)); exact BK172.out) hb); have n1_ := Aside0.mk (below_step (by repeat (first | (with_reducible first | exact HB.out | apply below_alloc | apply pw_below_drewN | apply below_drew1 | refine below_set ?_ GE172.out) | exact HB.out)) hb); clear BK172; clear HB; have BK172 := n0_; have HB := n1_; clear n0_ n1_; (try clear hb); (try clear hb2); (try clear hk); (try clear hi)))
                       go_ret
                       exact ⟨by first | rfl | (simp [errW_none, errW_some] <;> rfl) | (simp [*, errW_none, errW_some] <;> rfl), by repeat (first | (with_reducible first | exact HB.out | apply below_alloc | apply pw_below_drewN | apply below_drew1 | refine below_set ?_ GE172.out) | exact HB.out)⟩
                     ·replace c66 := Bool.eq_false_iff.mpr c66
                      subst c66
                      have H1 : (some 6) = some r := by rw [if_neg (show ¬ (false = true) by decide)] at H; exact H
                      clear H
                      have H := H1
                      clear H1
                      obtain rfl := Option.some.inj H
                      have hcz77_0 : wc.cell? ⟨gb172, 0, none⟩ = some (.int .i64 a0_0) := (blk_cell BK172.out 0).trans rfl
                      have hcz77_1 : wc.cell? ⟨gb172, 1, none⟩ = some (.string a0_1) := (blk_cell BK172.out 1).trans rfl
                      have hcz77_2 : wc.cell? ⟨gb172, 2, none⟩ = some (.string a0_2) := (blk_cell BK172.out 2).trans rfl
                      have hcz77_3 : wc.cell? ⟨gb172, 3, none⟩ = some (.string a0_3) := (blk_cell BK172.out 3).trans rfl
                      have hcz77_4 : wc.cell? ⟨gb172, 4, none⟩ = some (.int .i64 a0_4) := (blk_cell BK172.out 4).trans rfl
                      have hcz77_5 : wc.cell? ⟨gb172, 5, none⟩ = some (.int .i64 a0_5) := (blk_cell BK172.out 5).trans rfl
                      have hcz77_6 : wc.cell? ⟨gb172, 6, none⟩ = some (.int .i64 a0_6) := (blk_cell BK172.out 6).trans rfl
                      have hcz77_7 : wc.cell? ⟨gb172, 7, none⟩ = some (.int .i64 a0_7) := (blk_cell BK172.out 7).trans rfl
                      have hcz77_8 : wc.cell? ⟨gb172, 8, none⟩ = some (.int .i64 a0_8) := (blk_cell BK172.out 8).trans rfl
                      have hcz77_9 : wc.cell? ⟨gb172, 9, none⟩ = some (.bool a0_9) := (blk_cell BK172.out 9).trans rfl
                      have hcz77_10 : wc.cell? ⟨gb172, 10, none⟩ = some (.int .i64 a0_10) := (blk_cell BK172.out 10).trans rfl
                      have hcz77_11 : wc.cell? ⟨gb172, 11, none⟩ = some (.string a0_11) := (blk_cell BK172.out 11).trans rfl
                      have hcz77_12 : wc.cell? ⟨gb172, 12, none⟩ = some (.string a0_12) := (blk_cell BK172.out 12).trans rfl
                      have hfz77_0 := blk_frozen BK172.out 0
                      have hfz77_1 := blk_frozen BK172.out 1
                      have hfz77_2 := blk_frozen BK172.out 2
                      have hfz77_3 := blk_frozen BK172.out 3
                      have hfz77_4 := blk_frozen BK172.out 4
                      have hfz77_5 := blk_frozen BK172.out 5
                      have hfz77_6 := blk_frozen BK172.out 6
                      have hfz77_7 := blk_frozen BK172.out 7
                      have hfz77_8 := blk_frozen BK172.out 8
                      have hfz77_9 := blk_frozen BK172.out 9
                      have hfz77_10 := blk_frozen BK172.out 10
                      have hfz77_11 := blk_frozen BK172.out 11
                      have hfz77_12 := blk_frozen BK172.out 12
                      go_wp2_with (first | ((with_reducible refine gate_callee (f := 25) rfl ?_); refine goesL_ (some 118) rfl rfl Tryd.func25 (by kernel_rfl) rfl #[.int .i64 2, .string a0_11] rfl (by (try simp only [List.map_toArray, List.map_cons, List.map_nil]); first | done | rfl | (simp only [List.length_drop, List.length_take]; rfl)) ?_; (with_reducible refine (giroref23_valid.calls kj55 2 a0_11 false _ A65.out).mono ?_); rintro e w78 ⟨rfl, hb⟩; refine ⟨_, rfl, ?_⟩; have n0_ := Aside0.mk (blk_below (g := gb172) (o := .cells #[.int .i64 a0_0, .string a0_1, .string a0_2, .string a0_3, .int .i64 a0_4, .int .i64 a0_5, .int .i64 a0_6, .int .i64 a0_7, .int .i64 a0_8, .bool a0_9, .int .i64 a0_10, .string a0_11, .string a0_12] 24 (0, 0)) (by (with_reducible repeat (first | refine blk_drewN ?_ _ | refine blk_drew ?_ | refine blk_alloc ?_ _)); exact BK172.out) hb); have n1_ := Aside0.mk (below_step (by repeat (first | (with_reducible first | exact HB.out | apply below_alloc | apply pw_below_drewN | apply below_drew1 | refine below_set ?_ GE172.out) | exact HB.out)) hb); clear BK172; clear HB; have BK172 := n0_; have HB := n1_; clear n0_ n1_; (try clear hb); (try clear hb2); (try clear hk); (try clear hi)))
                      go_ret
                      exact ⟨by first | rfl | (simp [errW_none, errW_some] <;> rfl) | (simp [*, errW_none, errW_some] <;> rfl), by repeat (first | (with_reducible first | exact HB.out | apply below_alloc | apply pw_below_drewN | apply below_drew1 | refine below_set ?_ GE172.out) | exact HB.out)⟩
        ·replace c22 := Bool.eq_false_iff.mpr c22
         subst c22
         have H1 : (some 6) = some r := by rw [if_neg (show ¬ (false = true) by decide)] at H; exact H
         clear H
         have H := H1
         clear H1
         obtain rfl := Option.some.inj H
         have hcz79_0 : wc.cell? ⟨gb172, 0, none⟩ = some (.int .i64 a0_0) := (blk_cell BK172.out 0).trans rfl
         have hcz79_1 : wc.cell? ⟨gb172, 1, none⟩ = some (.string a0_1) := (blk_cell BK172.out 1).trans rfl
         have hcz79_2 : wc.cell? ⟨gb172, 2, none⟩ = some (.string a0_2) := (blk_cell BK172.out 2).trans rfl
         have hcz79_3 : wc.cell? ⟨gb172, 3, none⟩ = some (.string a0_3) := (blk_cell BK172.out 3).trans rfl
         have hcz79_4 : wc.cell? ⟨gb172, 4, none⟩ = some (.int .i64 a0_4) := (blk_cell BK172.out 4).trans rfl
         have hcz79_5 : wc.cell? ⟨gb172, 5, none⟩ = some (.int .i64 a0_5) := (blk_cell BK172.out 5).trans rfl
         have hcz79_6 : wc.cell? ⟨gb172, 6, none⟩ = some (.int .i64 a0_6) := (blk_cell BK172.out 6).trans rfl
         have hcz79_7 : wc.cell? ⟨gb172, 7, none⟩ = some (.int .i64 a0_7) := (blk_cell BK172.out 7).trans rfl
         have hcz79_8 : wc.cell? ⟨gb172, 8, none⟩ = some (.int .i64 a0_8) := (blk_cell BK172.out 8).trans rfl
         have hcz79_9 : wc.cell? ⟨gb172, 9, none⟩ = some (.bool a0_9) := (blk_cell BK172.out 9).trans rfl
         have hcz79_10 : wc.cell? ⟨gb172, 10, none⟩ = some (.int .i64 a0_10) := (blk_cell BK172.out 10).trans rfl
         have hcz79_11 : wc.cell? ⟨gb172, 11, none⟩ = some (.string a0_11) := (blk_cell BK172.out 11).trans rfl
         have hcz79_12 : wc.cell? ⟨gb172, 12, none⟩ = some (.string a0_12) := (blk_cell BK172.out 12).trans rfl
         have hfz79_0 := blk_frozen BK172.out 0
         have hfz79_1 := blk_frozen BK172.out 1
         have hfz79_2 := blk_frozen BK172.out 2
         have hfz79_3 := blk_frozen BK172.out 3
         have hfz79_4 := blk_frozen BK172.out 4
         have hfz79_5 := blk_frozen BK172.out 5
         have hfz79_6 := blk_frozen BK172.out 6
         have hfz79_7 := blk_frozen BK172.out 7
         have hfz79_8 := blk_frozen BK172.out 8
         have hfz79_9 := blk_frozen BK172.out 9
         have hfz79_10 := blk_frozen BK172.out 10
         have hfz79_11 := blk_frozen BK172.out 11
         have hfz79_12 := blk_frozen BK172.out 12
         go_wp2_with (first | ((with_reducible refine gate_callee (f := 25) rfl ?_); refine goesL_ (some 28) rfl rfl Tryd.func25 (by kernel_rfl) rfl #[.int .i64 0, .string a0_3] rfl (by (try simp only [List.map_toArray, List.map_cons, List.map_nil]); first | done | rfl | (simp only [List.length_drop, List.length_take]; rfl)) ?_; (with_reducible refine (giroref23_valid.calls kj7 0 a0_3 false _ A21.out).mono ?_); rintro e w80 ⟨rfl, hb⟩; refine ⟨_, rfl, ?_⟩; have n0_ := Aside0.mk (blk_below (g := gb172) (o := .cells #[.int .i64 a0_0, .string a0_1, .string a0_2, .string a0_3, .int .i64 a0_4, .int .i64 a0_5, .int .i64 a0_6, .int .i64 a0_7, .int .i64 a0_8, .bool a0_9, .int .i64 a0_10, .string a0_11, .string a0_12] 24 (0, 0)) (by (with_reducible repeat (first | refine blk_drewN ?_ _ | refine blk_drew ?_ | refine blk_alloc ?_ _)); exact BK172.out) hb); have n1_ := Aside0.mk (below_step (by repeat (first | (with_reducible first | exact HB.out | apply below_alloc | apply pw_below_drewN | apply below_drew1 | refine below_set ?_ GE172.out) | exact HB.out)) hb); clear BK172; clear HB; have BK172 := n0_; have HB := n1_; clear n0_ n1_; (try clear hb); (try clear hb2); (try clear hk); (try clear hi)))
         go_ret
         exact ⟨by first | rfl | (simp [errW_none, errW_some] <;> rfl) | (simp [*, errW_none, errW_some] <;> rfl), by repeat (first | (with_reducible first | exact HB.out | apply below_alloc | apply pw_below_drewN | apply below_drew1 | refine below_set ?_ GE172.out) | exact HB.out)⟩
end Go.Proofs.YtpclapnmiacfpaaDoor.Q
end
section
namespace Go.Proofs.YtpclapnmiacfpaaDoor.Q
open Go.RowKit Go.Proofs.YtpclapnmiacfpaaDoorW.PrintWords Go.Proofs.YtpclapnmiacfpaaDoorW.PrintLast Go.Proofs.YtpclapnmiacfpaaDoorW.PrintMore
attribute [local go_sem] max2_int min2_int max_two min_two max_three min_three max_four min_four
set_option linter.unusedVariables false
set_option linter.unusedSimpArgs false
def girolaw23_Of.f (a0_0 : Int) (a0_1 : ByteArray) (a0_2 : ByteArray) (a0_3 : ByteArray) (a0_4 : Int) (a0_5 : Int) (a0_6 : Int) (a0_7 : Int) (a0_8 : Int) (a0_9 : Bool) (a0_10 : Int) (a0_11 : ByteArray) (a0_12 : ByteArray) : Option (Int × ByteArray × ByteArray × ByteArray × Int × Int × Int × Int × Int × Bool × Int × ByteArray × ByteArray) := some (a0_0, a0_1, a0_2, a0_3, a0_4, a0_5, a0_6, a0_7, a0_8, a0_9, a0_10, a0_11, a0_12)
set_option maxHeartbeats 8000000 in
set_option maxRecDepth 100000 in
theorem girolaw23_Of.calls (a0_0 : Int) (a0_1 : ByteArray) (a0_2 : ByteArray) (a0_3 : ByteArray) (a0_4 : Int) (a0_5 : Int) (a0_6 : Int) (a0_7 : Int) (a0_8 : Int) (a0_9 : Bool) (a0_10 : Int) (a0_11 : ByteArray) (a0_12 : ByteArray) (r1 : Int) (r2 : ByteArray) (r3 : ByteArray) (r4 : ByteArray) (r5 : Int) (r6 : Int) (r7 : Int) (r8 : Int) (r9 : Int) (r10 : Bool) (r11 : Int) (r12 : ByteArray) (r13 : ByteArray) (w : World) (h : girolaw23_Of.f a0_0 a0_1 a0_2 a0_3 a0_4 a0_5 a0_6 a0_7 a0_8 a0_9 a0_10 a0_11 a0_12 = some (r1, r2, r3, r4, r5, r6, r7, r8, r9, r10, r11, r12, r13)) :
  Calls Tryd.prog 11 #[.agg #[.int .i64 a0_0, .string a0_1, .string a0_2, .string a0_3, .int .i64 a0_4, .int .i64 a0_5, .int .i64 a0_6, .int .i64 a0_7, .int .i64 a0_8, .bool a0_9, .int .i64 a0_10, .string a0_11, .string a0_12]] w fun e w' => e = .returned (.agg #[.int .i64 r1, .string r2, .string r3, .string r4, .int .i64 r5, .int .i64 r6, .int .i64 r7, .int .i64 r8, .int .i64 r9, .bool r10, .int .i64 r11, .string r12, .string r13]) ∧ Below w.heap.size w w' := by
 have hu24 := Tryd.underlying24
 have hu31 := Tryd.underlying31
 have hu22 := Tryd.underlying22
 have HB := Aside0.mk (Below.refl w.heap.size w)
 have H : (some (a0_0, a0_1, a0_2, a0_3, a0_4, a0_5, a0_6, a0_7, a0_8, a0_9, a0_10, a0_11, a0_12)) = some (r1, r2, r3, r4, r5, r6, r7, r8, r9, r10, r11, r12, r13) := h
 clear h
 simp only [Option.some.injEq, Prod.mk.injEq] at H
 obtain ⟨rfl, rfl, rfl, rfl, rfl, rfl, rfl, rfl, rfl, rfl, rfl, rfl, rfl⟩ := H
 go_enter Tryd.func11, Tryd.ntmps11
 go_wp2_with (first | ((with_reducible refine gate_dst (N := 1) rfl ?_); refine box_event ?hg (N := 1) ?hd (cs := #[.int .i64 a0_0, .string a0_1, .string a0_2, .string a0_3, .int .i64 a0_4, .int .i64 a0_5, .int .i64 a0_6, .int .i64 a0_7, .int .i64 a0_8, .bool a0_9, .int .i64 a0_10, .string a0_11, .string a0_12]) (t := 24) ?hr ?_; (case hd => rfl); (case hg => rfl); (case hr => first | (go_simp; done) | (go_simp; rfl)); intro gb178 hg w2 hbox hb; have n0_ := Aside0.mk (below_step (by repeat (first | (with_reducible first | exact HB.out | apply below_alloc | apply pw_below_drewN | apply below_drew1) | exact HB.out)) hb); have n1_ := Aside0.mk (hbox); have n2_ := Aside0.mk ((by rw [hg]; exact (below_size (by repeat (first | (with_reducible first | exact HB.out | apply below_alloc | apply pw_below_drewN | apply below_drew1) | exact HB.out))) : w.heap.size ≤ gb178)); have n3_ := Aside0.mk ((by rw [hg]; exact (below_size (by repeat (first | (with_reducible first | exact HB.out | apply below_alloc | apply pw_below_drewN | apply below_drew1) | exact HB.out))) : w.heap.size ≤ gb178)); clear HB; have HB := n0_; have BK178 := n1_; have GW178 := n2_; have GE178 := n3_; clear n0_ n1_ n2_ n3_; clear hb hbox hg) | ((with_reducible refine gate_dst (N := 2) rfl ?_); refine box_event ?hg (N := 2) ?hd (cs := #[.int .i64 0, .string (⟨#[]⟩ : ByteArray), .string (⟨#[]⟩ : ByteArray), .string (⟨#[]⟩ : ByteArray), .int .i64 0, .int .i64 0, .int .i64 0, .int .i64 0, .int .i64 0, .bool false, .int .i64 0, .string (⟨#[]⟩ : ByteArray), .string (⟨#[]⟩ : ByteArray)]) (t := 31) ?hr ?_; (case hd => rfl); (case hg => rfl); (case hr => first | (go_simp; done) | (go_simp; rfl)); intro gb179 hg w3 hbox hb; have n0_ := Aside0.mk (blk_below (g := gb178) (o := .cells #[.int .i64 a0_0, .string a0_1, .string a0_2, .string a0_3, .int .i64 a0_4, .int .i64 a0_5, .int .i64 a0_6, .int .i64 a0_7, .int .i64 a0_8, .bool a0_9, .int .i64 a0_10, .string a0_11, .string a0_12] 24 (0, 0)) (by (with_reducible repeat (first | refine blk_drewN ?_ _ | refine blk_drew ?_ | refine blk_alloc ?_ _)); exact BK178.out) hb); have n1_ := Aside0.mk (below_step (by repeat (first | (with_reducible first | exact HB.out | apply below_alloc | apply pw_below_drewN | apply below_drew1 | refine below_set ?_ GE178.out) | exact HB.out)) hb); have n2_ := Aside0.mk (hbox); have n3_ := Aside0.mk ((by rw [hg]; exact (below_size (by repeat (first | (with_reducible first | exact HB.out | apply below_alloc | apply pw_below_drewN | apply below_drew1 | refine below_set ?_ GE178.out) | exact HB.out))) : w.heap.size ≤ gb179)); have n4_ := Aside0.mk ((by rw [hg]; exact (below_size (by repeat (first | (with_reducible first | exact HB.out | apply below_alloc | apply pw_below_drewN | apply below_drew1 | refine below_set ?_ GE178.out) | exact HB.out))) : w.heap.size ≤ gb179)); have n5_ := Aside0.mk ((by rw [hg]; exact Nat.ne_of_lt (blk_lt (g := gb178) (o := .cells #[.int .i64 a0_0, .string a0_1, .string a0_2, .string a0_3, .int .i64 a0_4, .int .i64 a0_5, .int .i64 a0_6, .int .i64 a0_7, .int .i64 a0_8, .bool a0_9, .int .i64 a0_10, .string a0_11, .string a0_12] 24 (0, 0)) (by (with_reducible repeat (first | refine blk_drewN ?_ _ | refine blk_drew ?_ | refine blk_alloc ?_ _)); exact BK178.out)) : gb178 ≠ gb179)); have n6_ := Aside0.mk ((by rw [hg]; exact Nat.ne_of_gt (blk_lt (g := gb178) (o := .cells #[.int .i64 a0_0, .string a0_1, .string a0_2, .string a0_3, .int .i64 a0_4, .int .i64 a0_5, .int .i64 a0_6, .int .i64 a0_7, .int .i64 a0_8, .bool a0_9, .int .i64 a0_10, .string a0_11, .string a0_12] 24 (0, 0)) (by (with_reducible repeat (first | refine blk_drewN ?_ _ | refine blk_drew ?_ | refine blk_alloc ?_ _)); exact BK178.out)) : gb179 ≠ gb178)); clear BK178; clear HB; have BK178 := n0_; have HB := n1_; have BK179 := n2_; have GW179 := n3_; have GE179 := n4_; have NB178_179 := n5_; have NB179_178 := n6_; clear n0_ n1_ n2_ n3_ n4_ n5_ n6_; clear hb hbox hg; have hnb4 := NB178_179.out; have hnc4 := NB179_178.out; have hcz5_0 : w3.cell? ⟨gb178, 0, none⟩ = some (.int .i64 a0_0) := (blk_cell BK178.out 0).trans rfl; have hcz5_1 : w3.cell? ⟨gb178, 1, none⟩ = some (.string a0_1) := (blk_cell BK178.out 1).trans rfl; have hcz5_2 : w3.cell? ⟨gb178, 2, none⟩ = some (.string a0_2) := (blk_cell BK178.out 2).trans rfl; have hcz5_3 : w3.cell? ⟨gb178, 3, none⟩ = some (.string a0_3) := (blk_cell BK178.out 3).trans rfl; have hcz5_4 : w3.cell? ⟨gb178, 4, none⟩ = some (.int .i64 a0_4) := (blk_cell BK178.out 4).trans rfl; have hcz5_5 : w3.cell? ⟨gb178, 5, none⟩ = some (.int .i64 a0_5) := (blk_cell BK178.out 5).trans rfl; have hcz5_6 : w3.cell? ⟨gb178, 6, none⟩ = some (.int .i64 a0_6) := (blk_cell BK178.out 6).trans rfl; have hcz5_7 : w3.cell? ⟨gb178, 7, none⟩ = some (.int .i64 a0_7) := (blk_cell BK178.out 7).trans rfl; have hcz5_8 : w3.cell? ⟨gb178, 8, none⟩ = some (.int .i64 a0_8) := (blk_cell BK178.out 8).trans rfl; have hcz5_9 : w3.cell? ⟨gb178, 9, none⟩ = some (.bool a0_9) := (blk_cell BK178.out 9).trans rfl; have hcz5_10 : w3.cell? ⟨gb178, 10, none⟩ = some (.int .i64 a0_10) := (blk_cell BK178.out 10).trans rfl; have hcz5_11 : w3.cell? ⟨gb178, 11, none⟩ = some (.string a0_11) := (blk_cell BK178.out 11).trans rfl; have hcz5_12 : w3.cell? ⟨gb178, 12, none⟩ = some (.string a0_12) := (blk_cell BK178.out 12).trans rfl; have hfz5_0 := blk_frozen BK178.out 0; have hfz5_1 := blk_frozen BK178.out 1; have hfz5_2 := blk_frozen BK178.out 2; have hfz5_3 := blk_frozen BK178.out 3; have hfz5_4 := blk_frozen BK178.out 4; have hfz5_5 := blk_frozen BK178.out 5; have hfz5_6 := blk_frozen BK178.out 6; have hfz5_7 := blk_frozen BK178.out 7; have hfz5_8 := blk_frozen BK178.out 8; have hfz5_9 := blk_frozen BK178.out 9; have hfz5_10 := blk_frozen BK178.out 10; have hfz5_11 := blk_frozen BK178.out 11; have hfz5_12 := blk_frozen BK178.out 12; have hcz6_0 : w3.cell? ⟨gb179, 0, none⟩ = some (.int .i64 0) := (blk_cell BK179.out 0).trans rfl; have hcz6_1 : w3.cell? ⟨gb179, 1, none⟩ = some (.string (⟨#[]⟩ : ByteArray)) := (blk_cell BK179.out 1).trans rfl; have hcz6_2 : w3.cell? ⟨gb179, 2, none⟩ = some (.string (⟨#[]⟩ : ByteArray)) := (blk_cell BK179.out 2).trans rfl; have hcz6_3 : w3.cell? ⟨gb179, 3, none⟩ = some (.string (⟨#[]⟩ : ByteArray)) := (blk_cell BK179.out 3).trans rfl; have hcz6_4 : w3.cell? ⟨gb179, 4, none⟩ = some (.int .i64 0) := (blk_cell BK179.out 4).trans rfl; have hcz6_5 : w3.cell? ⟨gb179, 5, none⟩ = some (.int .i64 0) := (blk_cell BK179.out 5).trans rfl; have hcz6_6 : w3.cell? ⟨gb179, 6, none⟩ = some (.int .i64 0) := (blk_cell BK179.out 6).trans rfl; have hcz6_7 : w3.cell? ⟨gb179, 7, none⟩ = some (.int .i64 0) := (blk_cell BK179.out 7).trans rfl; have hcz6_8 : w3.cell? ⟨gb179, 8, none⟩ = some (.int .i64 0) := (blk_cell BK179.out 8).trans rfl; have hcz6_9 : w3.cell? ⟨gb179, 9, none⟩ = some (.bool false) := (blk_cell BK179.out 9).trans rfl; have hcz6_10 : w3.cell? ⟨gb179, 10, none⟩ = some (.int .i64 0) := (blk_cell BK179.out 10).trans rfl; have hcz6_11 : w3.cell? ⟨gb179, 11, none⟩ = some (.string (⟨#[]⟩ : ByteArray)) := (blk_cell BK179.out 11).trans rfl; have hcz6_12 : w3.cell? ⟨gb179, 12, none⟩ = some (.string (⟨#[]⟩ : ByteArray)) := (blk_cell BK179.out 12).trans rfl; have hfz6_0 := blk_frozen BK179.out 0; have hfz6_1 := blk_frozen BK179.out 1; have hfz6_2 := blk_frozen BK179.out 2; have hfz6_3 := blk_frozen BK179.out 3; have hfz6_4 := blk_frozen BK179.out 4; have hfz6_5 := blk_frozen BK179.out 5; have hfz6_6 := blk_frozen BK179.out 6; have hfz6_7 := blk_frozen BK179.out 7; have hfz6_8 := blk_frozen BK179.out 8; have hfz6_9 := blk_frozen BK179.out 9; have hfz6_10 := blk_frozen BK179.out 10; have hfz6_11 := blk_frozen BK179.out 11; have hfz6_12 := blk_frozen BK179.out 12))
 refine bodyPost_ret (results_cell_row rfl _ _ gb179 31 #[.int .i64 a0_0, .string a0_1, .string a0_2, .string a0_3, .int .i64 a0_4, .int .i64 a0_5, .int .i64 a0_6, .int .i64 a0_7, .int .i64 a0_8, .bool a0_9, .int .i64 a0_10, .string a0_11, .string a0_12] (0, 0) _ rfl (by (with_reducible repeat (first | refine blk_drewN ?_ _ | refine blk_drew ?_ | refine blk_alloc ?_ _)); refine blk_put (cs := #[.int .i64 a0_0, .string a0_1, .string a0_2, .string a0_3, .int .i64 a0_4, .int .i64 a0_5, .int .i64 a0_6, .int .i64 a0_7, .int .i64 a0_8, .bool a0_9, .int .i64 a0_10, .string a0_11, .string (⟨#[]⟩ : ByteArray)]) ?_ 12 _ rfl; (with_reducible repeat (first | refine blk_drewN ?_ _ | refine blk_drew ?_ | refine blk_alloc ?_ _)); refine blk_put (cs := #[.int .i64 a0_0, .string a0_1, .string a0_2, .string a0_3, .int .i64 a0_4, .int .i64 a0_5, .int .i64 a0_6, .int .i64 a0_7, .int .i64 a0_8, .bool a0_9, .int .i64 a0_10, .string (⟨#[]⟩ : ByteArray), .string (⟨#[]⟩ : ByteArray)]) ?_ 11 _ rfl; (with_reducible repeat (first | refine blk_drewN ?_ _ | refine blk_drew ?_ | refine blk_alloc ?_ _)); refine blk_put (cs := #[.int .i64 a0_0, .string a0_1, .string a0_2, .string a0_3, .int .i64 a0_4, .int .i64 a0_5, .int .i64 a0_6, .int .i64 a0_7, .int .i64 a0_8, .bool a0_9, .int .i64 0, .string (⟨#[]⟩ : ByteArray), .string (⟨#[]⟩ : ByteArray)]) ?_ 10 _ rfl; (with_reducible repeat (first | refine blk_drewN ?_ _ | refine blk_drew ?_ | refine blk_alloc ?_ _)); refine blk_put (cs := #[.int .i64 a0_0, .string a0_1, .string a0_2, .string a0_3, .int .i64 a0_4, .int .i64 a0_5, .int .i64 a0_6, .int .i64 a0_7, .int .i64 a0_8, .bool false, .int .i64 0, .string (⟨#[]⟩ : ByteArray), .string (⟨#[]⟩ : ByteArray)]) ?_ 9 _ rfl; (with_reducible repeat (first | refine blk_drewN ?_ _ | refine blk_drew ?_ | refine blk_alloc ?_ _)); refine blk_put (cs := #[.int .i64 a0_0, .string a0_1, .string a0_2, .string a0_3, .int .i64 a0_4, .int .i64 a0_5, .int .i64 a0_6, .int .i64 a0_7, .int .i64 0, .bool false, .int .i64 0, .string (⟨#[]⟩ : ByteArray), .string (⟨#[]⟩ : ByteArray)]) ?_ 8 _ rfl; (with_reducible repeat (first | refine blk_drewN ?_ _ | refine blk_drew ?_ | refine blk_alloc ?_ _)); refine blk_put (cs := #[.int .i64 a0_0, .string a0_1, .string a0_2, .string a0_3, .int .i64 a0_4, .int .i64 a0_5, .int .i64 a0_6, .int .i64 0, .int .i64 0, .bool false, .int .i64 0, .string (⟨#[]⟩ : ByteArray), .string (⟨#[]⟩ : ByteArray)]) ?_ 7 _ rfl; (with_reducible repeat (first | refine blk_drewN ?_ _ | refine blk_drew ?_ | refine blk_alloc ?_ _)); refine blk_put (cs := #[.int .i64 a0_0, .string a0_1, .string a0_2, .string a0_3, .int .i64 a0_4, .int .i64 a0_5, .int .i64 0, .int .i64 0, .int .i64 0, .bool false, .int .i64 0, .string (⟨#[]⟩ : ByteArray), .string (⟨#[]⟩ : ByteArray)]) ?_ 6 _ rfl; (with_reducible repeat (first | refine blk_drewN ?_ _ | refine blk_drew ?_ | refine blk_alloc ?_ _)); refine blk_put (cs := #[.int .i64 a0_0, .string a0_1, .string a0_2, .string a0_3, .int .i64 a0_4, .int .i64 0, .int .i64 0, .int .i64 0, .int .i64 0, .bool false, .int .i64 0, .string (⟨#[]⟩ : ByteArray), .string (⟨#[]⟩ : ByteArray)]) ?_ 5 _ rfl; (with_reducible repeat (first | refine blk_drewN ?_ _ | refine blk_drew ?_ | refine blk_alloc ?_ _)); refine blk_put (cs := #[.int .i64 a0_0, .string a0_1, .string a0_2, .string a0_3, .int .i64 0, .int .i64 0, .int .i64 0, .int .i64 0, .int .i64 0, .bool false, .int .i64 0, .string (⟨#[]⟩ : ByteArray), .string (⟨#[]⟩ : ByteArray)]) ?_ 4 _ rfl; (with_reducible repeat (first | refine blk_drewN ?_ _ | refine blk_drew ?_ | refine blk_alloc ?_ _)); refine blk_put (cs := #[.int .i64 a0_0, .string a0_1, .string a0_2, .string (⟨#[]⟩ : ByteArray), .int .i64 0, .int .i64 0, .int .i64 0, .int .i64 0, .int .i64 0, .bool false, .int .i64 0, .string (⟨#[]⟩ : ByteArray), .string (⟨#[]⟩ : ByteArray)]) ?_ 3 _ rfl; (with_reducible repeat (first | refine blk_drewN ?_ _ | refine blk_drew ?_ | refine blk_alloc ?_ _)); refine blk_put (cs := #[.int .i64 a0_0, .string a0_1, .string (⟨#[]⟩ : ByteArray), .string (⟨#[]⟩ : ByteArray), .int .i64 0, .int .i64 0, .int .i64 0, .int .i64 0, .int .i64 0, .bool false, .int .i64 0, .string (⟨#[]⟩ : ByteArray), .string (⟨#[]⟩ : ByteArray)]) ?_ 2 _ rfl; (with_reducible repeat (first | refine blk_drewN ?_ _ | refine blk_drew ?_ | refine blk_alloc ?_ _)); refine blk_put (cs := #[.int .i64 a0_0, .string (⟨#[]⟩ : ByteArray), .string (⟨#[]⟩ : ByteArray), .string (⟨#[]⟩ : ByteArray), .int .i64 0, .int .i64 0, .int .i64 0, .int .i64 0, .int .i64 0, .bool false, .int .i64 0, .string (⟨#[]⟩ : ByteArray), .string (⟨#[]⟩ : ByteArray)]) ?_ 1 _ rfl; (with_reducible repeat (first | refine blk_drewN ?_ _ | refine blk_drew ?_ | refine blk_alloc ?_ _)); refine blk_put (cs := #[.int .i64 0, .string (⟨#[]⟩ : ByteArray), .string (⟨#[]⟩ : ByteArray), .string (⟨#[]⟩ : ByteArray), .int .i64 0, .int .i64 0, .int .i64 0, .int .i64 0, .int .i64 0, .bool false, .int .i64 0, .string (⟨#[]⟩ : ByteArray), .string (⟨#[]⟩ : ByteArray)]) ?_ 0 _ rfl; (with_reducible repeat (first | refine blk_drewN ?_ _ | refine blk_drew ?_ | refine blk_alloc ?_ _)); exact BK179.out) Tryd.underlying31 rfl (by kernel_rfl)) rfl ?_
 exact ⟨by first | rfl | (simp [errW_none, errW_some] <;> rfl) | (simp [*, errW_none, errW_some] <;> rfl), by repeat (first | (with_reducible first | exact HB.out | apply below_alloc | apply pw_below_drewN | apply below_drew1 | refine below_set ?_ GE178.out | refine below_set ?_ GE179.out) | exact HB.out)⟩
end Go.Proofs.YtpclapnmiacfpaaDoor.Q
end
section
namespace Go.Proofs.YtpclapnmiacfpaaDoor.Q
open Go.RowKit Go.Proofs.YtpclapnmiacfpaaDoorW.PrintWords Go.Proofs.YtpclapnmiacfpaaDoorW.PrintLast Go.Proofs.YtpclapnmiacfpaaDoorW.PrintMore
attribute [local go_sem] max2_int min2_int max_two min_two max_three min_three max_four min_four
set_option linter.unusedVariables false
set_option linter.unusedSimpArgs false
def giroref39_Legs.f (a0_0 : Int) (a0_1 : ByteArray) (a0_2 : ByteArray) (a0_3 : ByteArray) (a0_4 : Int) (a0_5 : Int) (a0_6 : Int) (a0_7 : Int) (a0_8 : Int) (a0_9 : Bool) (a0_10 : Int) (a0_11 : ByteArray) (a0_12 : ByteArray) : Option ((List (S49))) := (some (([(⟨a0_1, a0_2, a0_3, a0_4⟩ : S49)] : List (S49)) : List (S49))).bind fun y181 => (if a0_0 = 1 then (if y181.length < 2513169434916 then (some (y181 ++ [(⟨a0_2, a0_1, (⟨#[67, 65, 83, 72]⟩ : ByteArray), a0_5⟩ : S49)])) else (none)) else (some y181))
set_option maxHeartbeats 8000000 in
set_option maxRecDepth 100000 in
theorem giroref39_Legs.calls (a0_0 : Int) (a0_1 : ByteArray) (a0_2 : ByteArray) (a0_3 : ByteArray) (a0_4 : Int) (a0_5 : Int) (a0_6 : Int) (a0_7 : Int) (a0_8 : Int) (a0_9 : Bool) (a0_10 : Int) (a0_11 : ByteArray) (a0_12 : ByteArray) (r : List (S49)) (w : World) (h : giroref39_Legs.f a0_0 a0_1 a0_2 a0_3 a0_4 a0_5 a0_6 a0_7 a0_8 a0_9 a0_10 a0_11 a0_12 = some r) :
  Calls Tryd.prog 20 #[.agg #[.int .i64 a0_0, .string a0_1, .string a0_2, .string a0_3, .int .i64 a0_4, .int .i64 a0_5, .int .i64 a0_6, .int .i64 a0_7, .int .i64 a0_8, .bool a0_9, .int .i64 a0_10, .string a0_11, .string a0_12]] w fun e w' => ∃ v0_ : Value, e = .returned (v0_) ∧ Kd.R k49 49 w' w.heap.size (fun _ => True) v0_ r ∧ Below w.heap.size w w' := by
 have hu24 := Tryd.underlying24
 have hu49 := Tryd.underlying49
 have HB := Aside0.mk (Below.refl w.heap.size w)
 have H : ((some (([(⟨a0_1, a0_2, a0_3, a0_4⟩ : S49)] : List (S49)) : List (S49))).bind fun y181 => (if a0_0 = 1 then (if y181.length < 2513169434916 then (some (y181 ++ [(⟨a0_2, a0_1, (⟨#[67, 65, 83, 72]⟩ : ByteArray), a0_5⟩ : S49)])) else (none)) else (some y181))) = some r := h
 clear h
 obtain ⟨y181, hy181⟩ : ∃ y_ : List (S49), y_ = (([(⟨a0_1, a0_2, a0_3, a0_4⟩ : S49)] : List (S49))) := ⟨_, rfl⟩
 replace H : (if a0_0 = 1 then (if y181.length < 2513169434916 then (some (y181 ++ [(⟨a0_2, a0_1, (⟨#[67, 65, 83, 72]⟩ : ByteArray), a0_5⟩ : S49)])) else (none)) else (some y181)) = some r := by first | (rw [hy181]; with_reducible exact H) | (have H2_ := (Option.bind_some _ _).symm.trans H; rw [hy181]; with_reducible exact H2_) | (have H2_ := (Option.bind_some _ _).symm.trans H; with_reducible exact H2_) | with_reducible exact H | (rw [hy181]; exact H) | exact H
 have Ny181 := Aside0.mk hy181
 clear hy181
 by_cases c2 : a0_0 = 1
 ·rw [if_pos c2] at H
  have c2b0 : (a0_0 == 1) = true := beq_iff_eq.mpr c2
  have c2b1 : (a0_0 != 1) = false := bne_eq_false_iff_eq.mpr c2
  clear c2
  by_cases c3 : y181.length < 2513169434916
  ·rw [if_pos c3] at H
   have LMc3 := Aside0.mk c3
   clear c3
   obtain ⟨y184, hy184⟩ : ∃ y_ : List (S49), y_ = (y181 ++ [(⟨a0_2, a0_1, (⟨#[67, 65, 83, 72]⟩ : ByteArray), a0_5⟩ : S49)]) := ⟨_, rfl⟩
   replace H : (some y184) = some r := by first | (rw [hy184]; with_reducible exact H) | (have H2_ := (Option.bind_some _ _).symm.trans H; rw [hy184]; with_reducible exact H2_) | (have H2_ := (Option.bind_some _ _).symm.trans H; with_reducible exact H2_) | with_reducible exact H | (rw [hy184]; exact H) | exact H
   have Ny184 := Aside0.mk hy184
   clear hy184
   obtain rfl := Option.some.inj H
   go_enter Tryd.func20, Tryd.ntmps20
   go_wp2_with (first | ((with_reducible refine gate_dst (N := 1) rfl ?_); refine box_event ?hg (N := 1) ?hd (cs := #[.int .i64 a0_0, .string a0_1, .string a0_2, .string a0_3, .int .i64 a0_4, .int .i64 a0_5, .int .i64 a0_6, .int .i64 a0_7, .int .i64 a0_8, .bool a0_9, .int .i64 a0_10, .string a0_11, .string a0_12]) (t := 24) ?hr ?_; (case hd => rfl); (case hg => rfl); (case hr => first | (go_simp; done) | (go_simp; rfl)); intro gb180 hg w4 hbox hb; have n0_ := Aside0.mk (below_step (by repeat (first | (with_reducible first | exact HB.out | apply below_alloc | apply pw_below_drewN | apply below_drew1) | exact HB.out)) hb); have n1_ := Aside0.mk (hbox); have n2_ := Aside0.mk ((by rw [hg]; exact (below_size (by repeat (first | (with_reducible first | exact HB.out | apply below_alloc | apply pw_below_drewN | apply below_drew1) | exact HB.out))) : w.heap.size ≤ gb180)); have n3_ := Aside0.mk ((by rw [hg]; exact (below_size (by repeat (first | (with_reducible first | exact HB.out | apply below_alloc | apply pw_below_drewN | apply below_drew1) | exact HB.out))) : w.heap.size ≤ gb180)); clear HB; have HB := n0_; have BK180 := n1_; have GW180 := n2_; have GE180 := n3_; clear n0_ n1_ n2_ n3_; clear hb hbox hg; have hcz5_0 : w4.cell? ⟨gb180, 0, none⟩ = some (.int .i64 a0_0) := (blk_cell BK180.out 0).trans rfl; have hcz5_1 : w4.cell? ⟨gb180, 1, none⟩ = some (.string a0_1) := (blk_cell BK180.out 1).trans rfl; have hcz5_2 : w4.cell? ⟨gb180, 2, none⟩ = some (.string a0_2) := (blk_cell BK180.out 2).trans rfl; have hcz5_3 : w4.cell? ⟨gb180, 3, none⟩ = some (.string a0_3) := (blk_cell BK180.out 3).trans rfl; have hcz5_4 : w4.cell? ⟨gb180, 4, none⟩ = some (.int .i64 a0_4) := (blk_cell BK180.out 4).trans rfl; have hcz5_5 : w4.cell? ⟨gb180, 5, none⟩ = some (.int .i64 a0_5) := (blk_cell BK180.out 5).trans rfl; have hcz5_6 : w4.cell? ⟨gb180, 6, none⟩ = some (.int .i64 a0_6) := (blk_cell BK180.out 6).trans rfl; have hcz5_7 : w4.cell? ⟨gb180, 7, none⟩ = some (.int .i64 a0_7) := (blk_cell BK180.out 7).trans rfl; have hcz5_8 : w4.cell? ⟨gb180, 8, none⟩ = some (.int .i64 a0_8) := (blk_cell BK180.out 8).trans rfl; have hcz5_9 : w4.cell? ⟨gb180, 9, none⟩ = some (.bool a0_9) := (blk_cell BK180.out 9).trans rfl; have hcz5_10 : w4.cell? ⟨gb180, 10, none⟩ = some (.int .i64 a0_10) := (blk_cell BK180.out 10).trans rfl; have hcz5_11 : w4.cell? ⟨gb180, 11, none⟩ = some (.string a0_11) := (blk_cell BK180.out 11).trans rfl; have hcz5_12 : w4.cell? ⟨gb180, 12, none⟩ = some (.string a0_12) := (blk_cell BK180.out 12).trans rfl; have hfz5_0 := blk_frozen BK180.out 0; have hfz5_1 := blk_frozen BK180.out 1; have hfz5_2 := blk_frozen BK180.out 2; have hfz5_3 := blk_frozen BK180.out 3; have hfz5_4 := blk_frozen BK180.out 4; have hfz5_5 := blk_frozen BK180.out 5; have hfz5_6 := blk_frozen BK180.out 6; have hfz5_7 := blk_frozen BK180.out 7; have hfz5_8 := blk_frozen BK180.out 8; have hfz5_9 := blk_frozen BK180.out 9; have hfz5_10 := blk_frozen BK180.out 10; have hfz5_11 := blk_frozen BK180.out 11; have hfz5_12 := blk_frozen BK180.out 12) | ((with_reducible refine gate_dst (N := 13) rfl ?_); refine Kd.R_lit k49 _ 49 ?hg (N := 13) ?hd (xs := ([(⟨a0_1, a0_2, a0_3, a0_4⟩ : S49)] : List (S49))) (inner := [.string a0_1, .string a0_2, .string a0_3, .int .i64 a0_4]) (ok := fun _ => True) (okp := fun _ => True) ?hr ?hp (fun _ hk => hk) trivial (Below.refl _ _) (Nat.le_refl _) (by simp) ?_; (case hd => rfl); (case hg => rfl); (case hr => first | (go_simp; done) | (go_simp; rfl)); (case hp => exact (Reps.c4 (show Kd.M k49 _ _ _ (⟨a0_1, a0_2, a0_3, a0_4⟩ : S49) [.string a0_1, .string a0_2, .string a0_3, .int .i64 a0_4] from (k49_mkM _ _ _ (⟨a0_1, a0_2, a0_3, a0_4⟩ : S49) )) (Reps.none _ _))); intro v182 w6 ho7 hb hg_ hnew_; clear hg_ hnew_; (first | rw [← Ny181.out] at ho7 | (simp only [Int.reduceToNat] at ho7; rw [← Ny181.out] at ho7)); have n0_ := Aside0.mk (Kd.R_lower ho7 (below_size (by repeat (first | (with_reducible first | exact HB.out | apply below_alloc | apply pw_below_drewN | apply below_drew1 | refine below_set ?_ GE180.out) | exact HB.out)))); have n1_ := Aside0.mk (blk_below (g := gb180) (o := .cells #[.int .i64 a0_0, .string a0_1, .string a0_2, .string a0_3, .int .i64 a0_4, .int .i64 a0_5, .int .i64 a0_6, .int .i64 a0_7, .int .i64 a0_8, .bool a0_9, .int .i64 a0_10, .string a0_11, .string a0_12] 24 (0, 0)) (by (with_reducible repeat (first | refine blk_drewN ?_ _ | refine blk_drew ?_ | refine blk_alloc ?_ _)); exact BK180.out) hb); have n2_ := Aside0.mk (below_step (by repeat (first | (with_reducible first | exact HB.out | apply below_alloc | apply pw_below_drewN | apply below_drew1 | refine below_set ?_ GE180.out) | exact HB.out)) hb); clear BK180; clear HB; have HO183 := n0_; have BK180 := n1_; have HB := n2_; clear n0_ n1_ n2_; clear hb ho7; have hcz8_0 : w6.cell? ⟨gb180, 0, none⟩ = some (.int .i64 a0_0) := (blk_cell BK180.out 0).trans rfl; have hcz8_1 : w6.cell? ⟨gb180, 1, none⟩ = some (.string a0_1) := (blk_cell BK180.out 1).trans rfl; have hcz8_2 : w6.cell? ⟨gb180, 2, none⟩ = some (.string a0_2) := (blk_cell BK180.out 2).trans rfl; have hcz8_3 : w6.cell? ⟨gb180, 3, none⟩ = some (.string a0_3) := (blk_cell BK180.out 3).trans rfl; have hcz8_4 : w6.cell? ⟨gb180, 4, none⟩ = some (.int .i64 a0_4) := (blk_cell BK180.out 4).trans rfl; have hcz8_5 : w6.cell? ⟨gb180, 5, none⟩ = some (.int .i64 a0_5) := (blk_cell BK180.out 5).trans rfl; have hcz8_6 : w6.cell? ⟨gb180, 6, none⟩ = some (.int .i64 a0_6) := (blk_cell BK180.out 6).trans rfl; have hcz8_7 : w6.cell? ⟨gb180, 7, none⟩ = some (.int .i64 a0_7) := (blk_cell BK180.out 7).trans rfl; have hcz8_8 : w6.cell? ⟨gb180, 8, none⟩ = some (.int .i64 a0_8) := (blk_cell BK180.out 8).trans rfl; have hcz8_9 : w6.cell? ⟨gb180, 9, none⟩ = some (.bool a0_9) := (blk_cell BK180.out 9).trans rfl; have hcz8_10 : w6.cell? ⟨gb180, 10, none⟩ = some (.int .i64 a0_10) := (blk_cell BK180.out 10).trans rfl; have hcz8_11 : w6.cell? ⟨gb180, 11, none⟩ = some (.string a0_11) := (blk_cell BK180.out 11).trans rfl; have hcz8_12 : w6.cell? ⟨gb180, 12, none⟩ = some (.string a0_12) := (blk_cell BK180.out 12).trans rfl; have hfz8_0 := blk_frozen BK180.out 0; have hfz8_1 := blk_frozen BK180.out 1; have hfz8_2 := blk_frozen BK180.out 2; have hfz8_3 := blk_frozen BK180.out 3; have hfz8_4 := blk_frozen BK180.out 4; have hfz8_5 := blk_frozen BK180.out 5; have hfz8_6 := blk_frozen BK180.out 6; have hfz8_7 := blk_frozen BK180.out 7; have hfz8_8 := blk_frozen BK180.out 8; have hfz8_9 := blk_frozen BK180.out 9; have hfz8_10 := blk_frozen BK180.out 10; have hfz8_11 := blk_frozen BK180.out 11; have hfz8_12 := blk_frozen BK180.out 12) | ((with_reducible refine gate_builtin (b := .append) (xs := #[.tmp 17, .tmp 25]) rfl ?_); at_builtin; refine Kd.R_append k49 (w0 := w) w.heap.size rfl (.tmp 17) (.tmp 25) 41 49 (.agg #[(.string ⟨#[]⟩), (.string ⟨#[]⟩), (.string ⟨#[]⟩), (.int .i64 0)]) 56 rfl Tryd.underlying41 info49 rfl (by decide) (by omega) v182 y181 (⟨a0_2, a0_1, (⟨#[67, 65, 83, 72]⟩ : ByteArray), a0_5⟩ : S49) [.string a0_2, .string a0_1, .string (⟨#[67, 65, 83, 72]⟩ : ByteArray), .int .i64 a0_5] (fun _ => True) (fun _ => False) rfl rfl ?aP (fun _ hk => hk.elim) ?aF ?aO ?aB ?aS ?aL ?_; (case aP => exact k49_mkM _ _ _ (⟨a0_2, a0_1, (⟨#[67, 65, 83, 72]⟩ : ByteArray), a0_5⟩ : S49)); (case aB => exact (by repeat (first | (with_reducible first | exact HB.out | apply below_alloc | apply pw_below_drewN | apply below_drew1 | refine below_set ?_ GE180.out) | exact HB.out))); (case aF => exact (fun _ _ => trivial)); (case aO => exact (by (with_reducible repeat (first | apply Kd.R_alloc | apply Kd.R_drewN | apply Kd.R_drew)); exact HO183.out)); (case aS => exact (below_size (by repeat (first | (with_reducible first | exact HB.out | apply below_alloc | apply pw_below_drewN | apply below_drew1 | refine below_set ?_ GE180.out) | exact HB.out)))); (case aL => have := LMc3.out; omega); intro v185 w9 ho hb hg hat; rw [← Ny184.out] at ho; have n0_ := Aside0.mk (blk_grown (g := gb180) (o := .cells #[.int .i64 a0_0, .string a0_1, .string a0_2, .string a0_3, .int .i64 a0_4, .int .i64 a0_5, .int .i64 a0_6, .int .i64 a0_7, .int .i64 a0_8, .bool a0_9, .int .i64 a0_10, .string a0_11, .string a0_12] 24 (0, 0)) (by (with_reducible repeat (first | refine blk_drewN ?_ _ | refine blk_drew ?_ | refine blk_alloc ?_ _)); exact BK180.out) hg (Kd.R_ne HO183.out BK180.out (by decide))); have n1_ := Aside0.mk (hb); have n2_ := Aside0.mk (ho); clear BK180; clear HB; clear HO183; have BK180 := n0_; have HB := n1_; have HO186 := n2_; clear n0_ n1_ n2_; clear ho hb hg hat))
   go_ret
   exact ⟨_, by first | rfl | (simp [errW_none, errW_some] <;> rfl) | (simp [*, errW_none, errW_some] <;> rfl), by (with_reducible repeat (first | apply Kd.R_alloc | apply Kd.R_drewN | apply Kd.R_drew)); exact HO186.out, by repeat (first | (with_reducible first | exact HB.out | apply below_alloc | apply pw_below_drewN | apply below_drew1 | refine below_set ?_ GE180.out) | exact HB.out)⟩
  ·rw [if_neg c3] at H
   exact absurd H (by simp)
 ·rw [if_neg c2] at H
  have c2b0 : (a0_0 == 1) = false := beq_eq_false_iff_ne.mpr c2
  have c2b1 : (a0_0 != 1) = true := bne_iff_ne.mpr c2
  obtain rfl := Option.some.inj H
  go_enter Tryd.func20, Tryd.ntmps20
  go_wp2_with (first | ((with_reducible refine gate_dst (N := 1) rfl ?_); refine box_event ?hg (N := 1) ?hd (cs := #[.int .i64 a0_0, .string a0_1, .string a0_2, .string a0_3, .int .i64 a0_4, .int .i64 a0_5, .int .i64 a0_6, .int .i64 a0_7, .int .i64 a0_8, .bool a0_9, .int .i64 a0_10, .string a0_11, .string a0_12]) (t := 24) ?hr ?_; (case hd => rfl); (case hg => rfl); (case hr => first | (go_simp; done) | (go_simp; rfl)); intro gb180 hg w10 hbox hb; have n0_ := Aside0.mk (below_step (by repeat (first | (with_reducible first | exact HB.out | apply below_alloc | apply pw_below_drewN | apply below_drew1) | exact HB.out)) hb); have n1_ := Aside0.mk (hbox); have n2_ := Aside0.mk ((by rw [hg]; exact (below_size (by repeat (first | (with_reducible first | exact HB.out | apply below_alloc | apply pw_below_drewN | apply below_drew1) | exact HB.out))) : w.heap.size ≤ gb180)); have n3_ := Aside0.mk ((by rw [hg]; exact (below_size (by repeat (first | (with_reducible first | exact HB.out | apply below_alloc | apply pw_below_drewN | apply below_drew1) | exact HB.out))) : w.heap.size ≤ gb180)); clear HB; have HB := n0_; have BK180 := n1_; have GW180 := n2_; have GE180 := n3_; clear n0_ n1_ n2_ n3_; clear hb hbox hg; have hcz11_0 : w10.cell? ⟨gb180, 0, none⟩ = some (.int .i64 a0_0) := (blk_cell BK180.out 0).trans rfl; have hcz11_1 : w10.cell? ⟨gb180, 1, none⟩ = some (.string a0_1) := (blk_cell BK180.out 1).trans rfl; have hcz11_2 : w10.cell? ⟨gb180, 2, none⟩ = some (.string a0_2) := (blk_cell BK180.out 2).trans rfl; have hcz11_3 : w10.cell? ⟨gb180, 3, none⟩ = some (.string a0_3) := (blk_cell BK180.out 3).trans rfl; have hcz11_4 : w10.cell? ⟨gb180, 4, none⟩ = some (.int .i64 a0_4) := (blk_cell BK180.out 4).trans rfl; have hcz11_5 : w10.cell? ⟨gb180, 5, none⟩ = some (.int .i64 a0_5) := (blk_cell BK180.out 5).trans rfl; have hcz11_6 : w10.cell? ⟨gb180, 6, none⟩ = some (.int .i64 a0_6) := (blk_cell BK180.out 6).trans rfl; have hcz11_7 : w10.cell? ⟨gb180, 7, none⟩ = some (.int .i64 a0_7) := (blk_cell BK180.out 7).trans rfl; have hcz11_8 : w10.cell? ⟨gb180, 8, none⟩ = some (.int .i64 a0_8) := (blk_cell BK180.out 8).trans rfl; have hcz11_9 : w10.cell? ⟨gb180, 9, none⟩ = some (.bool a0_9) := (blk_cell BK180.out 9).trans rfl; have hcz11_10 : w10.cell? ⟨gb180, 10, none⟩ = some (.int .i64 a0_10) := (blk_cell BK180.out 10).trans rfl; have hcz11_11 : w10.cell? ⟨gb180, 11, none⟩ = some (.string a0_11) := (blk_cell BK180.out 11).trans rfl; have hcz11_12 : w10.cell? ⟨gb180, 12, none⟩ = some (.string a0_12) := (blk_cell BK180.out 12).trans rfl; have hfz11_0 := blk_frozen BK180.out 0; have hfz11_1 := blk_frozen BK180.out 1; have hfz11_2 := blk_frozen BK180.out 2; have hfz11_3 := blk_frozen BK180.out 3; have hfz11_4 := blk_frozen BK180.out 4; have hfz11_5 := blk_frozen BK180.out 5; have hfz11_6 := blk_frozen BK180.out 6; have hfz11_7 := blk_frozen BK180.out 7; have hfz11_8 := blk_frozen BK180.out 8; have hfz11_9 := blk_frozen BK180.out 9; have hfz11_10 := blk_frozen BK180.out 10; have hfz11_11 := blk_frozen BK180.out 11; have hfz11_12 := blk_frozen BK180.out 12) | ((with_reducible refine gate_dst (N := 13) rfl ?_); refine Kd.R_lit k49 _ 49 ?hg (N := 13) ?hd (xs := ([(⟨a0_1, a0_2, a0_3, a0_4⟩ : S49)] : List (S49))) (inner := [.string a0_1, .string a0_2, .string a0_3, .int .i64 a0_4]) (ok := fun _ => True) (okp := fun _ => True) ?hr ?hp (fun _ hk => hk) trivial (Below.refl _ _) (Nat.le_refl _) (by simp) ?_; (case hd => rfl); (case hg => rfl); (case hr => first | (go_simp; done) | (go_simp; rfl)); (case hp => exact (Reps.c4 (show Kd.M k49 _ _ _ (⟨a0_1, a0_2, a0_3, a0_4⟩ : S49) [.string a0_1, .string a0_2, .string a0_3, .int .i64 a0_4] from (k49_mkM _ _ _ (⟨a0_1, a0_2, a0_3, a0_4⟩ : S49) )) (Reps.none _ _))); intro v182 w12 ho13 hb hg_ hnew_; clear hg_ hnew_; (first | rw [← Ny181.out] at ho13 | (simp only [Int.reduceToNat] at ho13; rw [← Ny181.out] at ho13)); have n0_ := Aside0.mk (Kd.R_lower ho13 (below_size (by repeat (first | (with_reducible first | exact HB.out | apply below_alloc | apply pw_below_drewN | apply below_drew1 | refine below_set ?_ GE180.out) | exact HB.out)))); have n1_ := Aside0.mk (blk_below (g := gb180) (o := .cells #[.int .i64 a0_0, .string a0_1, .string a0_2, .string a0_3, .int .i64 a0_4, .int .i64 a0_5, .int .i64 a0_6, .int .i64 a0_7, .int .i64 a0_8, .bool a0_9, .int .i64 a0_10, .string a0_11, .string a0_12] 24 (0, 0)) (by (with_reducible repeat (first | refine blk_drewN ?_ _ | refine blk_drew ?_ | refine blk_alloc ?_ _)); exact BK180.out) hb); have n2_ := Aside0.mk (below_step (by repeat (first | (with_reducible first | exact HB.out | apply below_alloc | apply pw_below_drewN | apply below_drew1 | refine below_set ?_ GE180.out) | exact HB.out)) hb); clear BK180; clear HB; have HO183 := n0_; have BK180 := n1_; have HB := n2_; clear n0_ n1_ n2_; clear hb ho13; have hcz14_0 : w12.cell? ⟨gb180, 0, none⟩ = some (.int .i64 a0_0) := (blk_cell BK180.out 0).trans rfl; have hcz14_1 : w12.cell? ⟨gb180, 1, none⟩ = some (.string a0_1) := (blk_cell BK180.out 1).trans rfl; have hcz14_2 : w12.cell? ⟨gb180, 2, none⟩ = some (.string a0_2) := (blk_cell BK180.out 2).trans rfl; have hcz14_3 : w12.cell? ⟨gb180, 3, none⟩ = some (.string a0_3) := (blk_cell BK180.out 3).trans rfl; have hcz14_4 : w12.cell? ⟨gb180, 4, none⟩ = some (.int .i64 a0_4) := (blk_cell BK180.out 4).trans rfl; have hcz14_5 : w12.cell? ⟨gb180, 5, none⟩ = some (.int .i64 a0_5) := (blk_cell BK180.out 5).trans rfl; have hcz14_6 : w12.cell? ⟨gb180, 6, none⟩ = some (.int .i64 a0_6) := (blk_cell BK180.out 6).trans rfl; have hcz14_7 : w12.cell? ⟨gb180, 7, none⟩ = some (.int .i64 a0_7) := (blk_cell BK180.out 7).trans rfl; have hcz14_8 : w12.cell? ⟨gb180, 8, none⟩ = some (.int .i64 a0_8) := (blk_cell BK180.out 8).trans rfl; have hcz14_9 : w12.cell? ⟨gb180, 9, none⟩ = some (.bool a0_9) := (blk_cell BK180.out 9).trans rfl; have hcz14_10 : w12.cell? ⟨gb180, 10, none⟩ = some (.int .i64 a0_10) := (blk_cell BK180.out 10).trans rfl; have hcz14_11 : w12.cell? ⟨gb180, 11, none⟩ = some (.string a0_11) := (blk_cell BK180.out 11).trans rfl; have hcz14_12 : w12.cell? ⟨gb180, 12, none⟩ = some (.string a0_12) := (blk_cell BK180.out 12).trans rfl; have hfz14_0 := blk_frozen BK180.out 0; have hfz14_1 := blk_frozen BK180.out 1; have hfz14_2 := blk_frozen BK180.out 2; have hfz14_3 := blk_frozen BK180.out 3; have hfz14_4 := blk_frozen BK180.out 4; have hfz14_5 := blk_frozen BK180.out 5; have hfz14_6 := blk_frozen BK180.out 6; have hfz14_7 := blk_frozen BK180.out 7; have hfz14_8 := blk_frozen BK180.out 8; have hfz14_9 := blk_frozen BK180.out 9; have hfz14_10 := blk_frozen BK180.out 10; have hfz14_11 := blk_frozen BK180.out 11; have hfz14_12 := blk_frozen BK180.out 12))
  go_ret
  exact ⟨_, by first | rfl | (simp [errW_none, errW_some] <;> rfl) | (simp [*, errW_none, errW_some] <;> rfl), by (with_reducible repeat (first | apply Kd.R_alloc | apply Kd.R_drewN | apply Kd.R_drew)); exact HO183.out, by repeat (first | (with_reducible first | exact HB.out | apply below_alloc | apply pw_below_drewN | apply below_drew1 | refine below_set ?_ GE180.out) | exact HB.out)⟩
end Go.Proofs.YtpclapnmiacfpaaDoor.Q
end
section
namespace Go.Proofs.YtpclapnmiacfpaaDoor.Q
open Go.RowKit Go.Proofs.YtpclapnmiacfpaaDoorW.PrintWords Go.Proofs.YtpclapnmiacfpaaDoorW.PrintLast Go.Proofs.YtpclapnmiacfpaaDoorW.PrintMore
attribute [local go_sem] max2_int min2_int max_two min_two max_three min_three max_four min_four
set_option linter.unusedVariables false
set_option linter.unusedSimpArgs false
def girolaw39_legs.l0 : Nat → List (S71) → List (S49) → Int → Option (Bool)
 | 0, _, _, _ => none
 | k + 1, x0, x1, x5 => if x5 < (x0.length : Int) then (if 0 ≤ x5 then (if x5 < (x1.length : Int) then (if ((rd_T71 x0 x5).f0).toList = ((rd_T49 x1 x5).f0).toList then (if ((rd_T71 x0 x5).f1).toList = ((rd_T49 x1 x5).f1).toList then (if ((rd_T71 x0 x5).f2).toList = ((rd_T49 x1 x5).f2).toList then (if ((rd_T71 x0 x5).f3) = ((rd_T49 x1 x5).f3) then (girolaw39_legs.l0 k x0 x1 (wrap64 (x5 + 1))) else (some false)) else (some false)) else (some false)) else (some false)) else (none)) else (none)) else (some true)
def girolaw39_legs.f (k : Nat) (l0 : List (S71)) (l1 : List (S49)) : Option (Bool) := if (l0.length : Int) = (l1.length : Int) then (girolaw39_legs.l0 k l0 l1 0) else (some false)
theorem girolaw39_legs.mono_l : ∀ k, (∀ y0 y1 y2, LeO (girolaw39_legs.l0 k y0 y1 y2) (girolaw39_legs.l0 (k + 1) y0 y1 y2))
 | 0 => fun _ _ _ r h => by simp [girolaw39_legs.l0] at h
 | k + 1 => by
  have ih0 := girolaw39_legs.mono_l k
  ·intro y0 y1 y2
   unfold girolaw39_legs.l0
   repeat' first
   | (with_reducible exact ih0 _ _ _)
   | (with_reducible exact LeO.refl _)
   | (with_reducible exact LeO.none _)
   | (with_reducible refine LeO.ite ?_ ?_)
   | (with_reducible refine LeO.bind ?_ (fun _ => ?_))
   | exact ih0 _ _ _
   | exact LeO.none _
   | refine LeO.ite ?_ ?_
   | refine LeO.bind ?_ (fun _ => ?_)
theorem girolaw39_legs.mono : ∀ a0 a1 k, LeO (girolaw39_legs.f k a0 a1) (girolaw39_legs.f (k + 1) a0 a1) := by
 intro a0 a1 k
 have ih0 := girolaw39_legs.mono_l k
 unfold girolaw39_legs.f
 repeat' first
   | (with_reducible exact ih0 _ _ _)
   | (with_reducible exact LeO.refl _)
   | (with_reducible exact LeO.none _)
   | (with_reducible refine LeO.ite ?_ ?_)
   | (with_reducible refine LeO.bind ?_ (fun _ => ?_))
   | exact ih0 _ _ _
   | exact LeO.none _
   | refine LeO.ite ?_ ?_
   | refine LeO.bind ?_ (fun _ => ?_)
set_option maxHeartbeats 8000000 in
set_option maxRecDepth 100000 in
theorem girolaw39_legs.calls (k : Nat) (A0 : Option Addr) (c0 : Nat) (l0 : List (S71)) (A1 : Option Addr) (c1 : Nat) (l1 : List (S49)) (r : Bool) (w : World) (hr0 : Kd.C k71 w A0 l0.length l0) (hc0 : l0.length ≤ c0) (hr1 : Kd.C k49 w A1 l1.length l1) (hc1 : l1.length ≤ c1) (h : girolaw39_legs.f k l0 l1 = some r) :
  Calls Tryd.prog 17 #[.slice A0 l0.length c0, .slice A1 l1.length c1] w fun e w' => e = .returned (.bool r) ∧ Drawn0 w w' := by
 have HR0 := Aside0.mk hr0
 have HC0 := Aside0.mk hc0
 clear hr0 hc0
 have HR1 := Aside0.mk hr1
 have HC1 := Aside0.mk hc1
 clear hr1 hc1
 have H : (if (l0.length : Int) = (l1.length : Int) then (girolaw39_legs.l0 k l0 l1 0) else (some false)) = some r := h
 clear h
 by_cases c3 : (l0.length : Int) = (l1.length : Int)
 ·rw [if_pos c3] at H
  have c3b0 : ((l0.length : Int) == (l1.length : Int)) = true := beq_iff_eq.mpr c3
  have c3b1 : ((l0.length : Int) != (l1.length : Int)) = false := bne_eq_false_iff_eq.mpr c3
  have c3b2 : (l0.length == l1.length) = true := by first | simpa using c3 | (simp at c3 ⊢; omega)
  clear c3
  have H' := Aside0.mk H
  clear H
  go_enter Tryd.func17, Tryd.ntmps17
  go_wp2
  repeat (go_quiet (fail); try go_wp2)
  go_loopg [5] k (fun kq v5 w' => ∃ (x5_1 : Int), v5 = .int .i64 x5_1 ∧ Aside0 (girolaw39_legs.l0 kq l0 l1 x5_1 = some r) ∧ Aside0 (kq ≤ k) ∧ Drawn0 w w')
  case atStart => exact ⟨(0), (by first | rfl | (simp; done) | (simp [*]; done)), H', ⟨Nat.le_refl _⟩, by repeat (first | exact Drawn0.refl _ | apply Drawn0.step)⟩
  case round =>
   clear H'
   try clear c1
   try clear p2
   try clear c3
   try clear c3b0
   try clear c3b1
   try clear c3b2
   obtain ⟨x5_1, rfl, HA, HK1, ⟨m1, rfl⟩⟩ := hrel
   cases gk with
   | zero => exact absurd HA.out (by simp [girolaw39_legs.l0])
   | succ k1 =>
    have H := HA.out
    clear HA
    simp only [girolaw39_legs.l0] at H
    by_cases c4 : x5_1 < (l0.length : Int)
    ·rw [if_pos c4] at H
     have c4b0 : decide (x5_1 < (l0.length : Int)) = true := decide_eq_true c4
     clear c4
     by_cases c5 : 0 ≤ x5_1
     ·rw [if_pos c5] at H
      have c5b0 : decide (0 ≤ x5_1) = true := decide_eq_true c5
      clear c5
      by_cases c6 : x5_1 < (l1.length : Int)
      ·rw [if_pos c6] at H
       have c6b0 : decide (x5_1 < (l1.length : Int)) = true := decide_eq_true c6
       clear c6
       by_cases c7 : ((rd_T71 l0 x5_1).f0).toList = ((rd_T49 l1 x5_1).f0).toList
       ·rw [if_pos c7] at H
        have c7b0 : (((rd_T71 l0 x5_1).f0).toList == ((rd_T49 l1 x5_1).f0).toList) = true := beq_iff_eq.mpr c7
        have c7b1 : (((rd_T71 l0 x5_1).f0).toList != ((rd_T49 l1 x5_1).f0).toList) = false := bne_eq_false_iff_eq.mpr c7
        clear c7
        by_cases c8 : ((rd_T71 l0 x5_1).f1).toList = ((rd_T49 l1 x5_1).f1).toList
        ·rw [if_pos c8] at H
         have c8b0 : (((rd_T71 l0 x5_1).f1).toList == ((rd_T49 l1 x5_1).f1).toList) = true := beq_iff_eq.mpr c8
         have c8b1 : (((rd_T71 l0 x5_1).f1).toList != ((rd_T49 l1 x5_1).f1).toList) = false := bne_eq_false_iff_eq.mpr c8
         clear c8
         by_cases c9 : ((rd_T71 l0 x5_1).f2).toList = ((rd_T49 l1 x5_1).f2).toList
         ·rw [if_pos c9] at H
          have c9b0 : (((rd_T71 l0 x5_1).f2).toList == ((rd_T49 l1 x5_1).f2).toList) = true := beq_iff_eq.mpr c9
          have c9b1 : (((rd_T71 l0 x5_1).f2).toList != ((rd_T49 l1 x5_1).f2).toList) = false := bne_eq_false_iff_eq.mpr c9
          clear c9
          by_cases c10 : ((rd_T71 l0 x5_1).f3) = ((rd_T49 l1 x5_1).f3)
          ·rw [if_pos c10] at H
           have c10b0 : (((rd_T71 l0 x5_1).f3) == ((rd_T49 l1 x5_1).f3)) = true := beq_iff_eq.mpr c10
           have c10b1 : (((rd_T71 l0 x5_1).f3) != ((rd_T49 l1 x5_1).f3)) = false := bne_eq_false_iff_eq.mpr c10
           clear c10
           have H' := Aside0.mk H
           clear H
           have p241 : 0 ≤ (x5_1 : Int) := of_decide_eq_true (by first | (with_reducible assumption) | assumption)
           have q241 : x5_1 < (l0.length : Int) := of_decide_eq_true (by first | (with_reducible assumption) | assumption)
           obtain ⟨ad241, e241, hx241_0, hx241_1, hx241_2, hx241_3⟩ := at_T71 HR0.out x5_1 p241 q241
           cases e241
           replace p241 := eq_true p241
           replace q241 := eq_true q241
           have p242 : 0 ≤ (x5_1 : Int) := of_decide_eq_true (by first | (with_reducible assumption) | assumption)
           have q242 : x5_1 < (l1.length : Int) := of_decide_eq_true (by first | (with_reducible assumption) | assumption)
           obtain ⟨ad242, e242, hx242_0, hx242_1, hx242_2, hx242_3⟩ := at_T49 HR1.out x5_1 p242 q242
           cases e242
           replace p242 := eq_true p242
           replace q242 := eq_true q242
           have p243 : 0 ≤ (x5_1 : Int) := of_decide_eq_true (by first | (with_reducible assumption) | assumption)
           have q243 : x5_1 < (l0.length : Int) := of_decide_eq_true (by first | (with_reducible assumption) | assumption)
           obtain ⟨ad243, e243, hx243_0, hx243_1, hx243_2, hx243_3⟩ := at_T71 HR0.out x5_1 p243 q243
           obtain rfl : ad241 = ad243 := (by injection e243)
           replace p243 := eq_true p243
           replace q243 := eq_true q243
           have p244 : 0 ≤ (x5_1 : Int) := of_decide_eq_true (by first | (with_reducible assumption) | assumption)
           have q244 : x5_1 < (l1.length : Int) := of_decide_eq_true (by first | (with_reducible assumption) | assumption)
           obtain ⟨ad244, e244, hx244_0, hx244_1, hx244_2, hx244_3⟩ := at_T49 HR1.out x5_1 p244 q244
           obtain rfl : ad242 = ad244 := (by injection e244)
           replace p244 := eq_true p244
           replace q244 := eq_true q244
           have p245 : 0 ≤ (x5_1 : Int) := of_decide_eq_true (by first | (with_reducible assumption) | assumption)
           have q245 : x5_1 < (l0.length : Int) := of_decide_eq_true (by first | (with_reducible assumption) | assumption)
           obtain ⟨ad245, e245, hx245_0, hx245_1, hx245_2, hx245_3⟩ := at_T71 HR0.out x5_1 p245 q245
           obtain rfl : ad241 = ad245 := (by injection e245)
           replace p245 := eq_true p245
           replace q245 := eq_true q245
           have p246 : 0 ≤ (x5_1 : Int) := of_decide_eq_true (by first | (with_reducible assumption) | assumption)
           have q246 : x5_1 < (l1.length : Int) := of_decide_eq_true (by first | (with_reducible assumption) | assumption)
           obtain ⟨ad246, e246, hx246_0, hx246_1, hx246_2, hx246_3⟩ := at_T49 HR1.out x5_1 p246 q246
           obtain rfl : ad242 = ad246 := (by injection e246)
           replace p246 := eq_true p246
           replace q246 := eq_true q246
           have p247 : 0 ≤ (x5_1 : Int) := of_decide_eq_true (by first | (with_reducible assumption) | assumption)
           have q247 : x5_1 < (l0.length : Int) := of_decide_eq_true (by first | (with_reducible assumption) | assumption)
           obtain ⟨ad247, e247, hx247_0, hx247_1, hx247_2, hx247_3⟩ := at_T71 HR0.out x5_1 p247 q247
           obtain rfl : ad241 = ad247 := (by injection e247)
           replace p247 := eq_true p247
           replace q247 := eq_true q247
           have p248 : 0 ≤ (x5_1 : Int) := of_decide_eq_true (by first | (with_reducible assumption) | assumption)
           have q248 : x5_1 < (l1.length : Int) := of_decide_eq_true (by first | (with_reducible assumption) | assumption)
           obtain ⟨ad248, e248, hx248_0, hx248_1, hx248_2, hx248_3⟩ := at_T49 HR1.out x5_1 p248 q248
           obtain rfl : ad242 = ad248 := (by injection e248)
           replace p248 := eq_true p248
           replace q248 := eq_true q248
           go_wp2
           repeat (go_quiet (fail); try go_wp2)
           go_roundg k1
           case measure => have := HK1.out; omega
           case rel => exact ⟨(wrap64 (x5_1 + 1)), (by first | rfl | (simp; done) | (simp [*]; done)), H', ⟨by have := HK1.out; omega⟩, by repeat (first | exact Drawn0.refl _ | apply Drawn0.step)⟩
          ·rw [if_neg c10] at H
           have c10b0 : (((rd_T71 l0 x5_1).f3) == ((rd_T49 l1 x5_1).f3)) = false := beq_eq_false_iff_ne.mpr c10
           have c10b1 : (((rd_T71 l0 x5_1).f3) != ((rd_T49 l1 x5_1).f3)) = true := bne_iff_ne.mpr c10
           obtain rfl := Option.some.inj H
           have p241 : 0 ≤ (x5_1 : Int) := of_decide_eq_true (by first | (with_reducible assumption) | assumption)
           have q241 : x5_1 < (l0.length : Int) := of_decide_eq_true (by first | (with_reducible assumption) | assumption)
           obtain ⟨ad241, e241, hx241_0, hx241_1, hx241_2, hx241_3⟩ := at_T71 HR0.out x5_1 p241 q241
           cases e241
           replace p241 := eq_true p241
           replace q241 := eq_true q241
           have p242 : 0 ≤ (x5_1 : Int) := of_decide_eq_true (by first | (with_reducible assumption) | assumption)
           have q242 : x5_1 < (l1.length : Int) := of_decide_eq_true (by first | (with_reducible assumption) | assumption)
           obtain ⟨ad242, e242, hx242_0, hx242_1, hx242_2, hx242_3⟩ := at_T49 HR1.out x5_1 p242 q242
           cases e242
           replace p242 := eq_true p242
           replace q242 := eq_true q242
           have p243 : 0 ≤ (x5_1 : Int) := of_decide_eq_true (by first | (with_reducible assumption) | assumption)
           have q243 : x5_1 < (l0.length : Int) := of_decide_eq_true (by first | (with_reducible assumption) | assumption)
           obtain ⟨ad243, e243, hx243_0, hx243_1, hx243_2, hx243_3⟩ := at_T71 HR0.out x5_1 p243 q243
           obtain rfl : ad241 = ad243 := (by injection e243)
           replace p243 := eq_true p243
           replace q243 := eq_true q243
           have p244 : 0 ≤ (x5_1 : Int) := of_decide_eq_true (by first | (with_reducible assumption) | assumption)
           have q244 : x5_1 < (l1.length : Int) := of_decide_eq_true (by first | (with_reducible assumption) | assumption)
           obtain ⟨ad244, e244, hx244_0, hx244_1, hx244_2, hx244_3⟩ := at_T49 HR1.out x5_1 p244 q244
           obtain rfl : ad242 = ad244 := (by injection e244)
           replace p244 := eq_true p244
           replace q244 := eq_true q244
           have p245 : 0 ≤ (x5_1 : Int) := of_decide_eq_true (by first | (with_reducible assumption) | assumption)
           have q245 : x5_1 < (l0.length : Int) := of_decide_eq_true (by first | (with_reducible assumption) | assumption)
           obtain ⟨ad245, e245, hx245_0, hx245_1, hx245_2, hx245_3⟩ := at_T71 HR0.out x5_1 p245 q245
           obtain rfl : ad241 = ad245 := (by injection e245)
           replace p245 := eq_true p245
           replace q245 := eq_true q245
           have p246 : 0 ≤ (x5_1 : Int) := of_decide_eq_true (by first | (with_reducible assumption) | assumption)
           have q246 : x5_1 < (l1.length : Int) := of_decide_eq_true (by first | (with_reducible assumption) | assumption)
           obtain ⟨ad246, e246, hx246_0, hx246_1, hx246_2, hx246_3⟩ := at_T49 HR1.out x5_1 p246 q246
           obtain rfl : ad242 = ad246 := (by injection e246)
           replace p246 := eq_true p246
           replace q246 := eq_true q246
           have p247 : 0 ≤ (x5_1 : Int) := of_decide_eq_true (by first | (with_reducible assumption) | assumption)
           have q247 : x5_1 < (l0.length : Int) := of_decide_eq_true (by first | (with_reducible assumption) | assumption)
           obtain ⟨ad247, e247, hx247_0, hx247_1, hx247_2, hx247_3⟩ := at_T71 HR0.out x5_1 p247 q247
           obtain rfl : ad241 = ad247 := (by injection e247)
           replace p247 := eq_true p247
           replace q247 := eq_true q247
           have p248 : 0 ≤ (x5_1 : Int) := of_decide_eq_true (by first | (with_reducible assumption) | assumption)
           have q248 : x5_1 < (l1.length : Int) := of_decide_eq_true (by first | (with_reducible assumption) | assumption)
           obtain ⟨ad248, e248, hx248_0, hx248_1, hx248_2, hx248_3⟩ := at_T49 HR1.out x5_1 p248 q248
           obtain rfl : ad242 = ad248 := (by injection e248)
           replace p248 := eq_true p248
           replace q248 := eq_true q248
           go_wp2
           repeat (go_quiet (fail); try go_wp2)
           go_ret
           exact ⟨by first | rfl | (simp; done) | (simp [*]; done), by repeat (first | exact Drawn0.refl _ | apply Drawn0.step)⟩
         ·rw [if_neg c9] at H
          have c9b0 : (((rd_T71 l0 x5_1).f2).toList == ((rd_T49 l1 x5_1).f2).toList) = false := beq_eq_false_iff_ne.mpr c9
          have c9b1 : (((rd_T71 l0 x5_1).f2).toList != ((rd_T49 l1 x5_1).f2).toList) = true := bne_iff_ne.mpr c9
          obtain rfl := Option.some.inj H
          have p241 : 0 ≤ (x5_1 : Int) := of_decide_eq_true (by first | (with_reducible assumption) | assumption)
          have q241 : x5_1 < (l0.length : Int) := of_decide_eq_true (by first | (with_reducible assumption) | assumption)
          obtain ⟨ad241, e241, hx241_0, hx241_1, hx241_2, hx241_3⟩ := at_T71 HR0.out x5_1 p241 q241
          cases e241
          replace p241 := eq_true p241
          replace q241 := eq_true q241
          have p242 : 0 ≤ (x5_1 : Int) := of_decide_eq_true (by first | (with_reducible assumption) | assumption)
          have q242 : x5_1 < (l1.length : Int) := of_decide_eq_true (by first | (with_reducible assumption) | assumption)
          obtain ⟨ad242, e242, hx242_0, hx242_1, hx242_2, hx242_3⟩ := at_T49 HR1.out x5_1 p242 q242
          cases e242
          replace p242 := eq_true p242
          replace q242 := eq_true q242
          have p243 : 0 ≤ (x5_1 : Int) := of_decide_eq_true (by first | (with_reducible assumption) | assumption)
          have q243 : x5_1 < (l0.length : Int) := of_decide_eq_true (by first | (with_reducible assumption) | assumption)
          obtain ⟨ad243, e243, hx243_0, hx243_1, hx243_2, hx243_3⟩ := at_T71 HR0.out x5_1 p243 q243
          obtain rfl : ad241 = ad243 := (by injection e243)
          replace p243 := eq_true p243
          replace q243 := eq_true q243
          have p244 : 0 ≤ (x5_1 : Int) := of_decide_eq_true (by first | (with_reducible assumption) | assumption)
          have q244 : x5_1 < (l1.length : Int) := of_decide_eq_true (by first | (with_reducible assumption) | assumption)
          obtain ⟨ad244, e244, hx244_0, hx244_1, hx244_2, hx244_3⟩ := at_T49 HR1.out x5_1 p244 q244
          obtain rfl : ad242 = ad244 := (by injection e244)
          replace p244 := eq_true p244
          replace q244 := eq_true q244
          have p245 : 0 ≤ (x5_1 : Int) := of_decide_eq_true (by first | (with_reducible assumption) | assumption)
          have q245 : x5_1 < (l0.length : Int) := of_decide_eq_true (by first | (with_reducible assumption) | assumption)
          obtain ⟨ad245, e245, hx245_0, hx245_1, hx245_2, hx245_3⟩ := at_T71 HR0.out x5_1 p245 q245
          obtain rfl : ad241 = ad245 := (by injection e245)
          replace p245 := eq_true p245
          replace q245 := eq_true q245
          have p246 : 0 ≤ (x5_1 : Int) := of_decide_eq_true (by first | (with_reducible assumption) | assumption)
          have q246 : x5_1 < (l1.length : Int) := of_decide_eq_true (by first | (with_reducible assumption) | assumption)
          obtain ⟨ad246, e246, hx246_0, hx246_1, hx246_2, hx246_3⟩ := at_T49 HR1.out x5_1 p246 q246
          obtain rfl : ad242 = ad246 := (by injection e246)
          replace p246 := eq_true p246
          replace q246 := eq_true q246
          go_wp2
          repeat (go_quiet (fail); try go_wp2)
          go_ret
          exact ⟨by first | rfl | (simp; done) | (simp [*]; done), by repeat (first | exact Drawn0.refl _ | apply Drawn0.step)⟩
        ·rw [if_neg c8] at H
         have c8b0 : (((rd_T71 l0 x5_1).f1).toList == ((rd_T49 l1 x5_1).f1).toList) = false := beq_eq_false_iff_ne.mpr c8
         have c8b1 : (((rd_T71 l0 x5_1).f1).toList != ((rd_T49 l1 x5_1).f1).toList) = true := bne_iff_ne.mpr c8
         obtain rfl := Option.some.inj H
         have p241 : 0 ≤ (x5_1 : Int) := of_decide_eq_true (by first | (with_reducible assumption) | assumption)
         have q241 : x5_1 < (l0.length : Int) := of_decide_eq_true (by first | (with_reducible assumption) | assumption)
         obtain ⟨ad241, e241, hx241_0, hx241_1, hx241_2, hx241_3⟩ := at_T71 HR0.out x5_1 p241 q241
         cases e241
         replace p241 := eq_true p241
         replace q241 := eq_true q241
         have p242 : 0 ≤ (x5_1 : Int) := of_decide_eq_true (by first | (with_reducible assumption) | assumption)
         have q242 : x5_1 < (l1.length : Int) := of_decide_eq_true (by first | (with_reducible assumption) | assumption)
         obtain ⟨ad242, e242, hx242_0, hx242_1, hx242_2, hx242_3⟩ := at_T49 HR1.out x5_1 p242 q242
         cases e242
         replace p242 := eq_true p242
         replace q242 := eq_true q242
         have p243 : 0 ≤ (x5_1 : Int) := of_decide_eq_true (by first | (with_reducible assumption) | assumption)
         have q243 : x5_1 < (l0.length : Int) := of_decide_eq_true (by first | (with_reducible assumption) | assumption)
         obtain ⟨ad243, e243, hx243_0, hx243_1, hx243_2, hx243_3⟩ := at_T71 HR0.out x5_1 p243 q243
         obtain rfl : ad241 = ad243 := (by injection e243)
         replace p243 := eq_true p243
         replace q243 := eq_true q243
         have p244 : 0 ≤ (x5_1 : Int) := of_decide_eq_true (by first | (with_reducible assumption) | assumption)
         have q244 : x5_1 < (l1.length : Int) := of_decide_eq_true (by first | (with_reducible assumption) | assumption)
         obtain ⟨ad244, e244, hx244_0, hx244_1, hx244_2, hx244_3⟩ := at_T49 HR1.out x5_1 p244 q244
         obtain rfl : ad242 = ad244 := (by injection e244)
         replace p244 := eq_true p244
         replace q244 := eq_true q244
         go_wp2
         repeat (go_quiet (fail); try go_wp2)
         go_ret
         exact ⟨by first | rfl | (simp; done) | (simp [*]; done), by repeat (first | exact Drawn0.refl _ | apply Drawn0.step)⟩
       ·rw [if_neg c7] at H
        have c7b0 : (((rd_T71 l0 x5_1).f0).toList == ((rd_T49 l1 x5_1).f0).toList) = false := beq_eq_false_iff_ne.mpr c7
        have c7b1 : (((rd_T71 l0 x5_1).f0).toList != ((rd_T49 l1 x5_1).f0).toList) = true := bne_iff_ne.mpr c7
        obtain rfl := Option.some.inj H
        have p241 : 0 ≤ (x5_1 : Int) := of_decide_eq_true (by first | (with_reducible assumption) | assumption)
        have q241 : x5_1 < (l0.length : Int) := of_decide_eq_true (by first | (with_reducible assumption) | assumption)
        obtain ⟨ad241, e241, hx241_0, hx241_1, hx241_2, hx241_3⟩ := at_T71 HR0.out x5_1 p241 q241
        cases e241
        replace p241 := eq_true p241
        replace q241 := eq_true q241
        have p242 : 0 ≤ (x5_1 : Int) := of_decide_eq_true (by first | (with_reducible assumption) | assumption)
        have q242 : x5_1 < (l1.length : Int) := of_decide_eq_true (by first | (with_reducible assumption) | assumption)
        obtain ⟨ad242, e242, hx242_0, hx242_1, hx242_2, hx242_3⟩ := at_T49 HR1.out x5_1 p242 q242
        cases e242
        replace p242 := eq_true p242
        replace q242 := eq_true q242
        go_wp2
        repeat (go_quiet (fail); try go_wp2)
        go_ret
        exact ⟨by first | rfl | (simp; done) | (simp [*]; done), by repeat (first | exact Drawn0.refl _ | apply Drawn0.step)⟩
      ·rw [if_neg c6] at H
       exact absurd H (by simp)
     ·rw [if_neg c5] at H
      exact absurd H (by simp)
    ·rw [if_neg c4] at H
     have c4b0 : decide (x5_1 < (l0.length : Int)) = false := decide_eq_false c4
     clear c4
     obtain rfl := Option.some.inj H
     go_wp2
     repeat (go_quiet (fail); try go_wp2)
     go_ret
     exact ⟨by first | rfl | (simp; done) | (simp [*]; done), by repeat (first | exact Drawn0.refl _ | apply Drawn0.step)⟩
 ·rw [if_neg c3] at H
  have c3b0 : ((l0.length : Int) == (l1.length : Int)) = false := beq_eq_false_iff_ne.mpr c3
  have c3b1 : ((l0.length : Int) != (l1.length : Int)) = true := bne_iff_ne.mpr c3
  have c3b2 : (l0.length == l1.length) = false := by first | simpa using c3 | (simp at c3 ⊢; omega)
  obtain rfl := Option.some.inj H
  go_enter Tryd.func17, Tryd.ntmps17
  go_wp2
  repeat (go_quiet (fail); try go_wp2)
  go_ret
  exact ⟨by first | rfl | (simp; done) | (simp [*]; done), by repeat (first | exact Drawn0.refl _ | apply Drawn0.step)⟩
end Go.Proofs.YtpclapnmiacfpaaDoor.Q
end
