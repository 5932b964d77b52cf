/- Lemmas for the card of DeliveryDecompose: contracts of the functions that the law reaches. Conditions: each lemma's own. Laid together out of this session's texts. -/
import Derived.Test.YtpclapnmiacfpaaDoorZ4
set_option linter.unusedVariables false
set_option linter.unusedSimpArgs false
section
namespace Go.Proofs.YtpclapnmiacfpaaDoor.Q
open Go.RowKit Go.Proofs.YtpclapnmiacfpaaDoorW.PrintWords Go.Proofs.YtpclapnmiacfpaaDoorW.PrintLast Go.Proofs.YtpclapnmiacfpaaDoorW.PrintMore
attribute [local go_sem] max2_int min2_int max_two min_two max_three min_three max_four min_four
set_option linter.unusedVariables false
set_option linter.unusedSimpArgs false
mutual
def giroref23_Check.j0 : Nat → Bool → Int → ByteArray → ByteArray → ByteArray → Int → Int → Int → Int → Int → Bool → Int → ByteArray → ByteArray → Option (Int)
 | 0, _, _, _, _, _, _, _, _, _, _, _, _, _, _ => none
 | k + 1, x10, x173000, x173001, x173002, x173003, x173004, x173005, x173006, x173007, x173008, x173009, x173010, x173011, x173012 => if x10 = true then (some 11) else ((giroref23_valid.f k 1 x173001).bind fun t173 => (if t173 = true then ((giroref23_valid.f k 1 x173002).bind fun t174 => (giroref23_Check.j1 k (!t174) x173000 x173001 x173002 x173003 x173004 x173005 x173006 x173007 x173008 x173009 x173010 x173011 x173012)) else (giroref23_Check.j1 k true x173000 x173001 x173002 x173003 x173004 x173005 x173006 x173007 x173008 x173009 x173010 x173011 x173012)))
def giroref23_Check.j1 : Nat → Bool → Int → ByteArray → ByteArray → ByteArray → Int → Int → Int → Int → Int → Bool → Int → ByteArray → ByteArray → Option (Int)
 | 0, _, _, _, _, _, _, _, _, _, _, _, _, _, _ => none
 | k + 1, x20, x173000, x173001, x173002, x173003, x173004, x173005, x173006, x173007, x173008, x173009, x173010, x173011, x173012 => if x20 = true then (some 6) else (if x173001.toList = x173002.toList then (some 1) else ((giroref23_valid.f k 0 x173003).bind fun t175 => (if t175 = true then (if x173004 < 1 then (giroref23_Check.j2 k true x173000 x173001 x173002 x173003 x173004 x173005 x173006 x173007 x173008 x173009 x173010 x173011 x173012) else (if x173004 > 1000000000000000 then (giroref23_Check.j2 k true x173000 x173001 x173002 x173003 x173004 x173005 x173006 x173007 x173008 x173009 x173010 x173011 x173012) else (if x173000 = 1 then (if x173005 < 1 then (giroref23_Check.j2 k true x173000 x173001 x173002 x173003 x173004 x173005 x173006 x173007 x173008 x173009 x173010 x173011 x173012) else (if x173005 > 1000000000000000 then (giroref23_Check.j2 k true x173000 x173001 x173002 x173003 x173004 x173005 x173006 x173007 x173008 x173009 x173010 x173011 x173012) else (if x173000 = 2 then (giroref23_Check.j2 k (x173005 != 0) x173000 x173001 x173002 x173003 x173004 x173005 x173006 x173007 x173008 x173009 x173010 x173011 x173012) else (giroref23_Check.j2 k false x173000 x173001 x173002 x173003 x173004 x173005 x173006 x173007 x173008 x173009 x173010 x173011 x173012)))) else (if x173000 = 2 then (giroref23_Check.j2 k (x173005 != 0) x173000 x173001 x173002 x173003 x173004 x173005 x173006 x173007 x173008 x173009 x173010 x173011 x173012) else (giroref23_Check.j2 k false x173000 x173001 x173002 x173003 x173004 x173005 x173006 x173007 x173008 x173009 x173010 x173011 x173012))))) else (some 6))))
def giroref23_Check.j2 : Nat → Bool → Int → ByteArray → ByteArray → ByteArray → Int → Int → Int → Int → Int → Bool → Int → ByteArray → ByteArray → Option (Int)
 | 0, _, _, _, _, _, _, _, _, _, _, _, _, _, _ => none
 | k + 1, x62, x173000, x173001, x173002, x173003, x173004, x173005, x173006, x173007, x173008, x173009, x173010, x173011, x173012 => if x62 = true then (some 2) else (if x173007 < 0 then (giroref23_Check.j3 k true x173000 x173001 x173002 x173003 x173004 x173005 x173006 x173007 x173008 x173009 x173010 x173011 x173012) else (if x173007 > 73048 then (giroref23_Check.j3 k true x173000 x173001 x173002 x173003 x173004 x173005 x173006 x173007 x173008 x173009 x173010 x173011 x173012) else (if x173006 < 0 then (giroref23_Check.j3 k true x173000 x173001 x173002 x173003 x173004 x173005 x173006 x173007 x173008 x173009 x173010 x173011 x173012) else (giroref23_Check.j3 k (decide (x173006 > x173007)) x173000 x173001 x173002 x173003 x173004 x173005 x173006 x173007 x173008 x173009 x173010 x173011 x173012))))
def giroref23_Check.j3 : Nat → Bool → Int → ByteArray → ByteArray → ByteArray → Int → Int → Int → Int → Int → Bool → Int → ByteArray → ByteArray → Option (Int)
 | 0, _, _, _, _, _, _, _, _, _, _, _, _, _, _ => none
 | k + 1, x82, x173000, x173001, x173002, x173003, x173004, x173005, x173006, x173007, x173008, x173009, x173010, x173011, x173012 => if x82 = true then (some 28) else (if x173008 < 0 then (giroref23_Check.j4 k true x173000 x173001 x173002 x173003 x173004 x173005 x173006 x173007 x173008 x173009 x173010 x173011 x173012) else (giroref23_Check.j4 k (decide (x173008 > 2)) x173000 x173001 x173002 x173003 x173004 x173005 x173006 x173007 x173008 x173009 x173010 x173011 x173012))
def giroref23_Check.j4 : Nat → Bool → Int → ByteArray → ByteArray → ByteArray → Int → Int → Int → Int → Int → Bool → Int → ByteArray → ByteArray → Option (Int)
 | 0, _, _, _, _, _, _, _, _, _, _, _, _, _, _ => none
 | k + 1, x90, x173000, x173001, x173002, x173003, x173004, x173005, x173006, x173007, x173008, x173009, x173010, x173011, x173012 => if x90 = true then (some 2) else (if x173009 = true then (if x173010 < 1 then (giroref23_Check.j5 k true x173000 x173001 x173002 x173003 x173004 x173005 x173006 x173007 x173008 x173009 x173010 x173011 x173012) else (if x173010 > x173004 then (giroref23_Check.j5 k true x173000 x173001 x173002 x173003 x173004 x173005 x173006 x173007 x173008 x173009 x173010 x173011 x173012) else (giroref23_Check.j5 k false x173000 x173001 x173002 x173003 x173004 x173005 x173006 x173007 x173008 x173009 x173010 x173011 x173012))) else (giroref23_Check.j5 k (x173010 != 0) x173000 x173001 x173002 x173003 x173004 x173005 x173006 x173007 x173008 x173009 x173010 x173011 x173012))
def giroref23_Check.j5 : Nat → Bool → Int → ByteArray → ByteArray → ByteArray → Int → Int → Int → Int → Int → Bool → Int → ByteArray → ByteArray → Option (Int)
 | 0, _, _, _, _, _, _, _, _, _, _, _, _, _, _ => none
 | k + 1, x114, x173000, x173001, x173002, x173003, x173004, x173005, x173006, x173007, x173008, x173009, x173010, x173011, x173012 => if x114 = true then (some 2) else ((giroref23_valid.f k 2 x173011).bind fun t176 => (if t176 = true then ((giroref23_valid.f k 2 x173012).bind fun t177 => (if t177 = true then (some 0) else (some 6))) else (some 6)))
end
def giroref23_Check.f (k : Nat) (a0_0 : Int) (a0_1 : ByteArray) (a0_2 : ByteArray) (a0_3 : ByteArray) (a0_4 : Int) (a0_5 : Int) (a0_6 : Int) (a0_7 : Int) (a0_8 : Int) (a0_9 : Bool) (a0_10 : Int) (a0_11 : ByteArray) (a0_12 : ByteArray) : Option (Int) := if a0_0 = 1 then (giroref23_Check.j0 k false a0_0 a0_1 a0_2 a0_3 a0_4 a0_5 a0_6 a0_7 a0_8 a0_9 a0_10 a0_11 a0_12) else (giroref23_Check.j0 k (a0_0 != 2) a0_0 a0_1 a0_2 a0_3 a0_4 a0_5 a0_6 a0_7 a0_8 a0_9 a0_10 a0_11 a0_12)
theorem giroref23_Check.mono_l : ∀ k, (∀ y0 y1 y2 y3 y4 y5 y6 y7 y8 y9 y10 y11 y12 y13, LeO (giroref23_Check.j0 k y0 y1 y2 y3 y4 y5 y6 y7 y8 y9 y10 y11 y12 y13) (giroref23_Check.j0 (k + 1) y0 y1 y2 y3 y4 y5 y6 y7 y8 y9 y10 y11 y12 y13)) ∧ (∀ y0 y1 y2 y3 y4 y5 y6 y7 y8 y9 y10 y11 y12 y13, LeO (giroref23_Check.j1 k y0 y1 y2 y3 y4 y5 y6 y7 y8 y9 y10 y11 y12 y13) (giroref23_Check.j1 (k + 1) y0 y1 y2 y3 y4 y5 y6 y7 y8 y9 y10 y11 y12 y13)) ∧ (∀ y0 y1 y2 y3 y4 y5 y6 y7 y8 y9 y10 y11 y12 y13, LeO (giroref23_Check.j2 k y0 y1 y2 y3 y4 y5 y6 y7 y8 y9 y10 y11 y12 y13) (giroref23_Check.j2 (k + 1) y0 y1 y2 y3 y4 y5 y6 y7 y8 y9 y10 y11 y12 y13)) ∧ (∀ y0 y1 y2 y3 y4 y5 y6 y7 y8 y9 y10 y11 y12 y13, LeO (giroref23_Check.j3 k y0 y1 y2 y3 y4 y5 y6 y7 y8 y9 y10 y11 y12 y13) (giroref23_Check.j3 (k + 1) y0 y1 y2 y3 y4 y5 y6 y7 y8 y9 y10 y11 y12 y13)) ∧ (∀ y0 y1 y2 y3 y4 y5 y6 y7 y8 y9 y10 y11 y12 y13, LeO (giroref23_Check.j4 k y0 y1 y2 y3 y4 y5 y6 y7 y8 y9 y10 y11 y12 y13) (giroref23_Check.j4 (k + 1) y0 y1 y2 y3 y4 y5 y6 y7 y8 y9 y10 y11 y12 y13)) ∧ (∀ y0 y1 y2 y3 y4 y5 y6 y7 y8 y9 y10 y11 y12 y13, LeO (giroref23_Check.j5 k y0 y1 y2 y3 y4 y5 y6 y7 y8 y9 y10 y11 y12 y13) (giroref23_Check.j5 (k + 1) y0 y1 y2 y3 y4 y5 y6 y7 y8 y9 y10 y11 y12 y13))
 | 0 => ⟨fun _ _ _ _ _ _ _ _ _ _ _ _ _ _ r h => by simp [giroref23_Check.j0] at h, fun _ _ _ _ _ _ _ _ _ _ _ _ _ _ r h => by simp [giroref23_Check.j1] at h, fun _ _ _ _ _ _ _ _ _ _ _ _ _ _ r h => by simp [giroref23_Check.j2] at h, fun _ _ _ _ _ _ _ _ _ _ _ _ _ _ r h => by simp [giroref23_Check.j3] at h, fun _ _ _ _ _ _ _ _ _ _ _ _ _ _ r h => by simp [giroref23_Check.j4] at h, fun _ _ _ _ _ _ _ _ _ _ _ _ _ _ r h => by simp [giroref23_Check.j5] at h⟩
 | k + 1 => by
  obtain ⟨ih0, ih1, ih2, ih3, ih4, ih5⟩ := giroref23_Check.mono_l k
  refine ⟨?_, ?_, ?_, ?_, ?_, ?_⟩
  ·intro y0 y1 y2 y3 y4 y5 y6 y7 y8 y9 y10 y11 y12 y13
   unfold giroref23_Check.j0
   repeat' first
   | (with_reducible exact ih0 _ _ _ _ _ _ _ _ _ _ _ _ _ _)
   | (with_reducible exact ih1 _ _ _ _ _ _ _ _ _ _ _ _ _ _)
   | (with_reducible exact ih2 _ _ _ _ _ _ _ _ _ _ _ _ _ _)
   | (with_reducible exact ih3 _ _ _ _ _ _ _ _ _ _ _ _ _ _)
   | (with_reducible exact ih4 _ _ _ _ _ _ _ _ _ _ _ _ _ _)
   | (with_reducible exact ih5 _ _ _ _ _ _ _ _ _ _ _ _ _ _)
   | (with_reducible exact giroref23_valid.mono _ _ _)
   | (with_reducible exact LeO.refl _)
   | (with_reducible exact LeO.none _)
   | (with_reducible refine LeO.ite ?_ ?_)
   | (with_reducible refine LeO.bind ?_ (fun _ => ?_))
   | exact ih0 _ _ _ _ _ _ _ _ _ _ _ _ _ _
   | exact ih1 _ _ _ _ _ _ _ _ _ _ _ _ _ _
   | exact ih2 _ _ _ _ _ _ _ _ _ _ _ _ _ _
   | exact ih3 _ _ _ _ _ _ _ _ _ _ _ _ _ _
   | exact ih4 _ _ _ _ _ _ _ _ _ _ _ _ _ _
   | exact ih5 _ _ _ _ _ _ _ _ _ _ _ _ _ _
   | exact giroref23_valid.mono _ _ _
   | exact LeO.none _
   | refine LeO.ite ?_ ?_
   | refine LeO.bind ?_ (fun _ => ?_)
  ·intro y0 y1 y2 y3 y4 y5 y6 y7 y8 y9 y10 y11 y12 y13
   unfold giroref23_Check.j1
   repeat' first
   | (with_reducible exact ih0 _ _ _ _ _ _ _ _ _ _ _ _ _ _)
   | (with_reducible exact ih1 _ _ _ _ _ _ _ _ _ _ _ _ _ _)
   | (with_reducible exact ih2 _ _ _ _ _ _ _ _ _ _ _ _ _ _)
   | (with_reducible exact ih3 _ _ _ _ _ _ _ _ _ _ _ _ _ _)
   | (with_reducible exact ih4 _ _ _ _ _ _ _ _ _ _ _ _ _ _)
   | (with_reducible exact ih5 _ _ _ _ _ _ _ _ _ _ _ _ _ _)
   | (with_reducible exact giroref23_valid.mono _ _ _)
   | (with_reducible exact LeO.refl _)
   | (with_reducible exact LeO.none _)
   | (with_reducible refine LeO.ite ?_ ?_)
   | (with_reducible refine LeO.bind ?_ (fun _ => ?_))
   | exact ih0 _ _ _ _ _ _ _ _ _ _ _ _ _ _
   | exact ih1 _ _ _ _ _ _ _ _ _ _ _ _ _ _
   | exact ih2 _ _ _ _ _ _ _ _ _ _ _ _ _ _
   | exact ih3 _ _ _ _ _ _ _ _ _ _ _ _ _ _
   | exact ih4 _ _ _ _ _ _ _ _ _ _ _ _ _ _
   | exact ih5 _ _ _ _ _ _ _ _ _ _ _ _ _ _
   | exact giroref23_valid.mono _ _ _
   | exact LeO.none _
   | refine LeO.ite ?_ ?_
   | refine LeO.bind ?_ (fun _ => ?_)
  ·intro y0 y1 y2 y3 y4 y5 y6 y7 y8 y9 y10 y11 y12 y13
   unfold giroref23_Check.j2
   repeat' first
   | (with_reducible exact ih0 _ _ _ _ _ _ _ _ _ _ _ _ _ _)
   | (with_reducible exact ih1 _ _ _ _ _ _ _ _ _ _ _ _ _ _)
   | (with_reducible exact ih2 _ _ _ _ _ _ _ _ _ _ _ _ _ _)
   | (with_reducible exact ih3 _ _ _ _ _ _ _ _ _ _ _ _ _ _)
   | (with_reducible exact ih4 _ _ _ _ _ _ _ _ _ _ _ _ _ _)
   | (with_reducible exact ih5 _ _ _ _ _ _ _ _ _ _ _ _ _ _)
   | (with_reducible exact giroref23_valid.mono _ _ _)
   | (with_reducible exact LeO.refl _)
   | (with_reducible exact LeO.none _)
   | (with_reducible refine LeO.ite ?_ ?_)
   | (with_reducible refine LeO.bind ?_ (fun _ => ?_))
   | exact ih0 _ _ _ _ _ _ _ _ _ _ _ _ _ _
   | exact ih1 _ _ _ _ _ _ _ _ _ _ _ _ _ _
   | exact ih2 _ _ _ _ _ _ _ _ _ _ _ _ _ _
   | exact ih3 _ _ _ _ _ _ _ _ _ _ _ _ _ _
   | exact ih4 _ _ _ _ _ _ _ _ _ _ _ _ _ _
   | exact ih5 _ _ _ _ _ _ _ _ _ _ _ _ _ _
   | exact giroref23_valid.mono _ _ _
   | exact LeO.none _
   | refine LeO.ite ?_ ?_
   | refine LeO.bind ?_ (fun _ => ?_)
  ·intro y0 y1 y2 y3 y4 y5 y6 y7 y8 y9 y10 y11 y12 y13
   unfold giroref23_Check.j3
   repeat' first
   | (with_reducible exact ih0 _ _ _ _ _ _ _ _ _ _ _ _ _ _)
   | (with_reducible exact ih1 _ _ _ _ _ _ _ _ _ _ _ _ _ _)
   | (with_reducible exact ih2 _ _ _ _ _ _ _ _ _ _ _ _ _ _)
   | (with_reducible exact ih3 _ _ _ _ _ _ _ _ _ _ _ _ _ _)
   | (with_reducible exact ih4 _ _ _ _ _ _ _ _ _ _ _ _ _ _)
   | (with_reducible exact ih5 _ _ _ _ _ _ _ _ _ _ _ _ _ _)
   | (with_reducible exact giroref23_valid.mono _ _ _)
   | (with_reducible exact LeO.refl _)
   | (with_reducible exact LeO.none _)
   | (with_reducible refine LeO.ite ?_ ?_)
   | (with_reducible refine LeO.bind ?_ (fun _ => ?_))
   | exact ih0 _ _ _ _ _ _ _ _ _ _ _ _ _ _
   | exact ih1 _ _ _ _ _ _ _ _ _ _ _ _ _ _
   | exact ih2 _ _ _ _ _ _ _ _ _ _ _ _ _ _
   | exact ih3 _ _ _ _ _ _ _ _ _ _ _ _ _ _
   | exact ih4 _ _ _ _ _ _ _ _ _ _ _ _ _ _
   | exact ih5 _ _ _ _ _ _ _ _ _ _ _ _ _ _
   | exact giroref23_valid.mono _ _ _
   | exact LeO.none _
   | refine LeO.ite ?_ ?_
   | refine LeO.bind ?_ (fun _ => ?_)
  ·intro y0 y1 y2 y3 y4 y5 y6 y7 y8 y9 y10 y11 y12 y13
   unfold giroref23_Check.j4
   repeat' first
   | (with_reducible exact ih0 _ _ _ _ _ _ _ _ _ _ _ _ _ _)
   | (with_reducible exact ih1 _ _ _ _ _ _ _ _ _ _ _ _ _ _)
   | (with_reducible exact ih2 _ _ _ _ _ _ _ _ _ _ _ _ _ _)
   | (with_reducible exact ih3 _ _ _ _ _ _ _ _ _ _ _ _ _ _)
   | (with_reducible exact ih4 _ _ _ _ _ _ _ _ _ _ _ _ _ _)
   | (with_reducible exact ih5 _ _ _ _ _ _ _ _ _ _ _ _ _ _)
   | (with_reducible exact giroref23_valid.mono _ _ _)
   | (with_reducible exact LeO.refl _)
   | (with_reducible exact LeO.none _)
   | (with_reducible refine LeO.ite ?_ ?_)
   | (with_reducible refine LeO.bind ?_ (fun _ => ?_))
   | exact ih0 _ _ _ _ _ _ _ _ _ _ _ _ _ _
   | exact ih1 _ _ _ _ _ _ _ _ _ _ _ _ _ _
   | exact ih2 _ _ _ _ _ _ _ _ _ _ _ _ _ _
   | exact ih3 _ _ _ _ _ _ _ _ _ _ _ _ _ _
   | exact ih4 _ _ _ _ _ _ _ _ _ _ _ _ _ _
   | exact ih5 _ _ _ _ _ _ _ _ _ _ _ _ _ _
   | exact giroref23_valid.mono _ _ _
   | exact LeO.none _
   | refine LeO.ite ?_ ?_
   | refine LeO.bind ?_ (fun _ => ?_)
  ·intro y0 y1 y2 y3 y4 y5 y6 y7 y8 y9 y10 y11 y12 y13
   unfold giroref23_Check.j5
   repeat' first
   | (with_reducible exact ih0 _ _ _ _ _ _ _ _ _ _ _ _ _ _)
   | (with_reducible exact ih1 _ _ _ _ _ _ _ _ _ _ _ _ _ _)
   | (with_reducible exact ih2 _ _ _ _ _ _ _ _ _ _ _ _ _ _)
   | (with_reducible exact ih3 _ _ _ _ _ _ _ _ _ _ _ _ _ _)
   | (with_reducible exact ih4 _ _ _ _ _ _ _ _ _ _ _ _ _ _)
   | (with_reducible exact ih5 _ _ _ _ _ _ _ _ _ _ _ _ _ _)
   | (with_reducible exact giroref23_valid.mono _ _ _)
   | (with_reducible exact LeO.refl _)
   | (with_reducible exact LeO.none _)
   | (with_reducible refine LeO.ite ?_ ?_)
   | (with_reducible refine LeO.bind ?_ (fun _ => ?_))
   | exact ih0 _ _ _ _ _ _ _ _ _ _ _ _ _ _
   | exact ih1 _ _ _ _ _ _ _ _ _ _ _ _ _ _
   | exact ih2 _ _ _ _ _ _ _ _ _ _ _ _ _ _
   | exact ih3 _ _ _ _ _ _ _ _ _ _ _ _ _ _
   | exact ih4 _ _ _ _ _ _ _ _ _ _ _ _ _ _
   | exact ih5 _ _ _ _ _ _ _ _ _ _ _ _ _ _
   | exact giroref23_valid.mono _ _ _
   | exact LeO.none _
   | refine LeO.ite ?_ ?_
   | refine LeO.bind ?_ (fun _ => ?_)
theorem giroref23_Check.mono : ∀ a0 a1 a2 a3 a4 a5 a6 a7 a8 a9 a10 a11 a12 k, LeO (giroref23_Check.f k a0 a1 a2 a3 a4 a5 a6 a7 a8 a9 a10 a11 a12) (giroref23_Check.f (k + 1) a0 a1 a2 a3 a4 a5 a6 a7 a8 a9 a10 a11 a12) := by
 intro a0 a1 a2 a3 a4 a5 a6 a7 a8 a9 a10 a11 a12 k
 obtain ⟨ih0, ih1, ih2, ih3, ih4, ih5⟩ := giroref23_Check.mono_l k
 unfold giroref23_Check.f
 repeat' first
   | (with_reducible exact ih0 _ _ _ _ _ _ _ _ _ _ _ _ _ _)
   | (with_reducible exact ih1 _ _ _ _ _ _ _ _ _ _ _ _ _ _)
   | (with_reducible exact ih2 _ _ _ _ _ _ _ _ _ _ _ _ _ _)
   | (with_reducible exact ih3 _ _ _ _ _ _ _ _ _ _ _ _ _ _)
   | (with_reducible exact ih4 _ _ _ _ _ _ _ _ _ _ _ _ _ _)
   | (with_reducible exact ih5 _ _ _ _ _ _ _ _ _ _ _ _ _ _)
   | (with_reducible exact giroref23_valid.mono _ _ _)
   | (with_reducible exact LeO.refl _)
   | (with_reducible exact LeO.none _)
   | (with_reducible refine LeO.ite ?_ ?_)
   | (with_reducible refine LeO.bind ?_ (fun _ => ?_))
   | exact ih0 _ _ _ _ _ _ _ _ _ _ _ _ _ _
   | exact ih1 _ _ _ _ _ _ _ _ _ _ _ _ _ _
   | exact ih2 _ _ _ _ _ _ _ _ _ _ _ _ _ _
   | exact ih3 _ _ _ _ _ _ _ _ _ _ _ _ _ _
   | exact ih4 _ _ _ _ _ _ _ _ _ _ _ _ _ _
   | exact ih5 _ _ _ _ _ _ _ _ _ _ _ _ _ _
   | exact giroref23_valid.mono _ _ _
   | exact LeO.none _
   | refine LeO.ite ?_ ?_
   | refine LeO.bind ?_ (fun _ => ?_)
set_option maxHeartbeats 8000000 in
set_option maxRecDepth 100000 in
theorem giroref23_Check.calls (k : Nat) (a0_0 : Int) (a0_1 : ByteArray) (a0_2 : ByteArray) (a0_3 : ByteArray) (a0_4 : Int) (a0_5 : Int) (a0_6 : Int) (a0_7 : Int) (a0_8 : Int) (a0_9 : Bool) (a0_10 : Int) (a0_11 : ByteArray) (a0_12 : ByteArray) (r : Int) (w : World) (h : giroref23_Check.f k a0_0 a0_1 a0_2 a0_3 a0_4 a0_5 a0_6 a0_7 a0_8 a0_9 a0_10 a0_11 a0_12 = some r) :
  Calls Tryd.prog 9 #[.agg #[.int .i64 a0_0, .string a0_1, .string a0_2, .string a0_3, .int .i64 a0_4, .int .i64 a0_5, .int .i64 a0_6, .int .i64 a0_7, .int .i64 a0_8, .bool a0_9, .int .i64 a0_10, .string a0_11, .string a0_12]] w fun e w' => e = .returned (.int .i64 r) ∧ Below w.heap.size w w' := by
 have hu24 := Tryd.underlying24
 have HB := Aside0.mk (Below.refl w.heap.size w)
 have H : (if a0_0 = 1 then (giroref23_Check.j0 k false a0_0 a0_1 a0_2 a0_3 a0_4 a0_5 a0_6 a0_7 a0_8 a0_9 a0_10 a0_11 a0_12) else (giroref23_Check.j0 k (a0_0 != 2) a0_0 a0_1 a0_2 a0_3 a0_4 a0_5 a0_6 a0_7 a0_8 a0_9 a0_10 a0_11 a0_12)) = some r := h
 clear h
 have HC2 := Aside0.mk H
 clear H
 go_enter Tryd.func9, Tryd.ntmps9
 go_upto_region 1 with (first | ((with_reducible refine gate_dst (N := 1) rfl ?_); refine box_event ?hg (N := 1) ?hd (cs := #[.int .i64 a0_0, .string a0_1, .string a0_2, .string a0_3, .int .i64 a0_4, .int .i64 a0_5, .int .i64 a0_6, .int .i64 a0_7, .int .i64 a0_8, .bool a0_9, .int .i64 a0_10, .string a0_11, .string a0_12]) (t := 24) ?hr ?_; (case hd => rfl); (case hg => rfl); (case hr => first | (go_simp; done) | (go_simp; rfl)); intro gb172 hg w3 hbox hb; have n0_ := Aside0.mk (below_step (by repeat (first | (with_reducible first | exact HB.out | apply below_alloc | apply pw_below_drewN | apply below_drew1) | exact HB.out)) hb); have n1_ := Aside0.mk (hbox); have n2_ := Aside0.mk ((by rw [hg]; exact (below_size (by repeat (first | (with_reducible first | exact HB.out | apply below_alloc | apply pw_below_drewN | apply below_drew1) | exact HB.out))) : w.heap.size ≤ gb172)); have n3_ := Aside0.mk ((by rw [hg]; exact (below_size (by repeat (first | (with_reducible first | exact HB.out | apply below_alloc | apply pw_below_drewN | apply below_drew1) | exact HB.out))) : w.heap.size ≤ gb172)); clear HB; have HB := n0_; have BK172 := n1_; have GW172 := n2_; have GE172 := n3_; clear n0_ n1_ n2_ n3_; clear hb hbox hg))
 (try simp only [Act.put, List.setIfInBounds_toArray, List.set_cons_zero, List.set_cons_succ])
 go_cut [10] (fun v10 wc => ∃ (kq : Nat) (x10_1 : Bool), v10 = .bool x10_1 ∧ Aside0 (giroref23_Check.j0 kq x10_1 a0_0 a0_1 a0_2 a0_3 a0_4 a0_5 a0_6 a0_7 a0_8 a0_9 a0_10 a0_11 a0_12 = some r) ∧ Aside0 (kq ≤ k) ∧ Aside0 (wc.heap[gb172]? = some (.cells #[.int .i64 a0_0, .string a0_1, .string a0_2, .string a0_3, .int .i64 a0_4, .int .i64 a0_5, .int .i64 a0_6, .int .i64 a0_7, .int .i64 a0_8, .bool a0_9, .int .i64 a0_10, .string a0_11, .string a0_12] 24 (0, 0))) ∧ Aside0 (Below w.heap.size w wc))
 case first =>
  have H := HC2.out
  clear HC2
  by_cases c4 : a0_0 = 1
  ·rw [if_pos c4] at H
   have c4b0 : (a0_0 == 1) = true := beq_iff_eq.mpr c4
   have c4b1 : (a0_0 != 1) = false := bne_eq_false_iff_eq.mpr c4
   clear c4
   (first | rw [c4b0] | (simp only [i64_w, i32_w]; rw [c4b0]) | skip)
   have H' := Aside0.mk H
   clear H
   have hcz5_0 : w3.cell? ⟨gb172, 0, none⟩ = some (.int .i64 a0_0) := (blk_cell BK172.out 0).trans rfl
   have hcz5_1 : w3.cell? ⟨gb172, 1, none⟩ = some (.string a0_1) := (blk_cell BK172.out 1).trans rfl
   have hcz5_2 : w3.cell? ⟨gb172, 2, none⟩ = some (.string a0_2) := (blk_cell BK172.out 2).trans rfl
   have hcz5_3 : w3.cell? ⟨gb172, 3, none⟩ = some (.string a0_3) := (blk_cell BK172.out 3).trans rfl
   have hcz5_4 : w3.cell? ⟨gb172, 4, none⟩ = some (.int .i64 a0_4) := (blk_cell BK172.out 4).trans rfl
   have hcz5_5 : w3.cell? ⟨gb172, 5, none⟩ = some (.int .i64 a0_5) := (blk_cell BK172.out 5).trans rfl
   have hcz5_6 : w3.cell? ⟨gb172, 6, none⟩ = some (.int .i64 a0_6) := (blk_cell BK172.out 6).trans rfl
   have hcz5_7 : w3.cell? ⟨gb172, 7, none⟩ = some (.int .i64 a0_7) := (blk_cell BK172.out 7).trans rfl
   have hcz5_8 : w3.cell? ⟨gb172, 8, none⟩ = some (.int .i64 a0_8) := (blk_cell BK172.out 8).trans rfl
   have hcz5_9 : w3.cell? ⟨gb172, 9, none⟩ = some (.bool a0_9) := (blk_cell BK172.out 9).trans rfl
   have hcz5_10 : w3.cell? ⟨gb172, 10, none⟩ = some (.int .i64 a0_10) := (blk_cell BK172.out 10).trans rfl
   have hcz5_11 : w3.cell? ⟨gb172, 11, none⟩ = some (.string a0_11) := (blk_cell BK172.out 11).trans rfl
   have hcz5_12 : w3.cell? ⟨gb172, 12, none⟩ = some (.string a0_12) := (blk_cell BK172.out 12).trans rfl
   have hfz5_0 := blk_frozen BK172.out 0
   have hfz5_1 := blk_frozen BK172.out 1
   have hfz5_2 := blk_frozen BK172.out 2
   have hfz5_3 := blk_frozen BK172.out 3
   have hfz5_4 := blk_frozen BK172.out 4
   have hfz5_5 := blk_frozen BK172.out 5
   have hfz5_6 := blk_frozen BK172.out 6
   have hfz5_7 := blk_frozen BK172.out 7
   have hfz5_8 := blk_frozen BK172.out 8
   have hfz5_9 := blk_frozen BK172.out 9
   have hfz5_10 := blk_frozen BK172.out 10
   have hfz5_11 := blk_frozen BK172.out 11
   have hfz5_12 := blk_frozen BK172.out 12
   go_wp2
   go_meet
   case rel => exact ⟨_, (false), (by first | rfl | (simp; done) | (simp [*]; done)), H', ⟨by first | omega | exact Nat.le_refl _⟩, ⟨by (with_reducible repeat (first | refine blk_drewN ?_ _ | refine blk_drew ?_ | refine blk_alloc ?_ _)); exact BK172.out⟩, ⟨by repeat (first | (with_reducible first | exact HB.out | apply below_alloc | apply pw_below_drewN | apply below_drew1 | refine below_set ?_ GE172.out) | exact HB.out)⟩⟩
  ·rw [if_neg c4] at H
   have c4b0 : (a0_0 == 1) = false := beq_eq_false_iff_ne.mpr c4
   have c4b1 : (a0_0 != 1) = true := bne_iff_ne.mpr c4
   (first | rw [c4b0] | (simp only [i64_w, i32_w]; rw [c4b0]) | skip)
   have H' := Aside0.mk H
   clear H
   have hcz6_0 : w3.cell? ⟨gb172, 0, none⟩ = some (.int .i64 a0_0) := (blk_cell BK172.out 0).trans rfl
   have hcz6_1 : w3.cell? ⟨gb172, 1, none⟩ = some (.string a0_1) := (blk_cell BK172.out 1).trans rfl
   have hcz6_2 : w3.cell? ⟨gb172, 2, none⟩ = some (.string a0_2) := (blk_cell BK172.out 2).trans rfl
   have hcz6_3 : w3.cell? ⟨gb172, 3, none⟩ = some (.string a0_3) := (blk_cell BK172.out 3).trans rfl
   have hcz6_4 : w3.cell? ⟨gb172, 4, none⟩ = some (.int .i64 a0_4) := (blk_cell BK172.out 4).trans rfl
   have hcz6_5 : w3.cell? ⟨gb172, 5, none⟩ = some (.int .i64 a0_5) := (blk_cell BK172.out 5).trans rfl
   have hcz6_6 : w3.cell? ⟨gb172, 6, none⟩ = some (.int .i64 a0_6) := (blk_cell BK172.out 6).trans rfl
   have hcz6_7 : w3.cell? ⟨gb172, 7, none⟩ = some (.int .i64 a0_7) := (blk_cell BK172.out 7).trans rfl
   have hcz6_8 : w3.cell? ⟨gb172, 8, none⟩ = some (.int .i64 a0_8) := (blk_cell BK172.out 8).trans rfl
   have hcz6_9 : w3.cell? ⟨gb172, 9, none⟩ = some (.bool a0_9) := (blk_cell BK172.out 9).trans rfl
   have hcz6_10 : w3.cell? ⟨gb172, 10, none⟩ = some (.int .i64 a0_10) := (blk_cell BK172.out 10).trans rfl
   have hcz6_11 : w3.cell? ⟨gb172, 11, none⟩ = some (.string a0_11) := (blk_cell BK172.out 11).trans rfl
   have hcz6_12 : w3.cell? ⟨gb172, 12, none⟩ = some (.string a0_12) := (blk_cell BK172.out 12).trans rfl
   have hfz6_0 := blk_frozen BK172.out 0
   have hfz6_1 := blk_frozen BK172.out 1
   have hfz6_2 := blk_frozen BK172.out 2
   have hfz6_3 := blk_frozen BK172.out 3
   have hfz6_4 := blk_frozen BK172.out 4
   have hfz6_5 := blk_frozen BK172.out 5
   have hfz6_6 := blk_frozen BK172.out 6
   have hfz6_7 := blk_frozen BK172.out 7
   have hfz6_8 := blk_frozen BK172.out 8
   have hfz6_9 := blk_frozen BK172.out 9
   have hfz6_10 := blk_frozen BK172.out 10
   have hfz6_11 := blk_frozen BK172.out 11
   have hfz6_12 := blk_frozen BK172.out 12
   go_wp2
   go_meet
   case rel => exact ⟨_, ((a0_0 != 2)), (by first | rfl | (simp; done) | (simp [*]; done)), H', ⟨by first | omega | exact Nat.le_refl _⟩, ⟨by (with_reducible repeat (first | refine blk_drewN ?_ _ | refine blk_drew ?_ | refine blk_alloc ?_ _)); exact BK172.out⟩, ⟨by repeat (first | (with_reducible first | exact HB.out | apply below_alloc | apply pw_below_drewN | apply below_drew1 | refine below_set ?_ GE172.out) | exact HB.out)⟩⟩
 case rest =>
  clear HC2
  try clear p2
  try clear c4
  try clear c4b0
  try clear c4b1
  try clear hcz5_0 hcz5_1 hcz5_10 hcz5_11 hcz5_12 hcz5_2 hcz5_3 hcz5_4 hcz5_5 hcz5_6 hcz5_7 hcz5_8 hcz5_9
  try clear hcz6_0 hcz6_1 hcz6_10 hcz6_11 hcz6_12 hcz6_2 hcz6_3 hcz6_4 hcz6_5 hcz6_6 hcz6_7 hcz6_8 hcz6_9
  try clear hfz5_0 hfz5_1 hfz5_10 hfz5_11 hfz5_12 hfz5_2 hfz5_3 hfz5_4 hfz5_5 hfz5_6 hfz5_7 hfz5_8 hfz5_9
  try clear hfz6_0 hfz6_1 hfz6_10 hfz6_11 hfz6_12 hfz6_2 hfz6_3 hfz6_4 hfz6_5 hfz6_6 hfz6_7 hfz6_8 hfz6_9
  obtain ⟨kq, x10_1, rfl, HA, HJ1, BK172, HB⟩ := hcut
  cases kq with
  | zero => exact absurd HA.out (by simp [giroref23_Check.j0])
  | succ kj1 =>
   have H := HA.out
   clear HA
   simp only [giroref23_Check.j0] at H
   by_cases c7 : x10_1 = true
   ·subst c7
    have H1 : (some 11) = some r := by rw [if_pos rfl] at H; exact H
    clear H
    have H := H1
    clear H1
    obtain rfl := Option.some.inj H
    go_wp2
    go_ret
    exact ⟨by first | rfl | (simp [errW_none, errW_some] <;> rfl) | (simp [*, errW_none, errW_some] <;> rfl), by repeat (first | (with_reducible first | exact HB.out | apply below_alloc | apply pw_below_drewN | apply below_drew1 | refine below_set ?_ GE172.out) | exact HB.out)⟩
   ·replace c7 := Bool.eq_false_iff.mpr c7
    subst c7
    have H1 : ((giroref23_valid.f kj1 1 a0_1).bind fun t173 => (if t173 = true then ((giroref23_valid.f kj1 1 a0_2).bind fun t174 => (giroref23_Check.j1 kj1 (!t174) a0_0 a0_1 a0_2 a0_3 a0_4 a0_5 a0_6 a0_7 a0_8 a0_9 a0_10 a0_11 a0_12)) else (giroref23_Check.j1 kj1 true a0_0 a0_1 a0_2 a0_3 a0_4 a0_5 a0_6 a0_7 a0_8 a0_9 a0_10 a0_11 a0_12))) = some r := by rw [if_neg (show ¬ (false = true) by decide)] at H; exact H
    clear H
    have H := H1
    clear H1
    have HC8 := Aside0.mk H
    clear H
    go_upto_region 3 with (fail)
    go_cut [20] (fun v20 wc => ∃ (kq : Nat) (x20_7 : Bool), v20 = .bool x20_7 ∧ Aside0 (giroref23_Check.j1 kq x20_7 a0_0 a0_1 a0_2 a0_3 a0_4 a0_5 a0_6 a0_7 a0_8 a0_9 a0_10 a0_11 a0_12 = some r) ∧ Aside0 (kq ≤ kj1) ∧ Aside0 (wc.heap[gb172]? = some (.cells #[.int .i64 a0_0, .string a0_1, .string a0_2, .string a0_3, .int .i64 a0_4, .int .i64 a0_5, .int .i64 a0_6, .int .i64 a0_7, .int .i64 a0_8, .bool a0_9, .int .i64 a0_10, .string a0_11, .string a0_12] 24 (0, 0))) ∧ Aside0 (Below w.heap.size w wc))
    case first =>
     have H := HC8.out
     clear HC8
     replace H := Option.bind_eq_some_iff.mp H
     obtain ⟨t173, A90, H⟩ := H
     replace H : (if t173 = true then ((giroref23_valid.f kj1 1 a0_2).bind fun t174 => (giroref23_Check.j1 kj1 (!t174) a0_0 a0_1 a0_2 a0_3 a0_4 a0_5 a0_6 a0_7 a0_8 a0_9 a0_10 a0_11 a0_12)) else (giroref23_Check.j1 kj1 true a0_0 a0_1 a0_2 a0_3 a0_4 a0_5 a0_6 a0_7 a0_8 a0_9 a0_10 a0_11 a0_12)) = some r := H
     have A9 := Aside0.mk A90
     clear A90
     by_cases c10 : t173 = true
     ·subst c10
      have H1 : ((giroref23_valid.f kj1 1 a0_2).bind fun t174 => (giroref23_Check.j1 kj1 (!t174) a0_0 a0_1 a0_2 a0_3 a0_4 a0_5 a0_6 a0_7 a0_8 a0_9 a0_10 a0_11 a0_12)) = some r := by rw [if_pos rfl] at H; exact H
      clear H
      have H := H1
      clear H1
      replace H := Option.bind_eq_some_iff.mp H
      obtain ⟨t174, A110, H⟩ := H
      replace H : (giroref23_Check.j1 kj1 (!t174) a0_0 a0_1 a0_2 a0_3 a0_4 a0_5 a0_6 a0_7 a0_8 a0_9 a0_10 a0_11 a0_12) = some r := H
      have A11 := Aside0.mk A110
      clear A110
      have H' := Aside0.mk H
      clear H
      have hcz12_0 : wc.cell? ⟨gb172, 0, none⟩ = some (.int .i64 a0_0) := (blk_cell BK172.out 0).trans rfl
      have hcz12_1 : wc.cell? ⟨gb172, 1, none⟩ = some (.string a0_1) := (blk_cell BK172.out 1).trans rfl
      have hcz12_2 : wc.cell? ⟨gb172, 2, none⟩ = some (.string a0_2) := (blk_cell BK172.out 2).trans rfl
      have hcz12_3 : wc.cell? ⟨gb172, 3, none⟩ = some (.string a0_3) := (blk_cell BK172.out 3).trans rfl
      have hcz12_4 : wc.cell? ⟨gb172, 4, none⟩ = some (.int .i64 a0_4) := (blk_cell BK172.out 4).trans rfl
      have hcz12_5 : wc.cell? ⟨gb172, 5, none⟩ = some (.int .i64 a0_5) := (blk_cell BK172.out 5).trans rfl
      have hcz12_6 : wc.cell? ⟨gb172, 6, none⟩ = some (.int .i64 a0_6) := (blk_cell BK172.out 6).trans rfl
      have hcz12_7 : wc.cell? ⟨gb172, 7, none⟩ = some (.int .i64 a0_7) := (blk_cell BK172.out 7).trans rfl
      have hcz12_8 : wc.cell? ⟨gb172, 8, none⟩ = some (.int .i64 a0_8) := (blk_cell BK172.out 8).trans rfl
      have hcz12_9 : wc.cell? ⟨gb172, 9, none⟩ = some (.bool a0_9) := (blk_cell BK172.out 9).trans rfl
      have hcz12_10 : wc.cell? ⟨gb172, 10, none⟩ = some (.int .i64 a0_10) := (blk_cell BK172.out 10).trans rfl
      have hcz12_11 : wc.cell? ⟨gb172, 11, none⟩ = some (.string a0_11) := (blk_cell BK172.out 11).trans rfl
      have hcz12_12 : wc.cell? ⟨gb172, 12, none⟩ = some (.string a0_12) := (blk_cell BK172.out 12).trans rfl
      have hfz12_0 := blk_frozen BK172.out 0
      have hfz12_1 := blk_frozen BK172.out 1
      have hfz12_2 := blk_frozen BK172.out 2
      have hfz12_3 := blk_frozen BK172.out 3
      have hfz12_4 := blk_frozen BK172.out 4
      have hfz12_5 := blk_frozen BK172.out 5
      have hfz12_6 := blk_frozen BK172.out 6
      have hfz12_7 := blk_frozen BK172.out 7
      have hfz12_8 := blk_frozen BK172.out 8
      have hfz12_9 := blk_frozen BK172.out 9
      have hfz12_10 := blk_frozen BK172.out 10
      have hfz12_11 := blk_frozen BK172.out 11
      have hfz12_12 := blk_frozen BK172.out 12
      go_wp2_with (first | ((with_reducible refine gate_callee (f := 25) rfl ?_); refine goesL_ (some 13) rfl rfl Tryd.func25 (by kernel_rfl) rfl #[.int .i64 1, .string a0_1] rfl (by (try simp only [List.map_toArray, List.map_cons, List.map_nil]); first | done | rfl | (simp only [List.length_drop, List.length_take]; rfl)) ?_; (with_reducible refine (giroref23_valid.calls kj1 1 a0_1 true _ A9.out).mono ?_); rintro e w13 ⟨rfl, hb⟩; refine ⟨_, rfl, ?_⟩; have n0_ := Aside0.mk (blk_below (g := gb172) (o := .cells #[.int .i64 a0_0, .string a0_1, .string a0_2, .string a0_3, .int .i64 a0_4, .int .i64 a0_5, .int .i64 a0_6, .int .i64 a0_7, .int .i64 a0_8, .bool a0_9, .int .i64 a0_10, .string a0_11, .string a0_12] 24 (0, 0)) (by (with_reducible repeat (first | refine blk_drewN ?_ _ | refine blk_drew ?_ | refine blk_alloc ?_ _)); exact BK172.out) hb); have n1_ := Aside0.mk (below_step (by repeat (first | (with_reducible first | exact HB.out | apply below_alloc | apply pw_below_drewN | apply below_drew1 | refine below_set ?_ GE172.out) | exact HB.out)) hb); clear BK172; clear HB; have BK172 := n0_; have HB := n1_; clear n0_ n1_; (try clear hb); (try clear hb2); (try clear hk); (try clear hi); have hcz14_0 : w13.cell? ⟨gb172, 0, none⟩ = some (.int .i64 a0_0) := (blk_cell BK172.out 0).trans rfl; have hcz14_1 : w13.cell? ⟨gb172, 1, none⟩ = some (.string a0_1) := (blk_cell BK172.out 1).trans rfl; have hcz14_2 : w13.cell? ⟨gb172, 2, none⟩ = some (.string a0_2) := (blk_cell BK172.out 2).trans rfl; have hcz14_3 : w13.cell? ⟨gb172, 3, none⟩ = some (.string a0_3) := (blk_cell BK172.out 3).trans rfl; have hcz14_4 : w13.cell? ⟨gb172, 4, none⟩ = some (.int .i64 a0_4) := (blk_cell BK172.out 4).trans rfl; have hcz14_5 : w13.cell? ⟨gb172, 5, none⟩ = some (.int .i64 a0_5) := (blk_cell BK172.out 5).trans rfl; have hcz14_6 : w13.cell? ⟨gb172, 6, none⟩ = some (.int .i64 a0_6) := (blk_cell BK172.out 6).trans rfl; have hcz14_7 : w13.cell? ⟨gb172, 7, none⟩ = some (.int .i64 a0_7) := (blk_cell BK172.out 7).trans rfl; have hcz14_8 : w13.cell? ⟨gb172, 8, none⟩ = some (.int .i64 a0_8) := (blk_cell BK172.out 8).trans rfl; have hcz14_9 : w13.cell? ⟨gb172, 9, none⟩ = some (.bool a0_9) := (blk_cell BK172.out 9).trans rfl; have hcz14_10 : w13.cell? ⟨gb172, 10, none⟩ = some (.int .i64 a0_10) := (blk_cell BK172.out 10).trans rfl; have hcz14_11 : w13.cell? ⟨gb172, 11, none⟩ = some (.string a0_11) := (blk_cell BK172.out 11).trans rfl; have hcz14_12 : w13.cell? ⟨gb172, 12, none⟩ = some (.string a0_12) := (blk_cell BK172.out 12).trans rfl; have hfz14_0 := blk_frozen BK172.out 0; have hfz14_1 := blk_frozen BK172.out 1; have hfz14_2 := blk_frozen BK172.out 2; have hfz14_3 := blk_frozen BK172.out 3; have hfz14_4 := blk_frozen BK172.out 4; have hfz14_5 := blk_frozen BK172.out 5; have hfz14_6 := blk_frozen BK172.out 6; have hfz14_7 := blk_frozen BK172.out 7; have hfz14_8 := blk_frozen BK172.out 8; have hfz14_9 := blk_frozen BK172.out 9; have hfz14_10 := blk_frozen BK172.out 10; have hfz14_11 := blk_frozen BK172.out 11; have hfz14_12 := blk_frozen BK172.out 12) | (go_at_call 25; (with_reducible refine (giroref23_valid.calls kj1 1 a0_2 t174 _ A11.out).mono ?_); rintro e w15 ⟨rfl, hb⟩; have n0_ := Aside0.mk (blk_below (g := gb172) (o := .cells #[.int .i64 a0_0, .string a0_1, .string a0_2, .string a0_3, .int .i64 a0_4, .int .i64 a0_5, .int .i64 a0_6, .int .i64 a0_7, .int .i64 a0_8, .bool a0_9, .int .i64 a0_10, .string a0_11, .string a0_12] 24 (0, 0)) (by (with_reducible repeat (first | refine blk_drewN ?_ _ | refine blk_drew ?_ | refine blk_alloc ?_ _)); exact BK172.out) hb); have n1_ := Aside0.mk (below_step (by repeat (first | (with_reducible first | exact HB.out | apply below_alloc | apply pw_below_drewN | apply below_drew1 | refine below_set ?_ GE172.out) | exact HB.out)) hb); clear BK172; clear HB; have BK172 := n0_; have HB := n1_; clear n0_ n1_; (try clear hb); (try clear hb2); (try clear hk); (try clear hi)))
      go_meet
      case rel => exact ⟨_, (!t174), (by first | rfl | (simp; done) | (simp [*]; done)), H', ⟨by have := HJ1.out; first | omega | exact Nat.le_refl _⟩, ⟨by (with_reducible repeat (first | refine blk_drewN ?_ _ | refine blk_drew ?_ | refine blk_alloc ?_ _)); exact BK172.out⟩, ⟨by repeat (first | (with_reducible first | exact HB.out | apply below_alloc | apply pw_below_drewN | apply below_drew1 | refine below_set ?_ GE172.out) | exact HB.out)⟩⟩
     ·replace c10 := Bool.eq_false_iff.mpr c10
      subst c10
      have H1 : (giroref23_Check.j1 kj1 true a0_0 a0_1 a0_2 a0_3 a0_4 a0_5 a0_6 a0_7 a0_8 a0_9 a0_10 a0_11 a0_12) = some r := by rw [if_neg (show ¬ (false = true) by decide)] at H; exact H
      clear H
      have H := H1
      clear H1
      have H' := Aside0.mk H
      clear H
      have hcz16_0 : wc.cell? ⟨gb172, 0, none⟩ = some (.int .i64 a0_0) := (blk_cell BK172.out 0).trans rfl
      have hcz16_1 : wc.cell? ⟨gb172, 1, none⟩ = some (.string a0_1) := (blk_cell BK172.out 1).trans rfl
      have hcz16_2 : wc.cell? ⟨gb172, 2, none⟩ = some (.string a0_2) := (blk_cell BK172.out 2).trans rfl
      have hcz16_3 : wc.cell? ⟨gb172, 3, none⟩ = some (.string a0_3) := (blk_cell BK172.out 3).trans rfl
      have hcz16_4 : wc.cell? ⟨gb172, 4, none⟩ = some (.int .i64 a0_4) := (blk_cell BK172.out 4).trans rfl
      have hcz16_5 : wc.cell? ⟨gb172, 5, none⟩ = some (.int .i64 a0_5) := (blk_cell BK172.out 5).trans rfl
      have hcz16_6 : wc.cell? ⟨gb172, 6, none⟩ = some (.int .i64 a0_6) := (blk_cell BK172.out 6).trans rfl
      have hcz16_7 : wc.cell? ⟨gb172, 7, none⟩ = some (.int .i64 a0_7) := (blk_cell BK172.out 7).trans rfl
      have hcz16_8 : wc.cell? ⟨gb172, 8, none⟩ = some (.int .i64 a0_8) := (blk_cell BK172.out 8).trans rfl
      have hcz16_9 : wc.cell? ⟨gb172, 9, none⟩ = some (.bool a0_9) := (blk_cell BK172.out 9).trans rfl
      have hcz16_10 : wc.cell? ⟨gb172, 10, none⟩ = some (.int .i64 a0_10) := (blk_cell BK172.out 10).trans rfl
      have hcz16_11 : wc.cell? ⟨gb172, 11, none⟩ = some (.string a0_11) := (blk_cell BK172.out 11).trans rfl
      have hcz16_12 : wc.cell? ⟨gb172, 12, none⟩ = some (.string a0_12) := (blk_cell BK172.out 12).trans rfl
      have hfz16_0 := blk_frozen BK172.out 0
      have hfz16_1 := blk_frozen BK172.out 1
      have hfz16_2 := blk_frozen BK172.out 2
      have hfz16_3 := blk_frozen BK172.out 3
      have hfz16_4 := blk_frozen BK172.out 4
      have hfz16_5 := blk_frozen BK172.out 5
      have hfz16_6 := blk_frozen BK172.out 6
      have hfz16_7 := blk_frozen BK172.out 7
      have hfz16_8 := blk_frozen BK172.out 8
      have hfz16_9 := blk_frozen BK172.out 9
      have hfz16_10 := blk_frozen BK172.out 10
      have hfz16_11 := blk_frozen BK172.out 11
      have hfz16_12 := blk_frozen BK172.out 12
      go_wp2_with (first | ((with_reducible refine gate_callee (f := 25) rfl ?_); refine goesL_ (some 13) rfl rfl Tryd.func25 (by kernel_rfl) rfl #[.int .i64 1, .string a0_1] rfl (by (try simp only [List.map_toArray, List.map_cons, List.map_nil]); first | done | rfl | (simp only [List.length_drop, List.length_take]; rfl)) ?_; (with_reducible refine (giroref23_valid.calls kj1 1 a0_1 false _ A9.out).mono ?_); rintro e w17 ⟨rfl, hb⟩; refine ⟨_, rfl, ?_⟩; have n0_ := Aside0.mk (blk_below (g := gb172) (o := .cells #[.int .i64 a0_0, .string a0_1, .string a0_2, .string a0_3, .int .i64 a0_4, .int .i64 a0_5, .int .i64 a0_6, .int .i64 a0_7, .int .i64 a0_8, .bool a0_9, .int .i64 a0_10, .string a0_11, .string a0_12] 24 (0, 0)) (by (with_reducible repeat (first | refine blk_drewN ?_ _ | refine blk_drew ?_ | refine blk_alloc ?_ _)); exact BK172.out) hb); have n1_ := Aside0.mk (below_step (by repeat (first | (with_reducible first | exact HB.out | apply below_alloc | apply pw_below_drewN | apply below_drew1 | refine below_set ?_ GE172.out) | exact HB.out)) hb); clear BK172; clear HB; have BK172 := n0_; have HB := n1_; clear n0_ n1_; (try clear hb); (try clear hb2); (try clear hk); (try clear hi)))
      go_meet
      case rel => exact ⟨_, (true), (by first | rfl | (simp; done) | (simp [*]; done)), H', ⟨by have := HJ1.out; first | omega | exact Nat.le_refl _⟩, ⟨by (with_reducible repeat (first | refine blk_drewN ?_ _ | refine blk_drew ?_ | refine blk_alloc ?_ _)); exact BK172.out⟩, ⟨by repeat (first | (with_reducible first | exact HB.out | apply below_alloc | apply pw_below_drewN | apply below_drew1 | refine below_set ?_ GE172.out) | exact HB.out)⟩⟩
    case rest =>
     clear HC8
     try clear c1
     try clear c2
     try clear p2
     try clear c4
     try clear c4b0
     try clear c4b1
     try clear c7
     try clear c9
     try clear c10
     try clear hcz12_0 hcz12_1 hcz12_10 hcz12_11 hcz12_12 hcz12_2 hcz12_3 hcz12_4 hcz12_5 hcz12_6 hcz12_7 hcz12_8 hcz12_9
     try clear hcz14_0 hcz14_1 hcz14_10 hcz14_11 hcz14_12 hcz14_2 hcz14_3 hcz14_4 hcz14_5 hcz14_6 hcz14_7 hcz14_8 hcz14_9
     try clear hcz16_0 hcz16_1 hcz16_10 hcz16_11 hcz16_12 hcz16_2 hcz16_3 hcz16_4 hcz16_5 hcz16_6 hcz16_7 hcz16_8 hcz16_9
     try clear hcz5_0 hcz5_1 hcz5_10 hcz5_11 hcz5_12 hcz5_2 hcz5_3 hcz5_4 hcz5_5 hcz5_6 hcz5_7 hcz5_8 hcz5_9
     try clear hcz6_0 hcz6_1 hcz6_10 hcz6_11 hcz6_12 hcz6_2 hcz6_3 hcz6_4 hcz6_5 hcz6_6 hcz6_7 hcz6_8 hcz6_9
     try clear hfz12_0 hfz12_1 hfz12_10 hfz12_11 hfz12_12 hfz12_2 hfz12_3 hfz12_4 hfz12_5 hfz12_6 hfz12_7 hfz12_8 hfz12_9
     try clear hfz14_0 hfz14_1 hfz14_10 hfz14_11 hfz14_12 hfz14_2 hfz14_3 hfz14_4 hfz14_5 hfz14_6 hfz14_7 hfz14_8 hfz14_9
     try clear hfz16_0 hfz16_1 hfz16_10 hfz16_11 hfz16_12 hfz16_2 hfz16_3 hfz16_4 hfz16_5 hfz16_6 hfz16_7 hfz16_8 hfz16_9
     try clear hfz5_0 hfz5_1 hfz5_10 hfz5_11 hfz5_12 hfz5_2 hfz5_3 hfz5_4 hfz5_5 hfz5_6 hfz5_7 hfz5_8 hfz5_9
     try clear hfz6_0 hfz6_1 hfz6_10 hfz6_11 hfz6_12 hfz6_2 hfz6_3 hfz6_4 hfz6_5 hfz6_6 hfz6_7 hfz6_8 hfz6_9
     try clear p2
     obtain ⟨kq, x20_7, rfl, HA, HJ7, BK172, HB⟩ := hcut
     cases kq with
     | zero => exact absurd HA.out (by simp [giroref23_Check.j1])
     | succ kj7 =>
      have H := HA.out
      clear HA
      simp only [giroref23_Check.j1] at H
      by_cases c18 : x20_7 = true
      ·subst c18
       have H1 : (some 6) = some r := by rw [if_pos rfl] at H; exact H
       clear H
       have H := H1
       clear H1
       obtain rfl := Option.some.inj H
       go_wp2
       go_ret
       exact ⟨by first | rfl | (simp [errW_none, errW_some] <;> rfl) | (simp [*, errW_none, errW_some] <;> rfl), by repeat (first | (with_reducible first | exact HB.out | apply below_alloc | apply pw_below_drewN | apply below_drew1 | refine below_set ?_ GE172.out) | exact HB.out)⟩
      ·replace c18 := Bool.eq_false_iff.mpr c18
       subst c18
       have H1 : (if a0_1.toList = a0_2.toList then (some 1) else ((giroref23_valid.f kj7 0 a0_3).bind fun t175 => (if t175 = true then (if a0_4 < 1 then (giroref23_Check.j2 kj7 true a0_0 a0_1 a0_2 a0_3 a0_4 a0_5 a0_6 a0_7 a0_8 a0_9 a0_10 a0_11 a0_12) else (if a0_4 > 1000000000000000 then (giroref23_Check.j2 kj7 true a0_0 a0_1 a0_2 a0_3 a0_4 a0_5 a0_6 a0_7 a0_8 a0_9 a0_10 a0_11 a0_12) else (if a0_0 = 1 then (if a0_5 < 1 then (giroref23_Check.j2 kj7 true a0_0 a0_1 a0_2 a0_3 a0_4 a0_5 a0_6 a0_7 a0_8 a0_9 a0_10 a0_11 a0_12) else (if a0_5 > 1000000000000000 then (giroref23_Check.j2 kj7 true a0_0 a0_1 a0_2 a0_3 a0_4 a0_5 a0_6 a0_7 a0_8 a0_9 a0_10 a0_11 a0_12) else (if a0_0 = 2 then (giroref23_Check.j2 kj7 (a0_5 != 0) a0_0 a0_1 a0_2 a0_3 a0_4 a0_5 a0_6 a0_7 a0_8 a0_9 a0_10 a0_11 a0_12) else (giroref23_Check.j2 kj7 false a0_0 a0_1 a0_2 a0_3 a0_4 a0_5 a0_6 a0_7 a0_8 a0_9 a0_10 a0_11 a0_12)))) else (if a0_0 = 2 then (giroref23_Check.j2 kj7 (a0_5 != 0) a0_0 a0_1 a0_2 a0_3 a0_4 a0_5 a0_6 a0_7 a0_8 a0_9 a0_10 a0_11 a0_12) else (giroref23_Check.j2 kj7 false a0_0 a0_1 a0_2 a0_3 a0_4 a0_5 a0_6 a0_7 a0_8 a0_9 a0_10 a0_11 a0_12))))) else (some 6)))) = some r := by rw [if_neg (show ¬ (false = true) by decide)] at H; exact H
       clear H
       have H := H1
       clear H1
       by_cases c19 : a0_1.toList = a0_2.toList
       ·rw [if_pos c19] at H
        have c19b0 : (a0_1.toList == a0_2.toList) = true := beq_iff_eq.mpr c19
        have c19b1 : (a0_1.toList != a0_2.toList) = false := bne_eq_false_iff_eq.mpr c19
        clear c19
        obtain rfl := Option.some.inj H
        have hcz20_0 : wc.cell? ⟨gb172, 0, none⟩ = some (.int .i64 a0_0) := (blk_cell BK172.out 0).trans rfl
        have hcz20_1 : wc.cell? ⟨gb172, 1, none⟩ = some (.string a0_1) := (blk_cell BK172.out 1).trans rfl
        have hcz20_2 : wc.cell? ⟨gb172, 2, none⟩ = some (.string a0_2) := (blk_cell BK172.out 2).trans rfl
        have hcz20_3 : wc.cell? ⟨gb172, 3, none⟩ = some (.string a0_3) := (blk_cell BK172.out 3).trans rfl
        have hcz20_4 : wc.cell? ⟨gb172, 4, none⟩ = some (.int .i64 a0_4) := (blk_cell BK172.out 4).trans rfl
        have hcz20_5 : wc.cell? ⟨gb172, 5, none⟩ = some (.int .i64 a0_5) := (blk_cell BK172.out 5).trans rfl
        have hcz20_6 : wc.cell? ⟨gb172, 6, none⟩ = some (.int .i64 a0_6) := (blk_cell BK172.out 6).trans rfl
        have hcz20_7 : wc.cell? ⟨gb172, 7, none⟩ = some (.int .i64 a0_7) := (blk_cell BK172.out 7).trans rfl
        have hcz20_8 : wc.cell? ⟨gb172, 8, none⟩ = some (.int .i64 a0_8) := (blk_cell BK172.out 8).trans rfl
        have hcz20_9 : wc.cell? ⟨gb172, 9, none⟩ = some (.bool a0_9) := (blk_cell BK172.out 9).trans rfl
        have hcz20_10 : wc.cell? ⟨gb172, 10, none⟩ = some (.int .i64 a0_10) := (blk_cell BK172.out 10).trans rfl
        have hcz20_11 : wc.cell? ⟨gb172, 11, none⟩ = some (.string a0_11) := (blk_cell BK172.out 11).trans rfl
        have hcz20_12 : wc.cell? ⟨gb172, 12, none⟩ = some (.string a0_12) := (blk_cell BK172.out 12).trans rfl
        have hfz20_0 := blk_frozen BK172.out 0
        have hfz20_1 := blk_frozen BK172.out 1
        have hfz20_2 := blk_frozen BK172.out 2
        have hfz20_3 := blk_frozen BK172.out 3
        have hfz20_4 := blk_frozen BK172.out 4
        have hfz20_5 := blk_frozen BK172.out 5
        have hfz20_6 := blk_frozen BK172.out 6
        have hfz20_7 := blk_frozen BK172.out 7
        have hfz20_8 := blk_frozen BK172.out 8
        have hfz20_9 := blk_frozen BK172.out 9
        have hfz20_10 := blk_frozen BK172.out 10
        have hfz20_11 := blk_frozen BK172.out 11
        have hfz20_12 := blk_frozen BK172.out 12
        go_wp2
        go_ret
        exact ⟨by first | rfl | (simp [errW_none, errW_some] <;> rfl) | (simp [*, errW_none, errW_some] <;> rfl), by repeat (first | (with_reducible first | exact HB.out | apply below_alloc | apply pw_below_drewN | apply below_drew1 | refine below_set ?_ GE172.out) | exact HB.out)⟩
       ·rw [if_neg c19] at H
        have c19b0 : (a0_1.toList == a0_2.toList) = false := beq_eq_false_iff_ne.mpr c19
        have c19b1 : (a0_1.toList != a0_2.toList) = true := bne_iff_ne.mpr c19
        replace H := Option.bind_eq_some_iff.mp H
        obtain ⟨t175, A210, H⟩ := H
        replace H : (if t175 = true then (if a0_4 < 1 then (giroref23_Check.j2 kj7 true a0_0 a0_1 a0_2 a0_3 a0_4 a0_5 a0_6 a0_7 a0_8 a0_9 a0_10 a0_11 a0_12) else (if a0_4 > 1000000000000000 then (giroref23_Check.j2 kj7 true a0_0 a0_1 a0_2 a0_3 a0_4 a0_5 a0_6 a0_7 a0_8 a0_9 a0_10 a0_11 a0_12) else (if a0_0 = 1 then (if a0_5 < 1 then (giroref23_Check.j2 kj7 true a0_0 a0_1 a0_2 a0_3 a0_4 a0_5 a0_6 a0_7 a0_8 a0_9 a0_10 a0_11 a0_12) else (if a0_5 > 1000000000000000 then (giroref23_Check.j2 kj7 true a0_0 a0_1 a0_2 a0_3 a0_4 a0_5 a0_6 a0_7 a0_8 a0_9 a0_10 a0_11 a0_12) else (if a0_0 = 2 then (giroref23_Check.j2 kj7 (a0_5 != 0) a0_0 a0_1 a0_2 a0_3 a0_4 a0_5 a0_6 a0_7 a0_8 a0_9 a0_10 a0_11 a0_12) else (giroref23_Check.j2 kj7 false a0_0 a0_1 a0_2 a0_3 a0_4 a0_5 a0_6 a0_7 a0_8 a0_9 a0_10 a0_11 a0_12)))) else (if a0_0 = 2 then (giroref23_Check.j2 kj7 (a0_5 != 0) a0_0 a0_1 a0_2 a0_3 a0_4 a0_5 a0_6 a0_7 a0_8 a0_9 a0_10 a0_11 a0_12) else (giroref23_Check.j2 kj7 false a0_0 a0_1 a0_2 a0_3 a0_4 a0_5 a0_6 a0_7 a0_8 a0_9 a0_10 a0_11 a0_12))))) else (some 6)) = some r := H
        have A21 := Aside0.mk A210
        clear A210
        by_cases c22 : t175 = true
        ·subst c22
         have H1 : (if a0_4 < 1 then (giroref23_Check.j2 kj7 true a0_0 a0_1 a0_2 a0_3 a0_4 a0_5 a0_6 a0_7 a0_8 a0_9 a0_10 a0_11 a0_12) else (if a0_4 > 1000000000000000 then (giroref23_Check.j2 kj7 true a0_0 a0_1 a0_2 a0_3 a0_4 a0_5 a0_6 a0_7 a0_8 a0_9 a0_10 a0_11 a0_12) else (if a0_0 = 1 then (if a0_5 < 1 then (giroref23_Check.j2 kj7 true a0_0 a0_1 a0_2 a0_3 a0_4 a0_5 a0_6 a0_7 a0_8 a0_9 a0_10 a0_11 a0_12) else (if a0_5 > 1000000000000000 then (giroref23_Check.j2 kj7 true a0_0 a0_1 a0_2 a0_3 a0_4 a0_5 a0_6 a0_7 a0_8 a0_9 a0_10 a0_11 a0_12) else (if a0_0 = 2 then (giroref23_Check.j2 kj7 (a0_5 != 0) a0_0 a0_1 a0_2 a0_3 a0_4 a0_5 a0_6 a0_7 a0_8 a0_9 a0_10 a0_11 a0_12) else (giroref23_Check.j2 kj7 false a0_0 a0_1 a0_2 a0_3 a0_4 a0_5 a0_6 a0_7 a0_8 a0_9 a0_10 a0_11 a0_12)))) else (if a0_0 = 2 then (giroref23_Check.j2 kj7 (a0_5 != 0) a0_0 a0_1 a0_2 a0_3 a0_4 a0_5 a0_6 a0_7 a0_8 a0_9 a0_10 a0_11 a0_12) else (giroref23_Check.j2 kj7 false a0_0 a0_1 a0_2 a0_3 a0_4 a0_5 a0_6 a0_7 a0_8 a0_9 a0_10 a0_11 a0_12))))) = some r := by rw [if_pos rfl] at H; exact H
         clear H
         have H := H1
         clear H1
         have HC23 := Aside0.mk H
         clear H
         have hcz24_0 : wc.cell? ⟨gb172, 0, none⟩ = some (.int .i64 a0_0) := (blk_cell BK172.out 0).trans rfl
         have hcz24_1 : wc.cell? ⟨gb172, 1, none⟩ = some (.string a0_1) := (blk_cell BK172.out 1).trans rfl
         have hcz24_2 : wc.cell? ⟨gb172, 2, none⟩ = some (.string a0_2) := (blk_cell BK172.out 2).trans rfl
         have hcz24_3 : wc.cell? ⟨gb172, 3, none⟩ = some (.string a0_3) := (blk_cell BK172.out 3).trans rfl
         have hcz24_4 : wc.cell? ⟨gb172, 4, none⟩ = some (.int .i64 a0_4) := (blk_cell BK172.out 4).trans rfl
         have hcz24_5 : wc.cell? ⟨gb172, 5, none⟩ = some (.int .i64 a0_5) := (blk_cell BK172.out 5).trans rfl
         have hcz24_6 : wc.cell? ⟨gb172, 6, none⟩ = some (.int .i64 a0_6) := (blk_cell BK172.out 6).trans rfl
         have hcz24_7 : wc.cell? ⟨gb172, 7, none⟩ = some (.int .i64 a0_7) := (blk_cell BK172.out 7).trans rfl
         have hcz24_8 : wc.cell? ⟨gb172, 8, none⟩ = some (.int .i64 a0_8) := (blk_cell BK172.out 8).trans rfl
         have hcz24_9 : wc.cell? ⟨gb172, 9, none⟩ = some (.bool a0_9) := (blk_cell BK172.out 9).trans rfl
         have hcz24_10 : wc.cell? ⟨gb172, 10, none⟩ = some (.int .i64 a0_10) := (blk_cell BK172.out 10).trans rfl
         have hcz24_11 : wc.cell? ⟨gb172, 11, none⟩ = some (.string a0_11) := (blk_cell BK172.out 11).trans rfl
         have hcz24_12 : wc.cell? ⟨gb172, 12, none⟩ = some (.string a0_12) := (blk_cell BK172.out 12).trans rfl
         have hfz24_0 := blk_frozen BK172.out 0
         have hfz24_1 := blk_frozen BK172.out 1
         have hfz24_2 := blk_frozen BK172.out 2
         have hfz24_3 := blk_frozen BK172.out 3
         have hfz24_4 := blk_frozen BK172.out 4
         have hfz24_5 := blk_frozen BK172.out 5
         have hfz24_6 := blk_frozen BK172.out 6
         have hfz24_7 := blk_frozen BK172.out 7
         have hfz24_8 := blk_frozen BK172.out 8
         have hfz24_9 := blk_frozen BK172.out 9
         have hfz24_10 := blk_frozen BK172.out 10
         have hfz24_11 := blk_frozen BK172.out 11
         have hfz24_12 := blk_frozen BK172.out 12
         go_upto_region 9 with (first | ((with_reducible refine gate_callee (f := 25) rfl ?_); refine goesL_ (some 28) rfl rfl Tryd.func25 (by kernel_rfl) rfl #[.int .i64 0, .string a0_3] rfl (by (try simp only [List.map_toArray, List.map_cons, List.map_nil]); first | done | rfl | (simp only [List.length_drop, List.length_take]; rfl)) ?_; (with_reducible refine (giroref23_valid.calls kj7 0 a0_3 true _ A21.out).mono ?_); rintro e w25 ⟨rfl, hb⟩; refine ⟨_, rfl, ?_⟩; have n0_ := Aside0.mk (blk_below (g := gb172) (o := .cells #[.int .i64 a0_0, .string a0_1, .string a0_2, .string a0_3, .int .i64 a0_4, .int .i64 a0_5, .int .i64 a0_6, .int .i64 a0_7, .int .i64 a0_8, .bool a0_9, .int .i64 a0_10, .string a0_11, .string a0_12] 24 (0, 0)) (by (with_reducible repeat (first | refine blk_drewN ?_ _ | refine blk_drew ?_ | refine blk_alloc ?_ _)); exact BK172.out) hb); have n1_ := Aside0.mk (below_step (by repeat (first | (with_reducible first | exact HB.out | apply below_alloc | apply pw_below_drewN | apply below_drew1 | refine below_set ?_ GE172.out) | exact HB.out)) hb); clear BK172; clear HB; have BK172 := n0_; have HB := n1_; clear n0_ n1_; (try clear hb); (try clear hb2); (try clear hk); (try clear hi)))
         (try simp only [Act.put, List.setIfInBounds_toArray, List.set_cons_zero, List.set_cons_succ])
         go_cut [62] (fun v62 wc => ∃ (kq : Nat) (x62_22 : Bool), v62 = .bool x62_22 ∧ Aside0 (giroref23_Check.j2 kq x62_22 a0_0 a0_1 a0_2 a0_3 a0_4 a0_5 a0_6 a0_7 a0_8 a0_9 a0_10 a0_11 a0_12 = some r) ∧ Aside0 (kq ≤ kj7) ∧ Aside0 (wc.heap[gb172]? = some (.cells #[.int .i64 a0_0, .string a0_1, .string a0_2, .string a0_3, .int .i64 a0_4, .int .i64 a0_5, .int .i64 a0_6, .int .i64 a0_7, .int .i64 a0_8, .bool a0_9, .int .i64 a0_10, .string a0_11, .string a0_12] 24 (0, 0))) ∧ Aside0 (Below w.heap.size w wc))
         case first =>
          have H := HC23.out
          clear HC23
          by_cases c26 : a0_4 < 1
          ·rw [if_pos c26] at H
           have c26b0 : decide (a0_4 < 1) = true := decide_eq_true c26
           clear c26
           (first | rw [c26b0] | (simp only [i64_w, i32_w]; rw [c26b0]) | skip)
           have H' := Aside0.mk H
           clear H
           have hcz27_0 : w25.cell? ⟨gb172, 0, none⟩ = some (.int .i64 a0_0) := (blk_cell BK172.out 0).trans rfl
           have hcz27_1 : w25.cell? ⟨gb172, 1, none⟩ = some (.string a0_1) := (blk_cell BK172.out 1).trans rfl
           have hcz27_2 : w25.cell? ⟨gb172, 2, none⟩ = some (.string a0_2) := (blk_cell BK172.out 2).trans rfl
           have hcz27_3 : w25.cell? ⟨gb172, 3, none⟩ = some (.string a0_3) := (blk_cell BK172.out 3).trans rfl
           have hcz27_4 : w25.cell? ⟨gb172, 4, none⟩ = some (.int .i64 a0_4) := (blk_cell BK172.out 4).trans rfl
           have hcz27_5 : w25.cell? ⟨gb172, 5, none⟩ = some (.int .i64 a0_5) := (blk_cell BK172.out 5).trans rfl
           have hcz27_6 : w25.cell? ⟨gb172, 6, none⟩ = some (.int .i64 a0_6) := (blk_cell BK172.out 6).trans rfl
           have hcz27_7 : w25.cell? ⟨gb172, 7, none⟩ = some (.int .i64 a0_7) := (blk_cell BK172.out 7).trans rfl
           have hcz27_8 : w25.cell? ⟨gb172, 8, none⟩ = some (.int .i64 a0_8) := (blk_cell BK172.out 8).trans rfl
           have hcz27_9 : w25.cell? ⟨gb172, 9, none⟩ = some (.bool a0_9) := (blk_cell BK172.out 9).trans rfl
           have hcz27_10 : w25.cell? ⟨gb172, 10, none⟩ = some (.int .i64 a0_10) := (blk_cell BK172.out 10).trans rfl
           have hcz27_11 : w25.cell? ⟨gb172, 11, none⟩ = some (.string a0_11) := (blk_cell BK172.out 11).trans rfl
           have hcz27_12 : w25.cell? ⟨gb172, 12, none⟩ = some (.string a0_12) := (blk_cell BK172.out 12).trans rfl
           have hfz27_0 := blk_frozen BK172.out 0
           have hfz27_1 := blk_frozen BK172.out 1
           have hfz27_2 := blk_frozen BK172.out 2
           have hfz27_3 := blk_frozen BK172.out 3
           have hfz27_4 := blk_frozen BK172.out 4
           have hfz27_5 := blk_frozen BK172.out 5
           have hfz27_6 := blk_frozen BK172.out 6
           have hfz27_7 := blk_frozen BK172.out 7
           have hfz27_8 := blk_frozen BK172.out 8
           have hfz27_9 := blk_frozen BK172.out 9
           have hfz27_10 := blk_frozen BK172.out 10
           have hfz27_11 := blk_frozen BK172.out 11
           have hfz27_12 := blk_frozen BK172.out 12
           go_wp2
           go_meet
           case rel => exact ⟨_, (true), (by first | rfl | (simp; done) | (simp [*]; done)), H', ⟨by have := HJ1.out; have := HJ7.out; first | omega | exact Nat.le_refl _⟩, ⟨by (with_reducible repeat (first | refine blk_drewN ?_ _ | refine blk_drew ?_ | refine blk_alloc ?_ _)); exact BK172.out⟩, ⟨by repeat (first | (with_reducible first | exact HB.out | apply below_alloc | apply pw_below_drewN | apply below_drew1 | refine below_set ?_ GE172.out) | exact HB.out)⟩⟩
          ·rw [if_neg c26] at H
           have c26b0 : decide (a0_4 < 1) = false := decide_eq_false c26
           clear c26
           (first | rw [c26b0] | (simp only [i64_w, i32_w]; rw [c26b0]) | skip)
           by_cases c28 : a0_4 > 1000000000000000
           ·rw [if_pos c28] at H
            have c28b0 : decide (1000000000000000 < a0_4) = true := decide_eq_true c28
            clear c28
            have H' := Aside0.mk H
            clear H
            have hcz29_0 : w25.cell? ⟨gb172, 0, none⟩ = some (.int .i64 a0_0) := (blk_cell BK172.out 0).trans rfl
            have hcz29_1 : w25.cell? ⟨gb172, 1, none⟩ = some (.string a0_1) := (blk_cell BK172.out 1).trans rfl
            have hcz29_2 : w25.cell? ⟨gb172, 2, none⟩ = some (.string a0_2) := (blk_cell BK172.out 2).trans rfl
            have hcz29_3 : w25.cell? ⟨gb172, 3, none⟩ = some (.string a0_3) := (blk_cell BK172.out 3).trans rfl
            have hcz29_4 : w25.cell? ⟨gb172, 4, none⟩ = some (.int .i64 a0_4) := (blk_cell BK172.out 4).trans rfl
            have hcz29_5 : w25.cell? ⟨gb172, 5, none⟩ = some (.int .i64 a0_5) := (blk_cell BK172.out 5).trans rfl
            have hcz29_6 : w25.cell? ⟨gb172, 6, none⟩ = some (.int .i64 a0_6) := (blk_cell BK172.out 6).trans rfl
            have hcz29_7 : w25.cell? ⟨gb172, 7, none⟩ = some (.int .i64 a0_7) := (blk_cell BK172.out 7).trans rfl
            have hcz29_8 : w25.cell? ⟨gb172, 8, none⟩ = some (.int .i64 a0_8) := (blk_cell BK172.out 8).trans rfl
            have hcz29_9 : w25.cell? ⟨gb172, 9, none⟩ = some (.bool a0_9) := (blk_cell BK172.out 9).trans rfl
            have hcz29_10 : w25.cell? ⟨gb172, 10, none⟩ = some (.int .i64 a0_10) := (blk_cell BK172.out 10).trans rfl
            have hcz29_11 : w25.cell? ⟨gb172, 11, none⟩ = some (.string a0_11) := (blk_cell BK172.out 11).trans rfl
            have hcz29_12 : w25.cell? ⟨gb172, 12, none⟩ = some (.string a0_12) := (blk_cell BK172.out 12).trans rfl
            have hfz29_0 := blk_frozen BK172.out 0
            have hfz29_1 := blk_frozen BK172.out 1
            have hfz29_2 := blk_frozen BK172.out 2
            have hfz29_3 := blk_frozen BK172.out 3
            have hfz29_4 := blk_frozen BK172.out 4
            have hfz29_5 := blk_frozen BK172.out 5
            have hfz29_6 := blk_frozen BK172.out 6
            have hfz29_7 := blk_frozen BK172.out 7
            have hfz29_8 := blk_frozen BK172.out 8
            have hfz29_9 := blk_frozen BK172.out 9
            have hfz29_10 := blk_frozen BK172.out 10
            have hfz29_11 := blk_frozen BK172.out 11
            have hfz29_12 := blk_frozen BK172.out 12
            go_wp2
            go_meet
            case rel => exact ⟨_, (true), (by first | rfl | (simp; done) | (simp [*]; done)), H', ⟨by have := HJ1.out; have := HJ7.out; first | omega | exact Nat.le_refl _⟩, ⟨by (with_reducible repeat (first | refine blk_drewN ?_ _ | refine blk_drew ?_ | refine blk_alloc ?_ _)); exact BK172.out⟩, ⟨by repeat (first | (with_reducible first | exact HB.out | apply below_alloc | apply pw_below_drewN | apply below_drew1 | refine below_set ?_ GE172.out) | exact HB.out)⟩⟩
           ·rw [if_neg c28] at H
            have c28b0 : decide (1000000000000000 < a0_4) = false := decide_eq_false c28
            clear c28
            by_cases c30 : a0_0 = 1
            ·rw [if_pos c30] at H
             have c30b0 : (a0_0 == 1) = true := beq_iff_eq.mpr c30
             have c30b1 : (a0_0 != 1) = false := bne_eq_false_iff_eq.mpr c30
             clear c30
             by_cases c31 : a0_5 < 1
             ·rw [if_pos c31] at H
              have c31b0 : decide (a0_5 < 1) = true := decide_eq_true c31
              clear c31
              have H' := Aside0.mk H
              clear H
              have hcz32_0 : w25.cell? ⟨gb172, 0, none⟩ = some (.int .i64 a0_0) := (blk_cell BK172.out 0).trans rfl
              have hcz32_1 : w25.cell? ⟨gb172, 1, none⟩ = some (.string a0_1) := (blk_cell BK172.out 1).trans rfl
              have hcz32_2 : w25.cell? ⟨gb172, 2, none⟩ = some (.string a0_2) := (blk_cell BK172.out 2).trans rfl
              have hcz32_3 : w25.cell? ⟨gb172, 3, none⟩ = some (.string a0_3) := (blk_cell BK172.out 3).trans rfl
              have hcz32_4 : w25.cell? ⟨gb172, 4, none⟩ = some (.int .i64 a0_4) := (blk_cell BK172.out 4).trans rfl
              have hcz32_5 : w25.cell? ⟨gb172, 5, none⟩ = some (.int .i64 a0_5) := (blk_cell BK172.out 5).trans rfl
              have hcz32_6 : w25.cell? ⟨gb172, 6, none⟩ = some (.int .i64 a0_6) := (blk_cell BK172.out 6).trans rfl
              have hcz32_7 : w25.cell? ⟨gb172, 7, none⟩ = some (.int .i64 a0_7) := (blk_cell BK172.out 7).trans rfl
              have hcz32_8 : w25.cell? ⟨gb172, 8, none⟩ = some (.int .i64 a0_8) := (blk_cell BK172.out 8).trans rfl
              have hcz32_9 : w25.cell? ⟨gb172, 9, none⟩ = some (.bool a0_9) := (blk_cell BK172.out 9).trans rfl
              have hcz32_10 : w25.cell? ⟨gb172, 10, none⟩ = some (.int .i64 a0_10) := (blk_cell BK172.out 10).trans rfl
              have hcz32_11 : w25.cell? ⟨gb172, 11, none⟩ = some (.string a0_11) := (blk_cell BK172.out 11).trans rfl
              have hcz32_12 : w25.cell? ⟨gb172, 12, none⟩ = some (.string a0_12) := (blk_cell BK172.out 12).trans rfl
              have hfz32_0 := blk_frozen BK172.out 0
              have hfz32_1 := blk_frozen BK172.out 1
              have hfz32_2 := blk_frozen BK172.out 2
              have hfz32_3 := blk_frozen BK172.out 3
              have hfz32_4 := blk_frozen BK172.out 4
              have hfz32_5 := blk_frozen BK172.out 5
              have hfz32_6 := blk_frozen BK172.out 6
              have hfz32_7 := blk_frozen BK172.out 7
              have hfz32_8 := blk_frozen BK172.out 8
              have hfz32_9 := blk_frozen BK172.out 9
              have hfz32_10 := blk_frozen BK172.out 10
              have hfz32_11 := blk_frozen BK172.out 11
              have hfz32_12 := blk_frozen BK172.out 12
              go_wp2
              go_meet
              case rel => exact ⟨_, (true), (by first | rfl | (simp; done) | (simp [*]; done)), H', ⟨by have := HJ1.out; have := HJ7.out; first | omega | exact Nat.le_refl _⟩, ⟨by (with_reducible repeat (first | refine blk_drewN ?_ _ | refine blk_drew ?_ | refine blk_alloc ?_ _)); exact BK172.out⟩, ⟨by repeat (first | (with_reducible first | exact HB.out | apply below_alloc | apply pw_below_drewN | apply below_drew1 | refine below_set ?_ GE172.out) | exact HB.out)⟩⟩
             ·rw [if_neg c31] at H
              have c31b0 : decide (a0_5 < 1) = false := decide_eq_false c31
              clear c31
              by_cases c33 : a0_5 > 1000000000000000
              ·rw [if_pos c33] at H
               have c33b0 : decide (1000000000000000 < a0_5) = true := decide_eq_true c33
               clear c33
               have H' := Aside0.mk H
               clear H
               have hcz34_0 : w25.cell? ⟨gb172, 0, none⟩ = some (.int .i64 a0_0) := (blk_cell BK172.out 0).trans rfl
               have hcz34_1 : w25.cell? ⟨gb172, 1, none⟩ = some (.string a0_1) := (blk_cell BK172.out 1).trans rfl
               have hcz34_2 : w25.cell? ⟨gb172, 2, none⟩ = some (.string a0_2) := (blk_cell BK172.out 2).trans rfl
               have hcz34_3 : w25.cell? ⟨gb172, 3, none⟩ = some (.string a0_3) := (blk_cell BK172.out 3).trans rfl
               have hcz34_4 : w25.cell? ⟨gb172, 4, none⟩ = some (.int .i64 a0_4) := (blk_cell BK172.out 4).trans rfl
               have hcz34_5 : w25.cell? ⟨gb172, 5, none⟩ = some (.int .i64 a0_5) := (blk_cell BK172.out 5).trans rfl
               have hcz34_6 : w25.cell? ⟨gb172, 6, none⟩ = some (.int .i64 a0_6) := (blk_cell BK172.out 6).trans rfl
               have hcz34_7 : w25.cell? ⟨gb172, 7, none⟩ = some (.int .i64 a0_7) := (blk_cell BK172.out 7).trans rfl
               have hcz34_8 : w25.cell? ⟨gb172, 8, none⟩ = some (.int .i64 a0_8) := (blk_cell BK172.out 8).trans rfl
               have hcz34_9 : w25.cell? ⟨gb172, 9, none⟩ = some (.bool a0_9) := (blk_cell BK172.out 9).trans rfl
               have hcz34_10 : w25.cell? ⟨gb172, 10, none⟩ = some (.int .i64 a0_10) := (blk_cell BK172.out 10).trans rfl
               have hcz34_11 : w25.cell? ⟨gb172, 11, none⟩ = some (.string a0_11) := (blk_cell BK172.out 11).trans rfl
               have hcz34_12 : w25.cell? ⟨gb172, 12, none⟩ = some (.string a0_12) := (blk_cell BK172.out 12).trans rfl
               have hfz34_0 := blk_frozen BK172.out 0
               have hfz34_1 := blk_frozen BK172.out 1
               have hfz34_2 := blk_frozen BK172.out 2
               have hfz34_3 := blk_frozen BK172.out 3
               have hfz34_4 := blk_frozen BK172.out 4
               have hfz34_5 := blk_frozen BK172.out 5
               have hfz34_6 := blk_frozen BK172.out 6
               have hfz34_7 := blk_frozen BK172.out 7
               have hfz34_8 := blk_frozen BK172.out 8
               have hfz34_9 := blk_frozen BK172.out 9
               have hfz34_10 := blk_frozen BK172.out 10
               have hfz34_11 := blk_frozen BK172.out 11
               have hfz34_12 := blk_frozen BK172.out 12
               go_wp2
               go_meet
               case rel => exact ⟨_, (true), (by first | rfl | (simp; done) | (simp [*]; done)), H', ⟨by have := HJ1.out; have := HJ7.out; first | omega | exact Nat.le_refl _⟩, ⟨by (with_reducible repeat (first | refine blk_drewN ?_ _ | refine blk_drew ?_ | refine blk_alloc ?_ _)); exact BK172.out⟩, ⟨by repeat (first | (with_reducible first | exact HB.out | apply below_alloc | apply pw_below_drewN | apply below_drew1 | refine below_set ?_ GE172.out) | exact HB.out)⟩⟩
              ·rw [if_neg c33] at H
               have c33b0 : decide (1000000000000000 < a0_5) = false := decide_eq_false c33
               clear c33
               by_cases c35 : a0_0 = 2
               ·rw [if_pos c35] at H
                have c35b0 : (a0_0 == 2) = true := beq_iff_eq.mpr c35
                have c35b1 : (a0_0 != 2) = false := bne_eq_false_iff_eq.mpr c35
                clear c35
                have H' := Aside0.mk H
                clear H
                have hcz36_0 : w25.cell? ⟨gb172, 0, none⟩ = some (.int .i64 a0_0) := (blk_cell BK172.out 0).trans rfl
                have hcz36_1 : w25.cell? ⟨gb172, 1, none⟩ = some (.string a0_1) := (blk_cell BK172.out 1).trans rfl
                have hcz36_2 : w25.cell? ⟨gb172, 2, none⟩ = some (.string a0_2) := (blk_cell BK172.out 2).trans rfl
                have hcz36_3 : w25.cell? ⟨gb172, 3, none⟩ = some (.string a0_3) := (blk_cell BK172.out 3).trans rfl
                have hcz36_4 : w25.cell? ⟨gb172, 4, none⟩ = some (.int .i64 a0_4) := (blk_cell BK172.out 4).trans rfl
                have hcz36_5 : w25.cell? ⟨gb172, 5, none⟩ = some (.int .i64 a0_5) := (blk_cell BK172.out 5).trans rfl
                have hcz36_6 : w25.cell? ⟨gb172, 6, none⟩ = some (.int .i64 a0_6) := (blk_cell BK172.out 6).trans rfl
                have hcz36_7 : w25.cell? ⟨gb172, 7, none⟩ = some (.int .i64 a0_7) := (blk_cell BK172.out 7).trans rfl
                have hcz36_8 : w25.cell? ⟨gb172, 8, none⟩ = some (.int .i64 a0_8) := (blk_cell BK172.out 8).trans rfl
                have hcz36_9 : w25.cell? ⟨gb172, 9, none⟩ = some (.bool a0_9) := (blk_cell BK172.out 9).trans rfl
                have hcz36_10 : w25.cell? ⟨gb172, 10, none⟩ = some (.int .i64 a0_10) := (blk_cell BK172.out 10).trans rfl
                have hcz36_11 : w25.cell? ⟨gb172, 11, none⟩ = some (.string a0_11) := (blk_cell BK172.out 11).trans rfl
                have hcz36_12 : w25.cell? ⟨gb172, 12, none⟩ = some (.string a0_12) := (blk_cell BK172.out 12).trans rfl
                have hfz36_0 := blk_frozen BK172.out 0
                have hfz36_1 := blk_frozen BK172.out 1
                have hfz36_2 := blk_frozen BK172.out 2
                have hfz36_3 := blk_frozen BK172.out 3
                have hfz36_4 := blk_frozen BK172.out 4
                have hfz36_5 := blk_frozen BK172.out 5
                have hfz36_6 := blk_frozen BK172.out 6
                have hfz36_7 := blk_frozen BK172.out 7
                have hfz36_8 := blk_frozen BK172.out 8
                have hfz36_9 := blk_frozen BK172.out 9
                have hfz36_10 := blk_frozen BK172.out 10
                have hfz36_11 := blk_frozen BK172.out 11
                have hfz36_12 := blk_frozen BK172.out 12
                go_wp2
                go_meet
                case rel => exact ⟨_, ((a0_5 != 0)), (by first | rfl | (simp; done) | (simp [*]; done)), H', ⟨by have := HJ1.out; have := HJ7.out; first | omega | exact Nat.le_refl _⟩, ⟨by (with_reducible repeat (first | refine blk_drewN ?_ _ | refine blk_drew ?_ | refine blk_alloc ?_ _)); exact BK172.out⟩, ⟨by repeat (first | (with_reducible first | exact HB.out | apply below_alloc | apply pw_below_drewN | apply below_drew1 | refine below_set ?_ GE172.out) | exact HB.out)⟩⟩
               ·rw [if_neg c35] at H
                have c35b0 : (a0_0 == 2) = false := beq_eq_false_iff_ne.mpr c35
                have c35b1 : (a0_0 != 2) = true := bne_iff_ne.mpr c35
                have H' := Aside0.mk H
                clear H
                have hcz37_0 : w25.cell? ⟨gb172, 0, none⟩ = some (.int .i64 a0_0) := (blk_cell BK172.out 0).trans rfl
                have hcz37_1 : w25.cell? ⟨gb172, 1, none⟩ = some (.string a0_1) := (blk_cell BK172.out 1).trans rfl
                have hcz37_2 : w25.cell? ⟨gb172, 2, none⟩ = some (.string a0_2) := (blk_cell BK172.out 2).trans rfl
                have hcz37_3 : w25.cell? ⟨gb172, 3, none⟩ = some (.string a0_3) := (blk_cell BK172.out 3).trans rfl
                have hcz37_4 : w25.cell? ⟨gb172, 4, none⟩ = some (.int .i64 a0_4) := (blk_cell BK172.out 4).trans rfl
                have hcz37_5 : w25.cell? ⟨gb172, 5, none⟩ = some (.int .i64 a0_5) := (blk_cell BK172.out 5).trans rfl
                have hcz37_6 : w25.cell? ⟨gb172, 6, none⟩ = some (.int .i64 a0_6) := (blk_cell BK172.out 6).trans rfl
                have hcz37_7 : w25.cell? ⟨gb172, 7, none⟩ = some (.int .i64 a0_7) := (blk_cell BK172.out 7).trans rfl
                have hcz37_8 : w25.cell? ⟨gb172, 8, none⟩ = some (.int .i64 a0_8) := (blk_cell BK172.out 8).trans rfl
                have hcz37_9 : w25.cell? ⟨gb172, 9, none⟩ = some (.bool a0_9) := (blk_cell BK172.out 9).trans rfl
                have hcz37_10 : w25.cell? ⟨gb172, 10, none⟩ = some (.int .i64 a0_10) := (blk_cell BK172.out 10).trans rfl
                have hcz37_11 : w25.cell? ⟨gb172, 11, none⟩ = some (.string a0_11) := (blk_cell BK172.out 11).trans rfl
                have hcz37_12 : w25.cell? ⟨gb172, 12, none⟩ = some (.string a0_12) := (blk_cell BK172.out 12).trans rfl
                have hfz37_0 := blk_frozen BK172.out 0
                have hfz37_1 := blk_frozen BK172.out 1
                have hfz37_2 := blk_frozen BK172.out 2
                have hfz37_3 := blk_frozen BK172.out 3
                have hfz37_4 := blk_frozen BK172.out 4
                have hfz37_5 := blk_frozen BK172.out 5
                have hfz37_6 := blk_frozen BK172.out 6
                have hfz37_7 := blk_frozen BK172.out 7
                have hfz37_8 := blk_frozen BK172.out 8
                have hfz37_9 := blk_frozen BK172.out 9
                have hfz37_10 := blk_frozen BK172.out 10
                have hfz37_11 := blk_frozen BK172.out 11
                have hfz37_12 := blk_frozen BK172.out 12
                go_wp2
                go_meet
                case rel => exact ⟨_, (false), (by first | rfl | (simp; done) | (simp [*]; done)), H', ⟨by have := HJ1.out; have := HJ7.out; first | omega | exact Nat.le_refl _⟩, ⟨by (with_reducible repeat (first | refine blk_drewN ?_ _ | refine blk_drew ?_ | refine blk_alloc ?_ _)); exact BK172.out⟩, ⟨by repeat (first | (with_reducible first | exact HB.out | apply below_alloc | apply pw_below_drewN | apply below_drew1 | refine below_set ?_ GE172.out) | exact HB.out)⟩⟩
            ·rw [if_neg c30] at H
             have c30b0 : (a0_0 == 1) = false := beq_eq_false_iff_ne.mpr c30
             have c30b1 : (a0_0 != 1) = true := bne_iff_ne.mpr c30
             by_cases c38 : a0_0 = 2
             ·rw [if_pos c38] at H
              have c38b0 : (a0_0 == 2) = true := beq_iff_eq.mpr c38
              have c38b1 : (a0_0 != 2) = false := bne_eq_false_iff_eq.mpr c38
              clear c38
              have H' := Aside0.mk H
              clear H
              have hcz39_0 : w25.cell? ⟨gb172, 0, none⟩ = some (.int .i64 a0_0) := (blk_cell BK172.out 0).trans rfl
              have hcz39_1 : w25.cell? ⟨gb172, 1, none⟩ = some (.string a0_1) := (blk_cell BK172.out 1).trans rfl
              have hcz39_2 : w25.cell? ⟨gb172, 2, none⟩ = some (.string a0_2) := (blk_cell BK172.out 2).trans rfl
              have hcz39_3 : w25.cell? ⟨gb172, 3, none⟩ = some (.string a0_3) := (blk_cell BK172.out 3).trans rfl
              have hcz39_4 : w25.cell? ⟨gb172, 4, none⟩ = some (.int .i64 a0_4) := (blk_cell BK172.out 4).trans rfl
              have hcz39_5 : w25.cell? ⟨gb172, 5, none⟩ = some (.int .i64 a0_5) := (blk_cell BK172.out 5).trans rfl
              have hcz39_6 : w25.cell? ⟨gb172, 6, none⟩ = some (.int .i64 a0_6) := (blk_cell BK172.out 6).trans rfl
              have hcz39_7 : w25.cell? ⟨gb172, 7, none⟩ = some (.int .i64 a0_7) := (blk_cell BK172.out 7).trans rfl
              have hcz39_8 : w25.cell? ⟨gb172, 8, none⟩ = some (.int .i64 a0_8) := (blk_cell BK172.out 8).trans rfl
              have hcz39_9 : w25.cell? ⟨gb172, 9, none⟩ = some (.bool a0_9) := (blk_cell BK172.out 9).trans rfl
              have hcz39_10 : w25.cell? ⟨gb172, 10, none⟩ = some (.int .i64 a0_10) := (blk_cell BK172.out 10).trans rfl
              have hcz39_11 : w25.cell? ⟨gb172, 11, none⟩ = some (.string a0_11) := (blk_cell BK172.out 11).trans rfl
              have hcz39_12 : w25.cell? ⟨gb172, 12, none⟩ = some (.string a0_12) := (blk_cell BK172.out 12).trans rfl
              have hfz39_0 := blk_frozen BK172.out 0
              have hfz39_1 := blk_frozen BK172.out 1
              have hfz39_2 := blk_frozen BK172.out 2
              have hfz39_3 := blk_frozen BK172.out 3
              have hfz39_4 := blk_frozen BK172.out 4
              have hfz39_5 := blk_frozen BK172.out 5
              have hfz39_6 := blk_frozen BK172.out 6
              have hfz39_7 := blk_frozen BK172.out 7
              have hfz39_8 := blk_frozen BK172.out 8
              have hfz39_9 := blk_frozen BK172.out 9
              have hfz39_10 := blk_frozen BK172.out 10
              have hfz39_11 := blk_frozen BK172.out 11
              have hfz39_12 := blk_frozen BK172.out 12
              go_wp2
              go_meet
              case rel => exact ⟨_, ((a0_5 != 0)), (by first | rfl | (simp; done) | (simp [*]; done)), H', ⟨by have := HJ1.out; have := HJ7.out; first | omega | exact Nat.le_refl _⟩, ⟨by (with_reducible repeat (first | refine blk_drewN ?_ _ | refine blk_drew ?_ | refine blk_alloc ?_ _)); exact BK172.out⟩, ⟨by repeat (first | (with_reducible first | exact HB.out | apply below_alloc | apply pw_below_drewN | apply below_drew1 | refine below_set ?_ GE172.out) | exact HB.out)⟩⟩
             ·rw [if_neg c38] at H
              have c38b0 : (a0_0 == 2) = false := beq_eq_false_iff_ne.mpr c38
              have c38b1 : (a0_0 != 2) = true := bne_iff_ne.mpr c38
              have H' := Aside0.mk H
              clear H
              have hcz40_0 : w25.cell? ⟨gb172, 0, none⟩ = some (.int .i64 a0_0) := (blk_cell BK172.out 0).trans rfl
              have hcz40_1 : w25.cell? ⟨gb172, 1, none⟩ = some (.string a0_1) := (blk_cell BK172.out 1).trans rfl
              have hcz40_2 : w25.cell? ⟨gb172, 2, none⟩ = some (.string a0_2) := (blk_cell BK172.out 2).trans rfl
              have hcz40_3 : w25.cell? ⟨gb172, 3, none⟩ = some (.string a0_3) := (blk_cell BK172.out 3).trans rfl
              have hcz40_4 : w25.cell? ⟨gb172, 4, none⟩ = some (.int .i64 a0_4) := (blk_cell BK172.out 4).trans rfl
              have hcz40_5 : w25.cell? ⟨gb172, 5, none⟩ = some (.int .i64 a0_5) := (blk_cell BK172.out 5).trans rfl
              have hcz40_6 : w25.cell? ⟨gb172, 6, none⟩ = some (.int .i64 a0_6) := (blk_cell BK172.out 6).trans rfl
              have hcz40_7 : w25.cell? ⟨gb172, 7, none⟩ = some (.int .i64 a0_7) := (blk_cell BK172.out 7).trans rfl
              have hcz40_8 : w25.cell? ⟨gb172, 8, none⟩ = some (.int .i64 a0_8) := (blk_cell BK172.out 8).trans rfl
              have hcz40_9 : w25.cell? ⟨gb172, 9, none⟩ = some (.bool a0_9) := (blk_cell BK172.out 9).trans rfl
              have hcz40_10 : w25.cell? ⟨gb172, 10, none⟩ = some (.int .i64 a0_10) := (blk_cell BK172.out 10).trans rfl
              have hcz40_11 : w25.cell? ⟨gb172, 11, none⟩ = some (.string a0_11) := (blk_cell BK172.out 11).trans rfl
              have hcz40_12 : w25.cell? ⟨gb172, 12, none⟩ = some (.string a0_12) := (blk_cell BK172.out 12).trans rfl
              have hfz40_0 := blk_frozen BK172.out 0
              have hfz40_1 := blk_frozen BK172.out 1
              have hfz40_2 := blk_frozen BK172.out 2
              have hfz40_3 := blk_frozen BK172.out 3
              have hfz40_4 := blk_frozen BK172.out 4
              have hfz40_5 := blk_frozen BK172.out 5
              have hfz40_6 := blk_frozen BK172.out 6
              have hfz40_7 := blk_frozen BK172.out 7
              have hfz40_8 := blk_frozen BK172.out 8
              have hfz40_9 := blk_frozen BK172.out 9
              have hfz40_10 := blk_frozen BK172.out 10
              have hfz40_11 := blk_frozen BK172.out 11
              have hfz40_12 := blk_frozen BK172.out 12
              go_wp2
              go_meet
              case rel => exact ⟨_, (false), (by first | rfl | (simp; done) | (simp [*]; done)), H', ⟨by have := HJ1.out; have := HJ7.out; first | omega | exact Nat.le_refl _⟩, ⟨by (with_reducible repeat (first | refine blk_drewN ?_ _ | refine blk_drew ?_ | refine blk_alloc ?_ _)); exact BK172.out⟩, ⟨by repeat (first | (with_reducible first | exact HB.out | apply below_alloc | apply pw_below_drewN | apply below_drew1 | refine below_set ?_ GE172.out) | exact HB.out)⟩⟩
         case rest =>
          clear HC23
          try clear c1
          try clear c2
          try clear p2
          try clear c3
          try clear c4
          try clear c4b0
          try clear c4b1
          try clear c7
          try clear c9
          try clear c10
          try clear c18
          try clear c19
          try clear c19b0
          try clear c19b1
          try clear c22
          try clear c25
          try clear c26
          try clear c26b0
          try clear c28
          try clear c28b0
          try clear c30
          try clear c30b0
          try clear c30b1
          try clear c31
          try clear c31b0
          try clear c33
          try clear c33b0
          try clear c35
          try clear c35b0
          try clear c35b1
          try clear c38
          try clear c38b0
          try clear c38b1
          try clear hcz12_0 hcz12_1 hcz12_10 hcz12_11 hcz12_12 hcz12_2 hcz12_3 hcz12_4 hcz12_5 hcz12_6 hcz12_7 hcz12_8 hcz12_9
          try clear hcz14_0 hcz14_1 hcz14_10 hcz14_11 hcz14_12 hcz14_2 hcz14_3 hcz14_4 hcz14_5 hcz14_6 hcz14_7 hcz14_8 hcz14_9
          try clear hcz16_0 hcz16_1 hcz16_10 hcz16_11 hcz16_12 hcz16_2 hcz16_3 hcz16_4 hcz16_5 hcz16_6 hcz16_7 hcz16_8 hcz16_9
          try clear hcz20_0 hcz20_1 hcz20_10 hcz20_11 hcz20_12 hcz20_2 hcz20_3 hcz20_4 hcz20_5 hcz20_6 hcz20_7 hcz20_8 hcz20_9
          try clear hcz24_0 hcz24_1 hcz24_10 hcz24_11 hcz24_12 hcz24_2 hcz24_3 hcz24_4 hcz24_5 hcz24_6 hcz24_7 hcz24_8 hcz24_9
          try clear hcz27_0 hcz27_1 hcz27_10 hcz27_11 hcz27_12 hcz27_2 hcz27_3 hcz27_4 hcz27_5 hcz27_6 hcz27_7 hcz27_8 hcz27_9
          try clear hcz29_0 hcz29_1 hcz29_10 hcz29_11 hcz29_12 hcz29_2 hcz29_3 hcz29_4 hcz29_5 hcz29_6 hcz29_7 hcz29_8 hcz29_9
          try clear hcz32_0 hcz32_1 hcz32_10 hcz32_11 hcz32_12 hcz32_2 hcz32_3 hcz32_4 hcz32_5 hcz32_6 hcz32_7 hcz32_8 hcz32_9
          try clear hcz34_0 hcz34_1 hcz34_10 hcz34_11 hcz34_12 hcz34_2 hcz34_3 hcz34_4 hcz34_5 hcz34_6 hcz34_7 hcz34_8 hcz34_9
          try clear hcz36_0 hcz36_1 hcz36_10 hcz36_11 hcz36_12 hcz36_2 hcz36_3 hcz36_4 hcz36_5 hcz36_6 hcz36_7 hcz36_8 hcz36_9
          try clear hcz37_0 hcz37_1 hcz37_10 hcz37_11 hcz37_12 hcz37_2 hcz37_3 hcz37_4 hcz37_5 hcz37_6 hcz37_7 hcz37_8 hcz37_9
          try clear hcz39_0 hcz39_1 hcz39_10 hcz39_11 hcz39_12 hcz39_2 hcz39_3 hcz39_4 hcz39_5 hcz39_6 hcz39_7 hcz39_8 hcz39_9
          try clear hcz40_0 hcz40_1 hcz40_10 hcz40_11 hcz40_12 hcz40_2 hcz40_3 hcz40_4 hcz40_5 hcz40_6 hcz40_7 hcz40_8 hcz40_9
          try clear hcz5_0 hcz5_1 hcz5_10 hcz5_11 hcz5_12 hcz5_2 hcz5_3 hcz5_4 hcz5_5 hcz5_6 hcz5_7 hcz5_8 hcz5_9
          try clear hcz6_0 hcz6_1 hcz6_10 hcz6_11 hcz6_12 hcz6_2 hcz6_3 hcz6_4 hcz6_5 hcz6_6 hcz6_7 hcz6_8 hcz6_9
          try clear hfz12_0 hfz12_1 hfz12_10 hfz12_11 hfz12_12 hfz12_2 hfz12_3 hfz12_4 hfz12_5 hfz12_6 hfz12_7 hfz12_8 hfz12_9
          try clear hfz14_0 hfz14_1 hfz14_10 hfz14_11 hfz14_12 hfz14_2 hfz14_3 hfz14_4 hfz14_5 hfz14_6 hfz14_7 hfz14_8 hfz14_9
          try clear hfz16_0 hfz16_1 hfz16_10 hfz16_11 hfz16_12 hfz16_2 hfz16_3 hfz16_4 hfz16_5 hfz16_6 hfz16_7 hfz16_8 hfz16_9
          try clear hfz20_0 hfz20_1 hfz20_10 hfz20_11 hfz20_12 hfz20_2 hfz20_3 hfz20_4 hfz20_5 hfz20_6 hfz20_7 hfz20_8 hfz20_9
          try clear hfz24_0 hfz24_1 hfz24_10 hfz24_11 hfz24_12 hfz24_2 hfz24_3 hfz24_4 hfz24_5 hfz24_6 hfz24_7 hfz24_8 hfz24_9
          try clear hfz27_0 hfz27_1 hfz27_10 hfz27_11 hfz27_12 hfz27_2 hfz27_3 hfz27_4 hfz27_5 hfz27_6 hfz27_7 hfz27_8 hfz27_9
          try clear hfz29_0 hfz29_1 hfz29_10 hfz29_11 hfz29_12 hfz29_2 hfz29_3 hfz29_4 hfz29_5 hfz29_6 hfz29_7 hfz29_8 hfz29_9
          try clear hfz32_0 hfz32_1 hfz32_10 hfz32_11 hfz32_12 hfz32_2 hfz32_3 hfz32_4 hfz32_5 hfz32_6 hfz32_7 hfz32_8 hfz32_9
          try clear hfz34_0 hfz34_1 hfz34_10 hfz34_11 hfz34_12 hfz34_2 hfz34_3 hfz34_4 hfz34_5 hfz34_6 hfz34_7 hfz34_8 hfz34_9
          try clear hfz36_0 hfz36_1 hfz36_10 hfz36_11 hfz36_12 hfz36_2 hfz36_3 hfz36_4 hfz36_5 hfz36_6 hfz36_7 hfz36_8 hfz36_9
          try clear hfz37_0 hfz37_1 hfz37_10 hfz37_11 hfz37_12 hfz37_2 hfz37_3 hfz37_4 hfz37_5 hfz37_6 hfz37_7 hfz37_8 hfz37_9
          try clear hfz39_0 hfz39_1 hfz39_10 hfz39_11 hfz39_12 hfz39_2 hfz39_3 hfz39_4 hfz39_5 hfz39_6 hfz39_7 hfz39_8 hfz39_9
          try clear hfz40_0 hfz40_1 hfz40_10 hfz40_11 hfz40_12 hfz40_2 hfz40_3 hfz40_4 hfz40_5 hfz40_6 hfz40_7 hfz40_8 hfz40_9
          try clear hfz5_0 hfz5_1 hfz5_10 hfz5_11 hfz5_12 hfz5_2 hfz5_3 hfz5_4 hfz5_5 hfz5_6 hfz5_7 hfz5_8 hfz5_9
          try clear hfz6_0 hfz6_1 hfz6_10 hfz6_11 hfz6_12 hfz6_2 hfz6_3 hfz6_4 hfz6_5 hfz6_6 hfz6_7 hfz6_8 hfz6_9
          try clear p2
          obtain ⟨kq, x62_22, rfl, HA, HJ22, BK172, HB⟩ := hcut
          cases kq with
          | zero => exact absurd HA.out (by simp [giroref23_Check.j2])
          | succ kj22 =>
           have H := HA.out
           clear HA
           simp only [giroref23_Check.j2] at H
           by_cases c41 : x62_22 = true
           ·subst c41
            have H1 : (some 2) = some r := by rw [if_pos rfl] at H; exact H
            clear H
            have H := H1
            clear H1
            obtain rfl := Option.some.inj H
            go_wp2
            go_ret
            exact ⟨by first | rfl | (simp [errW_none, errW_some] <;> rfl) | (simp [*, errW_none, errW_some] <;> rfl), by repeat (first | (with_reducible first | exact HB.out | apply below_alloc | apply pw_below_drewN | apply below_drew1 | refine below_set ?_ GE172.out) | exact HB.out)⟩
           ·replace c41 := Bool.eq_false_iff.mpr c41
            subst c41
            have H1 : (if a0_7 < 0 then (giroref23_Check.j3 kj22 true a0_0 a0_1 a0_2 a0_3 a0_4 a0_5 a0_6 a0_7 a0_8 a0_9 a0_10 a0_11 a0_12) else (if a0_7 > 73048 then (giroref23_Check.j3 kj22 true a0_0 a0_1 a0_2 a0_3 a0_4 a0_5 a0_6 a0_7 a0_8 a0_9 a0_10 a0_11 a0_12) else (if a0_6 < 0 then (giroref23_Check.j3 kj22 true a0_0 a0_1 a0_2 a0_3 a0_4 a0_5 a0_6 a0_7 a0_8 a0_9 a0_10 a0_11 a0_12) else (giroref23_Check.j3 kj22 (decide (a0_6 > a0_7)) a0_0 a0_1 a0_2 a0_3 a0_4 a0_5 a0_6 a0_7 a0_8 a0_9 a0_10 a0_11 a0_12)))) = some r := by rw [if_neg (show ¬ (false = true) by decide)] at H; exact H
            clear H
            have H := H1
            clear H1
            have HC42 := Aside0.mk H
            clear H
            go_upto_region 11 with (fail)
            go_cut [82] (fun v82 wc => ∃ (kq : Nat) (x82_41 : Bool), v82 = .bool x82_41 ∧ Aside0 (giroref23_Check.j3 kq x82_41 a0_0 a0_1 a0_2 a0_3 a0_4 a0_5 a0_6 a0_7 a0_8 a0_9 a0_10 a0_11 a0_12 = some r) ∧ Aside0 (kq ≤ kj22) ∧ Aside0 (wc.heap[gb172]? = some (.cells #[.int .i64 a0_0, .string a0_1, .string a0_2, .string a0_3, .int .i64 a0_4, .int .i64 a0_5, .int .i64 a0_6, .int .i64 a0_7, .int .i64 a0_8, .bool a0_9, .int .i64 a0_10, .string a0_11, .string a0_12] 24 (0, 0))) ∧ Aside0 (Below w.heap.size w wc))
            case first =>
             have H := HC42.out
             clear HC42
             by_cases c43 : a0_7 < 0
             ·rw [if_pos c43] at H
              have c43b0 : decide (a0_7 < 0) = true := decide_eq_true c43
              clear c43
              (first | rw [c43b0] | (simp only [i64_w, i32_w]; rw [c43b0]) | skip)
              have H' := Aside0.mk H
              clear H
              have hcz44_0 : wc.cell? ⟨gb172, 0, none⟩ = some (.int .i64 a0_0) := (blk_cell BK172.out 0).trans rfl
              have hcz44_1 : wc.cell? ⟨gb172, 1, none⟩ = some (.string a0_1) := (blk_cell BK172.out 1).trans rfl
              have hcz44_2 : wc.cell? ⟨gb172, 2, none⟩ = some (.string a0_2) := (blk_cell BK172.out 2).trans rfl
              have hcz44_3 : wc.cell? ⟨gb172, 3, none⟩ = some (.string a0_3) := (blk_cell BK172.out 3).trans rfl
              have hcz44_4 : wc.cell? ⟨gb172, 4, none⟩ = some (.int .i64 a0_4) := (blk_cell BK172.out 4).trans rfl
              have hcz44_5 : wc.cell? ⟨gb172, 5, none⟩ = some (.int .i64 a0_5) := (blk_cell BK172.out 5).trans rfl
              have hcz44_6 : wc.cell? ⟨gb172, 6, none⟩ = some (.int .i64 a0_6) := (blk_cell BK172.out 6).trans rfl
              have hcz44_7 : wc.cell? ⟨gb172, 7, none⟩ = some (.int .i64 a0_7) := (blk_cell BK172.out 7).trans rfl
              have hcz44_8 : wc.cell? ⟨gb172, 8, none⟩ = some (.int .i64 a0_8) := (blk_cell BK172.out 8).trans rfl
              have hcz44_9 : wc.cell? ⟨gb172, 9, none⟩ = some (.bool a0_9) := (blk_cell BK172.out 9).trans rfl
              have hcz44_10 : wc.cell? ⟨gb172, 10, none⟩ = some (.int .i64 a0_10) := (blk_cell BK172.out 10).trans rfl
              have hcz44_11 : wc.cell? ⟨gb172, 11, none⟩ = some (.string a0_11) := (blk_cell BK172.out 11).trans rfl
              have hcz44_12 : wc.cell? ⟨gb172, 12, none⟩ = some (.string a0_12) := (blk_cell BK172.out 12).trans rfl
              have hfz44_0 := blk_frozen BK172.out 0
              have hfz44_1 := blk_frozen BK172.out 1
              have hfz44_2 := blk_frozen BK172.out 2
              have hfz44_3 := blk_frozen BK172.out 3
              have hfz44_4 := blk_frozen BK172.out 4
              have hfz44_5 := blk_frozen BK172.out 5
              have hfz44_6 := blk_frozen BK172.out 6
              have hfz44_7 := blk_frozen BK172.out 7
              have hfz44_8 := blk_frozen BK172.out 8
              have hfz44_9 := blk_frozen BK172.out 9
              have hfz44_10 := blk_frozen BK172.out 10
              have hfz44_11 := blk_frozen BK172.out 11
              have hfz44_12 := blk_frozen BK172.out 12
              go_wp2
              go_meet
              case rel => exact ⟨_, (true), (by first | rfl | (simp; done) | (simp [*]; done)), H', ⟨by have := HJ1.out; have := HJ7.out; have := HJ22.out; first | omega | exact Nat.le_refl _⟩, ⟨by (with_reducible repeat (first | refine blk_drewN ?_ _ | refine blk_drew ?_ | refine blk_alloc ?_ _)); exact BK172.out⟩, ⟨by repeat (first | (with_reducible first | exact HB.out | apply below_alloc | apply pw_below_drewN | apply below_drew1 | refine below_set ?_ GE172.out) | exact HB.out)⟩⟩
             ·rw [if_neg c43] at H
              have c43b0 : decide (a0_7 < 0) = false := decide_eq_false c43
              clear c43
              (first | rw [c43b0] | (simp only [i64_w, i32_w]; rw [c43b0]) | skip)
              by_cases c45 : a0_7 > 73048
              ·rw [if_pos c45] at H
               have c45b0 : decide (73048 < a0_7) = true := decide_eq_true c45
               clear c45
               have H' := Aside0.mk H
               clear H
               have hcz46_0 : wc.cell? ⟨gb172, 0, none⟩ = some (.int .i64 a0_0) := (blk_cell BK172.out 0).trans rfl
               have hcz46_1 : wc.cell? ⟨gb172, 1, none⟩ = some (.string a0_1) := (blk_cell BK172.out 1).trans rfl
               have hcz46_2 : wc.cell? ⟨gb172, 2, none⟩ = some (.string a0_2) := (blk_cell BK172.out 2).trans rfl
               have hcz46_3 : wc.cell? ⟨gb172, 3, none⟩ = some (.string a0_3) := (blk_cell BK172.out 3).trans rfl
               have hcz46_4 : wc.cell? ⟨gb172, 4, none⟩ = some (.int .i64 a0_4) := (blk_cell BK172.out 4).trans rfl
               have hcz46_5 : wc.cell? ⟨gb172, 5, none⟩ = some (.int .i64 a0_5) := (blk_cell BK172.out 5).trans rfl
               have hcz46_6 : wc.cell? ⟨gb172, 6, none⟩ = some (.int .i64 a0_6) := (blk_cell BK172.out 6).trans rfl
               have hcz46_7 : wc.cell? ⟨gb172, 7, none⟩ = some (.int .i64 a0_7) := (blk_cell BK172.out 7).trans rfl
               have hcz46_8 : wc.cell? ⟨gb172, 8, none⟩ = some (.int .i64 a0_8) := (blk_cell BK172.out 8).trans rfl
               have hcz46_9 : wc.cell? ⟨gb172, 9, none⟩ = some (.bool a0_9) := (blk_cell BK172.out 9).trans rfl
               have hcz46_10 : wc.cell? ⟨gb172, 10, none⟩ = some (.int .i64 a0_10) := (blk_cell BK172.out 10).trans rfl
               have hcz46_11 : wc.cell? ⟨gb172, 11, none⟩ = some (.string a0_11) := (blk_cell BK172.out 11).trans rfl
               have hcz46_12 : wc.cell? ⟨gb172, 12, none⟩ = some (.string a0_12) := (blk_cell BK172.out 12).trans rfl
               have hfz46_0 := blk_frozen BK172.out 0
               have hfz46_1 := blk_frozen BK172.out 1
               have hfz46_2 := blk_frozen BK172.out 2
               have hfz46_3 := blk_frozen BK172.out 3
               have hfz46_4 := blk_frozen BK172.out 4
               have hfz46_5 := blk_frozen BK172.out 5
               have hfz46_6 := blk_frozen BK172.out 6
               have hfz46_7 := blk_frozen BK172.out 7
               have hfz46_8 := blk_frozen BK172.out 8
               have hfz46_9 := blk_frozen BK172.out 9
               have hfz46_10 := blk_frozen BK172.out 10
               have hfz46_11 := blk_frozen BK172.out 11
               have hfz46_12 := blk_frozen BK172.out 12
               go_wp2
               go_meet
               case rel => exact ⟨_, (true), (by first | rfl | (simp; done) | (simp [*]; done)), H', ⟨by have := HJ1.out; have := HJ7.out; have := HJ22.out; first | omega | exact Nat.le_refl _⟩, ⟨by (with_reducible repeat (first | refine blk_drewN ?_ _ | refine blk_drew ?_ | refine blk_alloc ?_ _)); exact BK172.out⟩, ⟨by repeat (first | (with_reducible first | exact HB.out | apply below_alloc | apply pw_below_drewN | apply below_drew1 | refine below_set ?_ GE172.out) | exact HB.out)⟩⟩
              ·rw [if_neg c45] at H
               have c45b0 : decide (73048 < a0_7) = false := decide_eq_false c45
               clear c45
               by_cases c47 : a0_6 < 0
               ·rw [if_pos c47] at H
                have c47b0 : decide (a0_6 < 0) = true := decide_eq_true c47
                clear c47
                have H' := Aside0.mk H
                clear H
                have hcz48_0 : wc.cell? ⟨gb172, 0, none⟩ = some (.int .i64 a0_0) := (blk_cell BK172.out 0).trans rfl
                have hcz48_1 : wc.cell? ⟨gb172, 1, none⟩ = some (.string a0_1) := (blk_cell BK172.out 1).trans rfl
                have hcz48_2 : wc.cell? ⟨gb172, 2, none⟩ = some (.string a0_2) := (blk_cell BK172.out 2).trans rfl
                have hcz48_3 : wc.cell? ⟨gb172, 3, none⟩ = some (.string a0_3) := (blk_cell BK172.out 3).trans rfl
                have hcz48_4 : wc.cell? ⟨gb172, 4, none⟩ = some (.int .i64 a0_4) := (blk_cell BK172.out 4).trans rfl
                have hcz48_5 : wc.cell? ⟨gb172, 5, none⟩ = some (.int .i64 a0_5) := (blk_cell BK172.out 5).trans rfl
                have hcz48_6 : wc.cell? ⟨gb172, 6, none⟩ = some (.int .i64 a0_6) := (blk_cell BK172.out 6).trans rfl
                have hcz48_7 : wc.cell? ⟨gb172, 7, none⟩ = some (.int .i64 a0_7) := (blk_cell BK172.out 7).trans rfl
                have hcz48_8 : wc.cell? ⟨gb172, 8, none⟩ = some (.int .i64 a0_8) := (blk_cell BK172.out 8).trans rfl
                have hcz48_9 : wc.cell? ⟨gb172, 9, none⟩ = some (.bool a0_9) := (blk_cell BK172.out 9).trans rfl
                have hcz48_10 : wc.cell? ⟨gb172, 10, none⟩ = some (.int .i64 a0_10) := (blk_cell BK172.out 10).trans rfl
                have hcz48_11 : wc.cell? ⟨gb172, 11, none⟩ = some (.string a0_11) := (blk_cell BK172.out 11).trans rfl
                have hcz48_12 : wc.cell? ⟨gb172, 12, none⟩ = some (.string a0_12) := (blk_cell BK172.out 12).trans rfl
                have hfz48_0 := blk_frozen BK172.out 0
                have hfz48_1 := blk_frozen BK172.out 1
                have hfz48_2 := blk_frozen BK172.out 2
                have hfz48_3 := blk_frozen BK172.out 3
                have hfz48_4 := blk_frozen BK172.out 4
                have hfz48_5 := blk_frozen BK172.out 5
                have hfz48_6 := blk_frozen BK172.out 6
                have hfz48_7 := blk_frozen BK172.out 7
                have hfz48_8 := blk_frozen BK172.out 8
                have hfz48_9 := blk_frozen BK172.out 9
                have hfz48_10 := blk_frozen BK172.out 10
                have hfz48_11 := blk_frozen BK172.out 11
                have hfz48_12 := blk_frozen BK172.out 12
                go_wp2
                go_meet
                case rel => exact ⟨_, (true), (by first | rfl | (simp; done) | (simp [*]; done)), H', ⟨by have := HJ1.out; have := HJ7.out; have := HJ22.out; first | omega | exact Nat.le_refl _⟩, ⟨by (with_reducible repeat (first | refine blk_drewN ?_ _ | refine blk_drew ?_ | refine blk_alloc ?_ _)); exact BK172.out⟩, ⟨by repeat (first | (with_reducible first | exact HB.out | apply below_alloc | apply pw_below_drewN | apply below_drew1 | refine below_set ?_ GE172.out) | exact HB.out)⟩⟩
               ·rw [if_neg c47] at H
                have c47b0 : decide (a0_6 < 0) = false := decide_eq_false c47
                clear c47
                have H' := Aside0.mk H
                clear H
                have hcz49_0 : wc.cell? ⟨gb172, 0, none⟩ = some (.int .i64 a0_0) := (blk_cell BK172.out 0).trans rfl
                have hcz49_1 : wc.cell? ⟨gb172, 1, none⟩ = some (.string a0_1) := (blk_cell BK172.out 1).trans rfl
                have hcz49_2 : wc.cell? ⟨gb172, 2, none⟩ = some (.string a0_2) := (blk_cell BK172.out 2).trans rfl
                have hcz49_3 : wc.cell? ⟨gb172, 3, none⟩ = some (.string a0_3) := (blk_cell BK172.out 3).trans rfl
                have hcz49_4 : wc.cell? ⟨gb172, 4, none⟩ = some (.int .i64 a0_4) := (blk_cell BK172.out 4).trans rfl
                have hcz49_5 : wc.cell? ⟨gb172, 5, none⟩ = some (.int .i64 a0_5) := (blk_cell BK172.out 5).trans rfl
                have hcz49_6 : wc.cell? ⟨gb172, 6, none⟩ = some (.int .i64 a0_6) := (blk_cell BK172.out 6).trans rfl
                have hcz49_7 : wc.cell? ⟨gb172, 7, none⟩ = some (.int .i64 a0_7) := (blk_cell BK172.out 7).trans rfl
                have hcz49_8 : wc.cell? ⟨gb172, 8, none⟩ = some (.int .i64 a0_8) := (blk_cell BK172.out 8).trans rfl
                have hcz49_9 : wc.cell? ⟨gb172, 9, none⟩ = some (.bool a0_9) := (blk_cell BK172.out 9).trans rfl
                have hcz49_10 : wc.cell? ⟨gb172, 10, none⟩ = some (.int .i64 a0_10) := (blk_cell BK172.out 10).trans rfl
                have hcz49_11 : wc.cell? ⟨gb172, 11, none⟩ = some (.string a0_11) := (blk_cell BK172.out 11).trans rfl
                have hcz49_12 : wc.cell? ⟨gb172, 12, none⟩ = some (.string a0_12) := (blk_cell BK172.out 12).trans rfl
                have hfz49_0 := blk_frozen BK172.out 0
                have hfz49_1 := blk_frozen BK172.out 1
                have hfz49_2 := blk_frozen BK172.out 2
                have hfz49_3 := blk_frozen BK172.out 3
                have hfz49_4 := blk_frozen BK172.out 4
                have hfz49_5 := blk_frozen BK172.out 5
                have hfz49_6 := blk_frozen BK172.out 6
                have hfz49_7 := blk_frozen BK172.out 7
                have hfz49_8 := blk_frozen BK172.out 8
                have hfz49_9 := blk_frozen BK172.out 9
                have hfz49_10 := blk_frozen BK172.out 10
                have hfz49_11 := blk_frozen BK172.out 11
                have hfz49_12 := blk_frozen BK172.out 12
                go_wp2
                go_meet
                case rel => exact ⟨_, (decide (a0_6 > a0_7)), (by first | rfl | (simp; done) | (simp [*]; done)), H', ⟨by have := HJ1.out; have := HJ7.out; have := HJ22.out; first | omega | exact Nat.le_refl _⟩, ⟨by (with_reducible repeat (first | refine blk_drewN ?_ _ | refine blk_drew ?_ | refine blk_alloc ?_ _)); exact BK172.out⟩, ⟨by repeat (first | (with_reducible first | exact HB.out | apply below_alloc | apply pw_below_drewN | apply below_drew1 | refine below_set ?_ GE172.out) | exact HB.out)⟩⟩
            case rest =>
             clear HC42
             try clear c1
             try clear c2
             try clear p2
             try clear c3
             try clear c4
             try clear c4b0
             try clear c4b1
             try clear c7
             try clear c9
             try clear c10
             try clear c18
             try clear c19
             try clear c19b0
             try clear c19b1
             try clear c22
             try clear c25
             try clear c26
             try clear c26b0
             try clear c28
             try clear c28b0
             try clear c30
             try clear c30b0
             try clear c30b1
             try clear c31
             try clear c31b0
             try clear c33
             try clear c33b0
             try clear c35
             try clear c35b0
             try clear c35b1
             try clear c38
             try clear c38b0
             try clear c38b1
             try clear c41
             try clear c43
             try clear c43b0
             try clear c45
             try clear c45b0
             try clear c47
             try clear c47b0
             try clear hcz12_0 hcz12_1 hcz12_10 hcz12_11 hcz12_12 hcz12_2 hcz12_3 hcz12_4 hcz12_5 hcz12_6 hcz12_7 hcz12_8 hcz12_9
             try clear hcz14_0 hcz14_1 hcz14_10 hcz14_11 hcz14_12 hcz14_2 hcz14_3 hcz14_4 hcz14_5 hcz14_6 hcz14_7 hcz14_8 hcz14_9
             try clear hcz16_0 hcz16_1 hcz16_10 hcz16_11 hcz16_12 hcz16_2 hcz16_3 hcz16_4 hcz16_5 hcz16_6 hcz16_7 hcz16_8 hcz16_9
             try clear hcz20_0 hcz20_1 hcz20_10 hcz20_11 hcz20_12 hcz20_2 hcz20_3 hcz20_4 hcz20_5 hcz20_6 hcz20_7 hcz20_8 hcz20_9
             try clear hcz24_0 hcz24_1 hcz24_10 hcz24_11 hcz24_12 hcz24_2 hcz24_3 hcz24_4 hcz24_5 hcz24_6 hcz24_7 hcz24_8 hcz24_9
             try clear hcz27_0 hcz27_1 hcz27_10 hcz27_11 hcz27_12 hcz27_2 hcz27_3 hcz27_4 hcz27_5 hcz27_6 hcz27_7 hcz27_8 hcz27_9
             try clear hcz29_0 hcz29_1 hcz29_10 hcz29_11 hcz29_12 hcz29_2 hcz29_3 hcz29_4 hcz29_5 hcz29_6 hcz29_7 hcz29_8 hcz29_9
             try clear hcz32_0 hcz32_1 hcz32_10 hcz32_11 hcz32_12 hcz32_2 hcz32_3 hcz32_4 hcz32_5 hcz32_6 hcz32_7 hcz32_8 hcz32_9
             try clear hcz34_0 hcz34_1 hcz34_10 hcz34_11 hcz34_12 hcz34_2 hcz34_3 hcz34_4 hcz34_5 hcz34_6 hcz34_7 hcz34_8 hcz34_9
             try clear hcz36_0 hcz36_1 hcz36_10 hcz36_11 hcz36_12 hcz36_2 hcz36_3 hcz36_4 hcz36_5 hcz36_6 hcz36_7 hcz36_8 hcz36_9
             try clear hcz37_0 hcz37_1 hcz37_10 hcz37_11 hcz37_12 hcz37_2 hcz37_3 hcz37_4 hcz37_5 hcz37_6 hcz37_7 hcz37_8 hcz37_9
             try clear hcz39_0 hcz39_1 hcz39_10 hcz39_11 hcz39_12 hcz39_2 hcz39_3 hcz39_4 hcz39_5 hcz39_6 hcz39_7 hcz39_8 hcz39_9
             try clear hcz40_0 hcz40_1 hcz40_10 hcz40_11 hcz40_12 hcz40_2 hcz40_3 hcz40_4 hcz40_5 hcz40_6 hcz40_7 hcz40_8 hcz40_9
             try clear hcz44_0 hcz44_1 hcz44_10 hcz44_11 hcz44_12 hcz44_2 hcz44_3 hcz44_4 hcz44_5 hcz44_6 hcz44_7 hcz44_8 hcz44_9
             try clear hcz46_0 hcz46_1 hcz46_10 hcz46_11 hcz46_12 hcz46_2 hcz46_3 hcz46_4 hcz46_5 hcz46_6 hcz46_7 hcz46_8 hcz46_9
             try clear hcz48_0 hcz48_1 hcz48_10 hcz48_11 hcz48_12 hcz48_2 hcz48_3 hcz48_4 hcz48_5 hcz48_6 hcz48_7 hcz48_8 hcz48_9
             try clear hcz49_0 hcz49_1 hcz49_10 hcz49_11 hcz49_12 hcz49_2 hcz49_3 hcz49_4 hcz49_5 hcz49_6 hcz49_7 hcz49_8 hcz49_9
             try clear hcz5_0 hcz5_1 hcz5_10 hcz5_11 hcz5_12 hcz5_2 hcz5_3 hcz5_4 hcz5_5 hcz5_6 hcz5_7 hcz5_8 hcz5_9
             try clear hcz6_0 hcz6_1 hcz6_10 hcz6_11 hcz6_12 hcz6_2 hcz6_3 hcz6_4 hcz6_5 hcz6_6 hcz6_7 hcz6_8 hcz6_9
             try clear hfz12_0 hfz12_1 hfz12_10 hfz12_11 hfz12_12 hfz12_2 hfz12_3 hfz12_4 hfz12_5 hfz12_6 hfz12_7 hfz12_8 hfz12_9
             try clear hfz14_0 hfz14_1 hfz14_10 hfz14_11 hfz14_12 hfz14_2 hfz14_3 hfz14_4 hfz14_5 hfz14_6 hfz14_7 hfz14_8 hfz14_9
             try clear hfz16_0 hfz16_1 hfz16_10 hfz16_11 hfz16_12 hfz16_2 hfz16_3 hfz16_4 hfz16_5 hfz16_6 hfz16_7 hfz16_8 hfz16_9
             try clear hfz20_0 hfz20_1 hfz20_10 hfz20_11 hfz20_12 hfz20_2 hfz20_3 hfz20_4 hfz20_5 hfz20_6 hfz20_7 hfz20_8 hfz20_9
             try clear hfz24_0 hfz24_1 hfz24_10 hfz24_11 hfz24_12 hfz24_2 hfz24_3 hfz24_4 hfz24_5 hfz24_6 hfz24_7 hfz24_8 hfz24_9
             try clear hfz27_0 hfz27_1 hfz27_10 hfz27_11 hfz27_12 hfz27_2 hfz27_3 hfz27_4 hfz27_5 hfz27_6 hfz27_7 hfz27_8 hfz27_9
             try clear hfz29_0 hfz29_1 hfz29_10 hfz29_11 hfz29_12 hfz29_2 hfz29_3 hfz29_4 hfz29_5 hfz29_6 hfz29_7 hfz29_8 hfz29_9
             try clear hfz32_0 hfz32_1 hfz32_10 hfz32_11 hfz32_12 hfz32_2 hfz32_3 hfz32_4 hfz32_5 hfz32_6 hfz32_7 hfz32_8 hfz32_9
             try clear hfz34_0 hfz34_1 hfz34_10 hfz34_11 hfz34_12 hfz34_2 hfz34_3 hfz34_4 hfz34_5 hfz34_6 hfz34_7 hfz34_8 hfz34_9
             try clear hfz36_0 hfz36_1 hfz36_10 hfz36_11 hfz36_12 hfz36_2 hfz36_3 hfz36_4 hfz36_5 hfz36_6 hfz36_7 hfz36_8 hfz36_9
             try clear hfz37_0 hfz37_1 hfz37_10 hfz37_11 hfz37_12 hfz37_2 hfz37_3 hfz37_4 hfz37_5 hfz37_6 hfz37_7 hfz37_8 hfz37_9
             try clear hfz39_0 hfz39_1 hfz39_10 hfz39_11 hfz39_12 hfz39_2 hfz39_3 hfz39_4 hfz39_5 hfz39_6 hfz39_7 hfz39_8 hfz39_9
             try clear hfz40_0 hfz40_1 hfz40_10 hfz40_11 hfz40_12 hfz40_2 hfz40_3 hfz40_4 hfz40_5 hfz40_6 hfz40_7 hfz40_8 hfz40_9
             try clear hfz44_0 hfz44_1 hfz44_10 hfz44_11 hfz44_12 hfz44_2 hfz44_3 hfz44_4 hfz44_5 hfz44_6 hfz44_7 hfz44_8 hfz44_9
             try clear hfz46_0 hfz46_1 hfz46_10 hfz46_11 hfz46_12 hfz46_2 hfz46_3 hfz46_4 hfz46_5 hfz46_6 hfz46_7 hfz46_8 hfz46_9
             try clear hfz48_0 hfz48_1 hfz48_10 hfz48_11 hfz48_12 hfz48_2 hfz48_3 hfz48_4 hfz48_5 hfz48_6 hfz48_7 hfz48_8 hfz48_9
             try clear hfz49_0 hfz49_1 hfz49_10 hfz49_11 hfz49_12 hfz49_2 hfz49_3 hfz49_4 hfz49_5 hfz49_6 hfz49_7 hfz49_8 hfz49_9
             try clear hfz5_0 hfz5_1 hfz5_10 hfz5_11 hfz5_12 hfz5_2 hfz5_3 hfz5_4 hfz5_5 hfz5_6 hfz5_7 hfz5_8 hfz5_9
             try clear hfz6_0 hfz6_1 hfz6_10 hfz6_11 hfz6_12 hfz6_2 hfz6_3 hfz6_4 hfz6_5 hfz6_6 hfz6_7 hfz6_8 hfz6_9
             try clear p2
             obtain ⟨kq, x82_41, rfl, HA, HJ41, BK172, HB⟩ := hcut
             cases kq with
             | zero => exact absurd HA.out (by simp [giroref23_Check.j3])
             | succ kj41 =>
              have H := HA.out
              clear HA
              simp only [giroref23_Check.j3] at H
              by_cases c50 : x82_41 = true
              ·subst c50
               have H1 : (some 28) = some r := by rw [if_pos rfl] at H; exact H
               clear H
               have H := H1
               clear H1
               obtain rfl := Option.some.inj H
               go_wp2
               go_ret
               exact ⟨by first | rfl | (simp [errW_none, errW_some] <;> rfl) | (simp [*, errW_none, errW_some] <;> rfl), by repeat (first | (with_reducible first | exact HB.out | apply below_alloc | apply pw_below_drewN | apply below_drew1 | refine below_set ?_ GE172.out) | exact HB.out)⟩
              ·replace c50 := Bool.eq_false_iff.mpr c50
               subst c50
               have H1 : (if a0_8 < 0 then (giroref23_Check.j4 kj41 true a0_0 a0_1 a0_2 a0_3 a0_4 a0_5 a0_6 a0_7 a0_8 a0_9 a0_10 a0_11 a0_12) else (giroref23_Check.j4 kj41 (decide (a0_8 > 2)) a0_0 a0_1 a0_2 a0_3 a0_4 a0_5 a0_6 a0_7 a0_8 a0_9 a0_10 a0_11 a0_12)) = some r := by rw [if_neg (show ¬ (false = true) by decide)] at H; exact H
               clear H
               have H := H1
               clear H1
               have HC51 := Aside0.mk H
               clear H
               go_upto_region 13 with (fail)
               go_cut [90] (fun v90 wc => ∃ (kq : Nat) (x90_50 : Bool), v90 = .bool x90_50 ∧ Aside0 (giroref23_Check.j4 kq x90_50 a0_0 a0_1 a0_2 a0_3 a0_4 a0_5 a0_6 a0_7 a0_8 a0_9 a0_10 a0_11 a0_12 = some r) ∧ Aside0 (kq ≤ kj41) ∧ Aside0 (wc.heap[gb172]? = some (.cells #[.int .i64 a0_0, .string a0_1, .string a0_2, .string a0_3, .int .i64 a0_4, .int .i64 a0_5, .int .i64 a0_6, .int .i64 a0_7, .int .i64 a0_8, .bool a0_9, .int .i64 a0_10, .string a0_11, .string a0_12] 24 (0, 0))) ∧ Aside0 (Below w.heap.size w wc))
               case first =>
                have H := HC51.out
                clear HC51
                by_cases c52 : a0_8 < 0
                ·rw [if_pos c52] at H
                 have c52b0 : decide (a0_8 < 0) = true := decide_eq_true c52
                 clear c52
                 (first | rw [c52b0] | (simp only [i64_w, i32_w]; rw [c52b0]) | skip)
                 have H' := Aside0.mk H
                 clear H
                 have hcz53_0 : wc.cell? ⟨gb172, 0, none⟩ = some (.int .i64 a0_0) := (blk_cell BK172.out 0).trans rfl
                 have hcz53_1 : wc.cell? ⟨gb172, 1, none⟩ = some (.string a0_1) := (blk_cell BK172.out 1).trans rfl
                 have hcz53_2 : wc.cell? ⟨gb172, 2, none⟩ = some (.string a0_2) := (blk_cell BK172.out 2).trans rfl
                 have hcz53_3 : wc.cell? ⟨gb172, 3, none⟩ = some (.string a0_3) := (blk_cell BK172.out 3).trans rfl
                 have hcz53_4 : wc.cell? ⟨gb172, 4, none⟩ = some (.int .i64 a0_4) := (blk_cell BK172.out 4).trans rfl
                 have hcz53_5 : wc.cell? ⟨gb172, 5, none⟩ = some (.int .i64 a0_5) := (blk_cell BK172.out 5).trans rfl
                 have hcz53_6 : wc.cell? ⟨gb172, 6, none⟩ = some (.int .i64 a0_6) := (blk_cell BK172.out 6).trans rfl
                 have hcz53_7 : wc.cell? ⟨gb172, 7, none⟩ = some (.int .i64 a0_7) := (blk_cell BK172.out 7).trans rfl
                 have hcz53_8 : wc.cell? ⟨gb172, 8, none⟩ = some (.int .i64 a0_8) := (blk_cell BK172.out 8).trans rfl
                 have hcz53_9 : wc.cell? ⟨gb172, 9, none⟩ = some (.bool a0_9) := (blk_cell BK172.out 9).trans rfl
                 have hcz53_10 : wc.cell? ⟨gb172, 10, none⟩ = some (.int .i64 a0_10) := (blk_cell BK172.out 10).trans rfl
                 have hcz53_11 : wc.cell? ⟨gb172, 11, none⟩ = some (.string a0_11) := (blk_cell BK172.out 11).trans rfl
                 have hcz53_12 : wc.cell? ⟨gb172, 12, none⟩ = some (.string a0_12) := (blk_cell BK172.out 12).trans rfl
                 have hfz53_0 := blk_frozen BK172.out 0
                 have hfz53_1 := blk_frozen BK172.out 1
                 have hfz53_2 := blk_frozen BK172.out 2
                 have hfz53_3 := blk_frozen BK172.out 3
                 have hfz53_4 := blk_frozen BK172.out 4
                 have hfz53_5 := blk_frozen BK172.out 5
                 have hfz53_6 := blk_frozen BK172.out 6
                 have hfz53_7 := blk_frozen BK172.out 7
                 have hfz53_8 := blk_frozen BK172.out 8
                 have hfz53_9 := blk_frozen BK172.out 9
                 have hfz53_10 := blk_frozen BK172.out 10
                 have hfz53_11 := blk_frozen BK172.out 11
                 have hfz53_12 := blk_frozen BK172.out 12
                 go_wp2
                 go_meet
                 case rel => exact ⟨_, (true), (by first | rfl | (simp; done) | (simp [*]; done)), H', ⟨by have := HJ1.out; have := HJ7.out; have := HJ22.out; have := HJ41.out; first | omega | exact Nat.le_refl _⟩, ⟨by (with_reducible repeat (first | refine blk_drewN ?_ _ | refine blk_drew ?_ | refine blk_alloc ?_ _)); exact BK172.out⟩, ⟨by repeat (first | (with_reducible first | exact HB.out | apply below_alloc | apply pw_below_drewN | apply below_drew1 | refine below_set ?_ GE172.out) | exact HB.out)⟩⟩
                ·rw [if_neg c52] at H
                 have c52b0 : decide (a0_8 < 0) = false := decide_eq_false c52
                 clear c52
                 (first | rw [c52b0] | (simp only [i64_w, i32_w]; rw [c52b0]) | skip)
                 have H' := Aside0.mk H
                 clear H
                 have hcz54_0 : wc.cell? ⟨gb172, 0, none⟩ = some (.int .i64 a0_0) := (blk_cell BK172.out 0).trans rfl
                 have hcz54_1 : wc.cell? ⟨gb172, 1, none⟩ = some (.string a0_1) := (blk_cell BK172.out 1).trans rfl
                 have hcz54_2 : wc.cell? ⟨gb172, 2, none⟩ = some (.string a0_2) := (blk_cell BK172.out 2).trans rfl
                 have hcz54_3 : wc.cell? ⟨gb172, 3, none⟩ = some (.string a0_3) := (blk_cell BK172.out 3).trans rfl
                 have hcz54_4 : wc.cell? ⟨gb172, 4, none⟩ = some (.int .i64 a0_4) := (blk_cell BK172.out 4).trans rfl
                 have hcz54_5 : wc.cell? ⟨gb172, 5, none⟩ = some (.int .i64 a0_5) := (blk_cell BK172.out 5).trans rfl
                 have hcz54_6 : wc.cell? ⟨gb172, 6, none⟩ = some (.int .i64 a0_6) := (blk_cell BK172.out 6).trans rfl
                 have hcz54_7 : wc.cell? ⟨gb172, 7, none⟩ = some (.int .i64 a0_7) := (blk_cell BK172.out 7).trans rfl
                 have hcz54_8 : wc.cell? ⟨gb172, 8, none⟩ = some (.int .i64 a0_8) := (blk_cell BK172.out 8).trans rfl
                 have hcz54_9 : wc.cell? ⟨gb172, 9, none⟩ = some (.bool a0_9) := (blk_cell BK172.out 9).trans rfl
                 have hcz54_10 : wc.cell? ⟨gb172, 10, none⟩ = some (.int .i64 a0_10) := (blk_cell BK172.out 10).trans rfl
                 have hcz54_11 : wc.cell? ⟨gb172, 11, none⟩ = some (.string a0_11) := (blk_cell BK172.out 11).trans rfl
                 have hcz54_12 : wc.cell? ⟨gb172, 12, none⟩ = some (.string a0_12) := (blk_cell BK172.out 12).trans rfl
                 have hfz54_0 := blk_frozen BK172.out 0
                 have hfz54_1 := blk_frozen BK172.out 1
                 have hfz54_2 := blk_frozen BK172.out 2
                 have hfz54_3 := blk_frozen BK172.out 3
                 have hfz54_4 := blk_frozen BK172.out 4
                 have hfz54_5 := blk_frozen BK172.out 5
                 have hfz54_6 := blk_frozen BK172.out 6
                 have hfz54_7 := blk_frozen BK172.out 7
                 have hfz54_8 := blk_frozen BK172.out 8
                 have hfz54_9 := blk_frozen BK172.out 9
                 have hfz54_10 := blk_frozen BK172.out 10
                 have hfz54_11 := blk_frozen BK172.out 11
                 have hfz54_12 := blk_frozen BK172.out 12
                 go_wp2
                 go_meet
                 case rel => exact ⟨_, (decide (a0_8 > 2)), (by first | rfl | (simp; done) | (simp [*]; done)), H', ⟨by have := HJ1.out; have := HJ7.out; have := HJ22.out; have := HJ41.out; first | omega | exact Nat.le_refl _⟩, ⟨by (with_reducible repeat (first | refine blk_drewN ?_ _ | refine blk_drew ?_ | refine blk_alloc ?_ _)); exact BK172.out⟩, ⟨by repeat (first | (with_reducible first | exact HB.out | apply below_alloc | apply pw_below_drewN | apply below_drew1 | refine below_set ?_ GE172.out) | exact HB.out)⟩⟩
               case rest =>
                clear HC51
                try clear p2
                try clear c4
                try clear c5
                try clear c47
                try clear c47b0
                try clear c50
                try clear c52
                try clear c52b0
                try clear hcz12_0 hcz12_1 hcz12_10 hcz12_11 hcz12_12 hcz12_2 hcz12_3 hcz12_4 hcz12_5 hcz12_6 hcz12_7 hcz12_8 hcz12_9
                try clear hcz14_0 hcz14_1 hcz14_10 hcz14_11 hcz14_12 hcz14_2 hcz14_3 hcz14_4 hcz14_5 hcz14_6 hcz14_7 hcz14_8 hcz14_9
                try clear hcz16_0 hcz16_1 hcz16_10 hcz16_11 hcz16_12 hcz16_2 hcz16_3 hcz16_4 hcz16_5 hcz16_6 hcz16_7 hcz16_8 hcz16_9
                try clear hcz20_0 hcz20_1 hcz20_10 hcz20_11 hcz20_12 hcz20_2 hcz20_3 hcz20_4 hcz20_5 hcz20_6 hcz20_7 hcz20_8 hcz20_9
                try clear hcz24_0 hcz24_1 hcz24_10 hcz24_11 hcz24_12 hcz24_2 hcz24_3 hcz24_4 hcz24_5 hcz24_6 hcz24_7 hcz24_8 hcz24_9
                try clear hcz27_0 hcz27_1 hcz27_10 hcz27_11 hcz27_12 hcz27_2 hcz27_3 hcz27_4 hcz27_5 hcz27_6 hcz27_7 hcz27_8 hcz27_9
                try clear hcz29_0 hcz29_1 hcz29_10 hcz29_11 hcz29_12 hcz29_2 hcz29_3 hcz29_4 hcz29_5 hcz29_6 hcz29_7 hcz29_8 hcz29_9
                try clear hcz32_0 hcz32_1 hcz32_10 hcz32_11 hcz32_12 hcz32_2 hcz32_3 hcz32_4 hcz32_5 hcz32_6 hcz32_7 hcz32_8 hcz32_9
                try clear hcz34_0 hcz34_1 hcz34_10 hcz34_11 hcz34_12 hcz34_2 hcz34_3 hcz34_4 hcz34_5 hcz34_6 hcz34_7 hcz34_8 hcz34_9
                try clear hcz36_0 hcz36_1 hcz36_10 hcz36_11 hcz36_12 hcz36_2 hcz36_3 hcz36_4 hcz36_5 hcz36_6 hcz36_7 hcz36_8 hcz36_9
                try clear hcz37_0 hcz37_1 hcz37_10 hcz37_11 hcz37_12 hcz37_2 hcz37_3 hcz37_4 hcz37_5 hcz37_6 hcz37_7 hcz37_8 hcz37_9
                try clear hcz39_0 hcz39_1 hcz39_10 hcz39_11 hcz39_12 hcz39_2 hcz39_3 hcz39_4 hcz39_5 hcz39_6 hcz39_7 hcz39_8 hcz39_9
                try clear hcz40_0 hcz40_1 hcz40_10 hcz40_11 hcz40_12 hcz40_2 hcz40_3 hcz40_4 hcz40_5 hcz40_6 hcz40_7 hcz40_8 hcz40_9
                try clear hcz44_0 hcz44_1 hcz44_10 hcz44_11 hcz44_12 hcz44_2 hcz44_3 hcz44_4 hcz44_5 hcz44_6 hcz44_7 hcz44_8 hcz44_9
                try clear hcz46_0 hcz46_1 hcz46_10 hcz46_11 hcz46_12 hcz46_2 hcz46_3 hcz46_4 hcz46_5 hcz46_6 hcz46_7 hcz46_8 hcz46_9
                try clear hcz48_0 hcz48_1 hcz48_10 hcz48_11 hcz48_12 hcz48_2 hcz48_3 hcz48_4 hcz48_5 hcz48_6 hcz48_7 hcz48_8 hcz48_9
                try clear hcz49_0 hcz49_1 hcz49_10 hcz49_11 hcz49_12 hcz49_2 hcz49_3 hcz49_4 hcz49_5 hcz49_6 hcz49_7 hcz49_8 hcz49_9
                try clear hcz53_0 hcz53_1 hcz53_10 hcz53_11 hcz53_12 hcz53_2 hcz53_3 hcz53_4 hcz53_5 hcz53_6 hcz53_7 hcz53_8 hcz53_9
                try clear hcz54_0 hcz54_1 hcz54_10 hcz54_11 hcz54_12 hcz54_2 hcz54_3 hcz54_4 hcz54_5 hcz54_6 hcz54_7 hcz54_8 hcz54_9
                try clear hcz5_0 hcz5_1 hcz5_10 hcz5_11 hcz5_12 hcz5_2 hcz5_3 hcz5_4 hcz5_5 hcz5_6 hcz5_7 hcz5_8 hcz5_9
                try clear hcz6_0 hcz6_1 hcz6_10 hcz6_11 hcz6_12 hcz6_2 hcz6_3 hcz6_4 hcz6_5 hcz6_6 hcz6_7 hcz6_8 hcz6_9
                try clear hfz12_0 hfz12_1 hfz12_10 hfz12_11 hfz12_12 hfz12_2 hfz12_3 hfz12_4 hfz12_5 hfz12_6 hfz12_7 hfz12_8 hfz12_9
                try clear hfz14_0 hfz14_1 hfz14_10 hfz14_11 hfz14_12 hfz14_2 hfz14_3 hfz14_4 hfz14_5 hfz14_6 hfz14_7 hfz14_8 hfz14_9
                try clear hfz16_0 hfz16_1 hfz16_10 hfz16_11 hfz16_12 hfz16_2 hfz16_3 hfz16_4 hfz16_5 hfz16_6 hfz16_7 hfz16_8 hfz16_9
                try clear hfz20_0 hfz20_1 hfz20_10 hfz20_11 hfz20_12 hfz20_2 hfz20_3 hfz20_4 hfz20_5 hfz20_6 hfz20_7 hfz20_8 hfz20_9
                try clear hfz24_0 hfz24_1 hfz24_10 hfz24_11 hfz24_12 hfz24_2 hfz24_3 hfz24_4 hfz24_5 hfz24_6 hfz24_7 hfz24_8 hfz24_9
                try clear hfz27_0 hfz27_1 hfz27_10 hfz27_11 hfz27_12 hfz27_2 hfz27_3 hfz27_4 hfz27_5 hfz27_6 hfz27_7 hfz27_8 hfz27_9
                try clear hfz29_0 hfz29_1 hfz29_10 hfz29_11 hfz29_12 hfz29_2 hfz29_3 hfz29_4 hfz29_5 hfz29_6 hfz29_7 hfz29_8 hfz29_9
                try clear hfz32_0 hfz32_1 hfz32_10 hfz32_11 hfz32_12 hfz32_2 hfz32_3 hfz32_4 hfz32_5 hfz32_6 hfz32_7 hfz32_8 hfz32_9
                try clear hfz34_0 hfz34_1 hfz34_10 hfz34_11 hfz34_12 hfz34_2 hfz34_3 hfz34_4 hfz34_5 hfz34_6 hfz34_7 hfz34_8 hfz34_9
                try clear hfz36_0 hfz36_1 hfz36_10 hfz36_11 hfz36_12 hfz36_2 hfz36_3 hfz36_4 hfz36_5 hfz36_6 hfz36_7 hfz36_8 hfz36_9
                try clear hfz37_0 hfz37_1 hfz37_10 hfz37_11 hfz37_12 hfz37_2 hfz37_3 hfz37_4 hfz37_5 hfz37_6 hfz37_7 hfz37_8 hfz37_9
                try clear hfz39_0 hfz39_1 hfz39_10 hfz39_11 hfz39_12 hfz39_2 hfz39_3 hfz39_4 hfz39_5 hfz39_6 hfz39_7 hfz39_8 hfz39_9
                try clear hfz40_0 hfz40_1 hfz40_10 hfz40_11 hfz40_12 hfz40_2 hfz40_3 hfz40_4 hfz40_5 hfz40_6 hfz40_7 hfz40_8 hfz40_9
                try clear hfz44_0 hfz44_1 hfz44_10 hfz44_11 hfz44_12 hfz44_2 hfz44_3 hfz44_4 hfz44_5 hfz44_6 hfz44_7 hfz44_8 hfz44_9
                try clear hfz46_0 hfz46_1 hfz46_10 hfz46_11 hfz46_12 hfz46_2 hfz46_3 hfz46_4 hfz46_5 hfz46_6 hfz46_7 hfz46_8 hfz46_9
                try clear hfz48_0 hfz48_1 hfz48_10 hfz48_11 hfz48_12 hfz48_2 hfz48_3 hfz48_4 hfz48_5 hfz48_6 hfz48_7 hfz48_8 hfz48_9
                try clear hfz49_0 hfz49_1 hfz49_10 hfz49_11 hfz49_12 hfz49_2 hfz49_3 hfz49_4 hfz49_5 hfz49_6 hfz49_7 hfz49_8 hfz49_9
                try clear hfz53_0 hfz53_1 hfz53_10 hfz53_11 hfz53_12 hfz53_2 hfz53_3 hfz53_4 hfz53_5 hfz53_6 hfz53_7 hfz53_8 hfz53_9
                try clear hfz54_0 hfz54_1 hfz54_10 hfz54_11 hfz54_12 hfz54_2 hfz54_3 hfz54_4 hfz54_5 hfz54_6 hfz54_7 hfz54_8 hfz54_9
                try clear hfz5_0 hfz5_1 hfz5_10 hfz5_11 hfz5_12 hfz5_2 hfz5_3 hfz5_4 hfz5_5 hfz5_6 hfz5_7 hfz5_8 hfz5_9
                try clear hfz6_0 hfz6_1 hfz6_10 hfz6_11 hfz6_12 hfz6_2 hfz6_3 hfz6_4 hfz6_5 hfz6_6 hfz6_7 hfz6_8 hfz6_9
                try clear p2
                obtain ⟨kq, x90_50, rfl, HA, HJ50, BK172, HB⟩ := hcut
                cases kq with
                | zero => exact absurd HA.out (by simp [giroref23_Check.j4])
                | succ kj50 =>
                 have H := HA.out
                 clear HA
                 simp only [giroref23_Check.j4] at H
                 by_cases c55 : x90_50 = true
                 ·subst c55
                  have H1 : (some 2) = some r := by rw [if_pos rfl] at H; exact H
                  clear H
                  have H := H1
                  clear H1
                  obtain rfl := Option.some.inj H
                  go_wp2
                  go_ret
                  exact ⟨by first | rfl | (simp [errW_none, errW_some] <;> rfl) | (simp [*, errW_none, errW_some] <;> rfl), by repeat (first | (with_reducible first | exact HB.out | apply below_alloc | apply pw_below_drewN | apply below_drew1 | refine below_set ?_ GE172.out) | exact HB.out)⟩
                 ·replace c55 := Bool.eq_false_iff.mpr c55
                  subst c55
                  have H1 : (if a0_9 = true then (if a0_10 < 1 then (giroref23_Check.j5 kj50 true a0_0 a0_1 a0_2 a0_3 a0_4 a0_5 a0_6 a0_7 a0_8 a0_9 a0_10 a0_11 a0_12) else (if a0_10 > a0_4 then (giroref23_Check.j5 kj50 true a0_0 a0_1 a0_2 a0_3 a0_4 a0_5 a0_6 a0_7 a0_8 a0_9 a0_10 a0_11 a0_12) else (giroref23_Check.j5 kj50 false a0_0 a0_1 a0_2 a0_3 a0_4 a0_5 a0_6 a0_7 a0_8 a0_9 a0_10 a0_11 a0_12))) else (giroref23_Check.j5 kj50 (a0_10 != 0) a0_0 a0_1 a0_2 a0_3 a0_4 a0_5 a0_6 a0_7 a0_8 a0_9 a0_10 a0_11 a0_12)) = some r := by rw [if_neg (show ¬ (false = true) by decide)] at H; exact H
                  clear H
                  have H := H1
                  clear H1
                  have HC56 := Aside0.mk H
                  clear H
                  go_upto_region 15 with (fail)
                  go_cut [114] (fun v114 wc => ∃ (kq : Nat) (x114_55 : Bool), v114 = .bool x114_55 ∧ Aside0 (giroref23_Check.j5 kq x114_55 a0_0 a0_1 a0_2 a0_3 a0_4 a0_5 a0_6 a0_7 a0_8 a0_9 a0_10 a0_11 a0_12 = some r) ∧ Aside0 (kq ≤ kj50) ∧ Aside0 (wc.heap[gb172]? = some (.cells #[.int .i64 a0_0, .string a0_1, .string a0_2, .string a0_3, .int .i64 a0_4, .int .i64 a0_5, .int .i64 a0_6, .int .i64 a0_7, .int .i64 a0_8, .bool a0_9, .int .i64 a0_10, .string a0_11, .string a0_12] 24 (0, 0))) ∧ Aside0 (Below w.heap.size w wc))
                  case first =>
                   have H := HC56.out
                   clear HC56
                   by_cases c57 : a0_9 = true
                   ·subst c57
                    have H1 : (if a0_10 < 1 then (giroref23_Check.j5 kj50 true a0_0 a0_1 a0_2 a0_3 a0_4 a0_5 a0_6 a0_7 a0_8 true a0_10 a0_11 a0_12) else (if a0_10 > a0_4 then (giroref23_Check.j5 kj50 true a0_0 a0_1 a0_2 a0_3 a0_4 a0_5 a0_6 a0_7 a0_8 true a0_10 a0_11 a0_12) else (giroref23_Check.j5 kj50 false a0_0 a0_1 a0_2 a0_3 a0_4 a0_5 a0_6 a0_7 a0_8 true a0_10 a0_11 a0_12))) = some r := by rw [if_pos rfl] at H; exact H
                    clear H
                    have H := H1
                    clear H1
                    by_cases c58 : a0_10 < 1
                    ·rw [if_pos c58] at H
                     have c58b0 : decide (a0_10 < 1) = true := decide_eq_true c58
                     clear c58
                     (first | rw [c58b0] | (simp only [i64_w, i32_w]; rw [c58b0]) | skip)
                     have H' := Aside0.mk H
                     clear H
                     have hcz59_0 : wc.cell? ⟨gb172, 0, none⟩ = some (.int .i64 a0_0) := (blk_cell BK172.out 0).trans rfl
                     have hcz59_1 : wc.cell? ⟨gb172, 1, none⟩ = some (.string a0_1) := (blk_cell BK172.out 1).trans rfl
                     have hcz59_2 : wc.cell? ⟨gb172, 2, none⟩ = some (.string a0_2) := (blk_cell BK172.out 2).trans rfl
                     have hcz59_3 : wc.cell? ⟨gb172, 3, none⟩ = some (.string a0_3) := (blk_cell BK172.out 3).trans rfl
                     have hcz59_4 : wc.cell? ⟨gb172, 4, none⟩ = some (.int .i64 a0_4) := (blk_cell BK172.out 4).trans rfl
                     have hcz59_5 : wc.cell? ⟨gb172, 5, none⟩ = some (.int .i64 a0_5) := (blk_cell BK172.out 5).trans rfl
                     have hcz59_6 : wc.cell? ⟨gb172, 6, none⟩ = some (.int .i64 a0_6) := (blk_cell BK172.out 6).trans rfl
                     have hcz59_7 : wc.cell? ⟨gb172, 7, none⟩ = some (.int .i64 a0_7) := (blk_cell BK172.out 7).trans rfl
                     have hcz59_8 : wc.cell? ⟨gb172, 8, none⟩ = some (.int .i64 a0_8) := (blk_cell BK172.out 8).trans rfl
                     have hcz59_9 : wc.cell? ⟨gb172, 9, none⟩ = some (.bool true) := (blk_cell BK172.out 9).trans rfl
                     have hcz59_10 : wc.cell? ⟨gb172, 10, none⟩ = some (.int .i64 a0_10) := (blk_cell BK172.out 10).trans rfl
                     have hcz59_11 : wc.cell? ⟨gb172, 11, none⟩ = some (.string a0_11) := (blk_cell BK172.out 11).trans rfl
                     have hcz59_12 : wc.cell? ⟨gb172, 12, none⟩ = some (.string a0_12) := (blk_cell BK172.out 12).trans rfl
                     have hfz59_0 := blk_frozen BK172.out 0
                     have hfz59_1 := blk_frozen BK172.out 1
                     have hfz59_2 := blk_frozen BK172.out 2
                     have hfz59_3 := blk_frozen BK172.out 3
                     have hfz59_4 := blk_frozen BK172.out 4
                     have hfz59_5 := blk_frozen BK172.out 5
                     have hfz59_6 := blk_frozen BK172.out 6
                     have hfz59_7 := blk_frozen BK172.out 7
                     have hfz59_8 := blk_frozen BK172.out 8
                     have hfz59_9 := blk_frozen BK172.out 9
                     have hfz59_10 := blk_frozen BK172.out 10
                     have hfz59_11 := blk_frozen BK172.out 11
                     have hfz59_12 := blk_frozen BK172.out 12
                     go_wp2
                     go_meet
                     case rel => exact ⟨_, (true), (by first | rfl | (simp; done) | (simp [*]; done)), H', ⟨by have := HJ1.out; have := HJ7.out; have := HJ22.out; have := HJ41.out; have := HJ50.out; first | omega | exact Nat.le_refl _⟩, ⟨by (with_reducible repeat (first | refine blk_drewN ?_ _ | refine blk_drew ?_ | refine blk_alloc ?_ _)); exact BK172.out⟩, ⟨by repeat (first | (with_reducible first | exact HB.out | apply below_alloc | apply pw_below_drewN | apply below_drew1 | refine below_set ?_ GE172.out) | exact HB.out)⟩⟩
                    ·rw [if_neg c58] at H
                     have c58b0 : decide (a0_10 < 1) = false := decide_eq_false c58
                     clear c58
                     (first | rw [c58b0] | (simp only [i64_w, i32_w]; rw [c58b0]) | skip)
                     by_cases c60 : a0_10 > a0_4
                     ·rw [if_pos c60] at H
                      have c60b0 : decide (a0_4 < a0_10) = true := decide_eq_true c60
                      clear c60
                      have H' := Aside0.mk H
                      clear H
                      have hcz61_0 : wc.cell? ⟨gb172, 0, none⟩ = some (.int .i64 a0_0) := (blk_cell BK172.out 0).trans rfl
                      have hcz61_1 : wc.cell? ⟨gb172, 1, none⟩ = some (.string a0_1) := (blk_cell BK172.out 1).trans rfl
                      have hcz61_2 : wc.cell? ⟨gb172, 2, none⟩ = some (.string a0_2) := (blk_cell BK172.out 2).trans rfl
                      have hcz61_3 : wc.cell? ⟨gb172, 3, none⟩ = some (.string a0_3) := (blk_cell BK172.out 3).trans rfl
                      have hcz61_4 : wc.cell? ⟨gb172, 4, none⟩ = some (.int .i64 a0_4) := (blk_cell BK172.out 4).trans rfl
                      have hcz61_5 : wc.cell? ⟨gb172, 5, none⟩ = some (.int .i64 a0_5) := (blk_cell BK172.out 5).trans rfl
                      have hcz61_6 : wc.cell? ⟨gb172, 6, none⟩ = some (.int .i64 a0_6) := (blk_cell BK172.out 6).trans rfl
                      have hcz61_7 : wc.cell? ⟨gb172, 7, none⟩ = some (.int .i64 a0_7) := (blk_cell BK172.out 7).trans rfl
                      have hcz61_8 : wc.cell? ⟨gb172, 8, none⟩ = some (.int .i64 a0_8) := (blk_cell BK172.out 8).trans rfl
                      have hcz61_9 : wc.cell? ⟨gb172, 9, none⟩ = some (.bool true) := (blk_cell BK172.out 9).trans rfl
                      have hcz61_10 : wc.cell? ⟨gb172, 10, none⟩ = some (.int .i64 a0_10) := (blk_cell BK172.out 10).trans rfl
                      have hcz61_11 : wc.cell? ⟨gb172, 11, none⟩ = some (.string a0_11) := (blk_cell BK172.out 11).trans rfl
                      have hcz61_12 : wc.cell? ⟨gb172, 12, none⟩ = some (.string a0_12) := (blk_cell BK172.out 12).trans rfl
                      have hfz61_0 := blk_frozen BK172.out 0
                      have hfz61_1 := blk_frozen BK172.out 1
                      have hfz61_2 := blk_frozen BK172.out 2
                      have hfz61_3 := blk_frozen BK172.out 3
                      have hfz61_4 := blk_frozen BK172.out 4
                      have hfz61_5 := blk_frozen BK172.out 5
                      have hfz61_6 := blk_frozen BK172.out 6
                      have hfz61_7 := blk_frozen BK172.out 7
                      have hfz61_8 := blk_frozen BK172.out 8
                      have hfz61_9 := blk_frozen BK172.out 9
                      have hfz61_10 := blk_frozen BK172.out 10
                      have hfz61_11 := blk_frozen BK172.out 11
                      have hfz61_12 := blk_frozen BK172.out 12
                      go_wp2
                      go_meet
                      case rel => exact ⟨_, (true), (by first | rfl | (simp; done) | (simp [*]; done)), H', ⟨by have := HJ1.out; have := HJ7.out; have := HJ22.out; have := HJ41.out; have := HJ50.out; first | omega | exact Nat.le_refl _⟩, ⟨by (with_reducible repeat (first | refine blk_drewN ?_ _ | refine blk_drew ?_ | refine blk_alloc ?_ _)); exact BK172.out⟩, ⟨by repeat (first | (with_reducible first | exact HB.out | apply below_alloc | apply pw_below_drewN | apply below_drew1 | refine below_set ?_ GE172.out) | exact HB.out)⟩⟩
                     ·rw [if_neg c60] at H
                      have c60b0 : decide (a0_4 < a0_10) = false := decide_eq_false c60
                      clear c60
                      have H' := Aside0.mk H
                      clear H
                      have hcz62_0 : wc.cell? ⟨gb172, 0, none⟩ = some (.int .i64 a0_0) := (blk_cell BK172.out 0).trans rfl
                      have hcz62_1 : wc.cell? ⟨gb172, 1, none⟩ = some (.string a0_1) := (blk_cell BK172.out 1).trans rfl
                      have hcz62_2 : wc.cell? ⟨gb172, 2, none⟩ = some (.string a0_2) := (blk_cell BK172.out 2).trans rfl
                      have hcz62_3 : wc.cell? ⟨gb172, 3, none⟩ = some (.string a0_3) := (blk_cell BK172.out 3).trans rfl
                      have hcz62_4 : wc.cell? ⟨gb172, 4, none⟩ = some (.int .i64 a0_4) := (blk_cell BK172.out 4).trans rfl
                      have hcz62_5 : wc.cell? ⟨gb172, 5, none⟩ = some (.int .i64 a0_5) := (blk_cell BK172.out 5).trans rfl
                      have hcz62_6 : wc.cell? ⟨gb172, 6, none⟩ = some (.int .i64 a0_6) := (blk_cell BK172.out 6).trans rfl
                      have hcz62_7 : wc.cell? ⟨gb172, 7, none⟩ = some (.int .i64 a0_7) := (blk_cell BK172.out 7).trans rfl
                      have hcz62_8 : wc.cell? ⟨gb172, 8, none⟩ = some (.int .i64 a0_8) := (blk_cell BK172.out 8).trans rfl
                      have hcz62_9 : wc.cell? ⟨gb172, 9, none⟩ = some (.bool true) := (blk_cell BK172.out 9).trans rfl
                      have hcz62_10 : wc.cell? ⟨gb172, 10, none⟩ = some (.int .i64 a0_10) := (blk_cell BK172.out 10).trans rfl
                      have hcz62_11 : wc.cell? ⟨gb172, 11, none⟩ = some (.string a0_11) := (blk_cell BK172.out 11).trans rfl
                      have hcz62_12 : wc.cell? ⟨gb172, 12, none⟩ = some (.string a0_12) := (blk_cell BK172.out 12).trans rfl
                      have hfz62_0 := blk_frozen BK172.out 0
                      have hfz62_1 := blk_frozen BK172.out 1
                      have hfz62_2 := blk_frozen BK172.out 2
                      have hfz62_3 := blk_frozen BK172.out 3
                      have hfz62_4 := blk_frozen BK172.out 4
                      have hfz62_5 := blk_frozen BK172.out 5
                      have hfz62_6 := blk_frozen BK172.out 6
                      have hfz62_7 := blk_frozen BK172.out 7
                      have hfz62_8 := blk_frozen BK172.out 8
                      have hfz62_9 := blk_frozen BK172.out 9
                      have hfz62_10 := blk_frozen BK172.out 10
                      have hfz62_11 := blk_frozen BK172.out 11
                      have hfz62_12 := blk_frozen BK172.out 12
                      go_wp2
                      go_meet
                      case rel => exact ⟨_, (false), (by first | rfl | (simp; done) | (simp [*]; done)), H', ⟨by have := HJ1.out; have := HJ7.out; have := HJ22.out; have := HJ41.out; have := HJ50.out; first | omega | exact Nat.le_refl _⟩, ⟨by (with_reducible repeat (first | refine blk_drewN ?_ _ | refine blk_drew ?_ | refine blk_alloc ?_ _)); exact BK172.out⟩, ⟨by repeat (first | (with_reducible first | exact HB.out | apply below_alloc | apply pw_below_drewN | apply below_drew1 | refine below_set ?_ GE172.out) | exact HB.out)⟩⟩
                   ·replace c57 := Bool.eq_false_iff.mpr c57
                    subst c57
                    have H1 : (giroref23_Check.j5 kj50 (a0_10 != 0) a0_0 a0_1 a0_2 a0_3 a0_4 a0_5 a0_6 a0_7 a0_8 false a0_10 a0_11 a0_12) = some r := by rw [if_neg (show ¬ (false = true) by decide)] at H; exact H
                    clear H
                    have H := H1
                    clear H1
                    have H' := Aside0.mk H
                    clear H
                    have hcz63_0 : wc.cell? ⟨gb172, 0, none⟩ = some (.int .i64 a0_0) := (blk_cell BK172.out 0).trans rfl
                    have hcz63_1 : wc.cell? ⟨gb172, 1, none⟩ = some (.string a0_1) := (blk_cell BK172.out 1).trans rfl
                    have hcz63_2 : wc.cell? ⟨gb172, 2, none⟩ = some (.string a0_2) := (blk_cell BK172.out 2).trans rfl
                    have hcz63_3 : wc.cell? ⟨gb172, 3, none⟩ = some (.string a0_3) := (blk_cell BK172.out 3).trans rfl
                    have hcz63_4 : wc.cell? ⟨gb172, 4, none⟩ = some (.int .i64 a0_4) := (blk_cell BK172.out 4).trans rfl
                    have hcz63_5 : wc.cell? ⟨gb172, 5, none⟩ = some (.int .i64 a0_5) := (blk_cell BK172.out 5).trans rfl
                    have hcz63_6 : wc.cell? ⟨gb172, 6, none⟩ = some (.int .i64 a0_6) := (blk_cell BK172.out 6).trans rfl
                    have hcz63_7 : wc.cell? ⟨gb172, 7, none⟩ = some (.int .i64 a0_7) := (blk_cell BK172.out 7).trans rfl
                    have hcz63_8 : wc.cell? ⟨gb172, 8, none⟩ = some (.int .i64 a0_8) := (blk_cell BK172.out 8).trans rfl
                    have hcz63_9 : wc.cell? ⟨gb172, 9, none⟩ = some (.bool false) := (blk_cell BK172.out 9).trans rfl
                    have hcz63_10 : wc.cell? ⟨gb172, 10, none⟩ = some (.int .i64 a0_10) := (blk_cell BK172.out 10).trans rfl
                    have hcz63_11 : wc.cell? ⟨gb172, 11, none⟩ = some (.string a0_11) := (blk_cell BK172.out 11).trans rfl
                    have hcz63_12 : wc.cell? ⟨gb172, 12, none⟩ = some (.string a0_12) := (blk_cell BK172.out 12).trans rfl
                    have hfz63_0 := blk_frozen BK172.out 0
                    have hfz63_1 := blk_frozen BK172.out 1
                    have hfz63_2 := blk_frozen BK172.out 2
                    have hfz63_3 := blk_frozen BK172.out 3
                    have hfz63_4 := blk_frozen BK172.out 4
                    have hfz63_5 := blk_frozen BK172.out 5
                    have hfz63_6 := blk_frozen BK172.out 6
                    have hfz63_7 := blk_frozen BK172.out 7
                    have hfz63_8 := blk_frozen BK172.out 8
                    have hfz63_9 := blk_frozen BK172.out 9
                    have hfz63_10 := blk_frozen BK172.out 10
                    have hfz63_11 := blk_frozen BK172.out 11
                    have hfz63_12 := blk_frozen BK172.out 12
                    go_wp2
                    go_meet
                    case rel => exact ⟨_, ((a0_10 != 0)), (by first | rfl | (simp; done) | (simp [*]; done)), H', ⟨by have := HJ1.out; have := HJ7.out; have := HJ22.out; have := HJ41.out; have := HJ50.out; first | omega | exact Nat.le_refl _⟩, ⟨by (with_reducible repeat (first | refine blk_drewN ?_ _ | refine blk_drew ?_ | refine blk_alloc ?_ _)); exact BK172.out⟩, ⟨by repeat (first | (with_reducible first | exact HB.out | apply below_alloc | apply pw_below_drewN | apply below_drew1 | refine below_set ?_ GE172.out) | exact HB.out)⟩⟩
                  case rest =>
                   clear HC56
                   try clear p2
                   try clear c5
                   try clear c6
                   try clear c55
                   try clear c57
                   try clear c58
                   try clear c58b0
                   try clear c60
                   try clear c60b0
                   try clear hcz37_1 hcz37_10 hcz37_11 hcz37_12 hcz37_2 hcz37_3 hcz37_4 hcz37_5 hcz37_6 hcz37_7 hcz37_8 hcz37_9
                   try clear hcz39_0 hcz39_1 hcz39_10 hcz39_11 hcz39_12 hcz39_2 hcz39_3 hcz39_4 hcz39_5 hcz39_6 hcz39_7 hcz39_8 hcz39_9
                   try clear hcz40_0 hcz40_1 hcz40_10 hcz40_11 hcz40_12 hcz40_2 hcz40_3 hcz40_4 hcz40_5 hcz40_6 hcz40_7 hcz40_8 hcz40_9
                   try clear hcz44_0 hcz44_1 hcz44_10 hcz44_11 hcz44_12 hcz44_2 hcz44_3 hcz44_4 hcz44_5 hcz44_6 hcz44_7 hcz44_8 hcz44_9
                   try clear hcz46_0 hcz46_1 hcz46_10 hcz46_11 hcz46_12 hcz46_2 hcz46_3 hcz46_4 hcz46_5 hcz46_6 hcz46_7 hcz46_8 hcz46_9
                   try clear hcz48_0 hcz48_1 hcz48_10 hcz48_11 hcz48_12 hcz48_2 hcz48_3 hcz48_4 hcz48_5 hcz48_6 hcz48_7 hcz48_8 hcz48_9
                   try clear hcz49_0 hcz49_1 hcz49_10 hcz49_11 hcz49_12 hcz49_2 hcz49_3 hcz49_4 hcz49_5 hcz49_6 hcz49_7 hcz49_8 hcz49_9
                   try clear hcz53_0 hcz53_1 hcz53_10 hcz53_11 hcz53_12 hcz53_2 hcz53_3 hcz53_4 hcz53_5 hcz53_6 hcz53_7 hcz53_8 hcz53_9
                   try clear hcz54_0 hcz54_1 hcz54_10 hcz54_11 hcz54_12 hcz54_2 hcz54_3 hcz54_4 hcz54_5 hcz54_6 hcz54_7 hcz54_8 hcz54_9
                   try clear hcz59_0 hcz59_1 hcz59_10 hcz59_11 hcz59_12 hcz59_2 hcz59_3 hcz59_4 hcz59_5 hcz59_6 hcz59_7 hcz59_8 hcz59_9
                   try clear hcz5_0 hcz5_1 hcz5_10 hcz5_11 hcz5_12 hcz5_2 hcz5_3 hcz5_4 hcz5_5 hcz5_6 hcz5_7 hcz5_8 hcz5_9
                   try clear hcz61_0 hcz61_1 hcz61_10 hcz61_11 hcz61_12 hcz61_2 hcz61_3 hcz61_4 hcz61_5 hcz61_6 hcz61_7 hcz61_8 hcz61_9
                   try clear hcz62_0 hcz62_1 hcz62_10 hcz62_11 hcz62_12 hcz62_2 hcz62_3 hcz62_4 hcz62_5 hcz62_6 hcz62_7 hcz62_8 hcz62_9
                   try clear hcz63_0 hcz63_1 hcz63_10 hcz63_11 hcz63_12 hcz63_2 hcz63_3 hcz63_4 hcz63_5 hcz63_6 hcz63_7 hcz63_8 hcz63_9
                   try clear hcz6_0 hcz6_1 hcz6_10 hcz6_11 hcz6_12 hcz6_2 hcz6_3 hcz6_4 hcz6_5 hcz6_6 hcz6_7 hcz6_8 hcz6_9
                   try clear hfz12_0 hfz12_1 hfz12_10 hfz12_11 hfz12_12 hfz12_2 hfz12_3 hfz12_4 hfz12_5 hfz12_6 hfz12_7 hfz12_8 hfz12_9
                   try clear hfz14_0 hfz14_1 hfz14_10 hfz14_11 hfz14_12 hfz14_2 hfz14_3 hfz14_4 hfz14_5 hfz14_6 hfz14_7 hfz14_8 hfz14_9
                   try clear hfz16_0 hfz16_1 hfz16_10 hfz16_11 hfz16_12 hfz16_2 hfz16_3 hfz16_4 hfz16_5 hfz16_6 hfz16_7 hfz16_8 hfz16_9
                   try clear hfz20_0 hfz20_1 hfz20_10 hfz20_11 hfz20_12 hfz20_2 hfz20_3 hfz20_4 hfz20_5 hfz20_6 hfz20_7 hfz20_8 hfz20_9
                   try clear hfz24_0 hfz24_1 hfz24_10 hfz24_11 hfz24_12 hfz24_2 hfz24_3 hfz24_4 hfz24_5 hfz24_6 hfz24_7 hfz24_8 hfz24_9
                   try clear hfz27_0 hfz27_1 hfz27_10 hfz27_11 hfz27_12 hfz27_2 hfz27_3 hfz27_4 hfz27_5 hfz27_6 hfz27_7 hfz27_8 hfz27_9
                   try clear hfz29_0 hfz29_1 hfz29_10 hfz29_11 hfz29_12 hfz29_2 hfz29_3 hfz29_4 hfz29_5 hfz29_6 hfz29_7 hfz29_8 hfz29_9
                   try clear hfz32_0 hfz32_1 hfz32_10 hfz32_11 hfz32_12 hfz32_2 hfz32_3 hfz32_4 hfz32_5 hfz32_6 hfz32_7 hfz32_8 hfz32_9
                   try clear hfz34_0 hfz34_1 hfz34_10 hfz34_11 hfz34_12 hfz34_2 hfz34_3 hfz34_4 hfz34_5 hfz34_6 hfz34_7 hfz34_8 hfz34_9
                   try clear hfz36_0 hfz36_1 hfz36_10 hfz36_11 hfz36_12 hfz36_2 hfz36_3 hfz36_4 hfz36_5 hfz36_6 hfz36_7 hfz36_8 hfz36_9
                   try clear hfz37_0 hfz37_1 hfz37_10 hfz37_11 hfz37_12 hfz37_2 hfz37_3 hfz37_4 hfz37_5 hfz37_6 hfz37_7 hfz37_8 hfz37_9
                   try clear hfz39_0 hfz39_1 hfz39_10 hfz39_11 hfz39_12 hfz39_2 hfz39_3 hfz39_4 hfz39_5 hfz39_6 hfz39_7 hfz39_8 hfz39_9
                   try clear hfz40_0 hfz40_1 hfz40_10 hfz40_11 hfz40_12 hfz40_2 hfz40_3 hfz40_4 hfz40_5 hfz40_6 hfz40_7 hfz40_8 hfz40_9
                   try clear hfz44_0 hfz44_1 hfz44_10 hfz44_11 hfz44_12 hfz44_2 hfz44_3 hfz44_4 hfz44_5 hfz44_6 hfz44_7 hfz44_8 hfz44_9
                   try clear hfz46_0 hfz46_1 hfz46_10 hfz46_11 hfz46_12 hfz46_2 hfz46_3 hfz46_4 hfz46_5 hfz46_6 hfz46_7 hfz46_8 hfz46_9
                   try clear hfz48_0 hfz48_1 hfz48_10 hfz48_11 hfz48_12 hfz48_2 hfz48_3 hfz48_4 hfz48_5 hfz48_6 hfz48_7 hfz48_8 hfz48_9
                   try clear hfz49_0 hfz49_1 hfz49_10 hfz49_11 hfz49_12 hfz49_2 hfz49_3 hfz49_4 hfz49_5 hfz49_6 hfz49_7 hfz49_8 hfz49_9
                   try clear hfz53_0 hfz53_1 hfz53_10 hfz53_11 hfz53_12 hfz53_2 hfz53_3 hfz53_4 hfz53_5 hfz53_6 hfz53_7 hfz53_8 hfz53_9
                   try clear hfz54_0 hfz54_1 hfz54_10 hfz54_11 hfz54_12 hfz54_2 hfz54_3 hfz54_4 hfz54_5 hfz54_6 hfz54_7 hfz54_8 hfz54_9
                   try clear hfz59_0 hfz59_1 hfz59_10 hfz59_11 hfz59_12 hfz59_2 hfz59_3 hfz59_4 hfz59_5 hfz59_6 hfz59_7 hfz59_8 hfz59_9
                   try clear hfz5_0 hfz5_1 hfz5_10 hfz5_11 hfz5_12 hfz5_2 hfz5_3 hfz5_4 hfz5_5 hfz5_6 hfz5_7 hfz5_8 hfz5_9
                   try clear hfz61_0 hfz61_1 hfz61_10 hfz61_11 hfz61_12 hfz61_2 hfz61_3 hfz61_4 hfz61_5 hfz61_6 hfz61_7 hfz61_8 hfz61_9
                   try clear hfz62_0 hfz62_1 hfz62_10 hfz62_11 hfz62_12 hfz62_2 hfz62_3 hfz62_4 hfz62_5 hfz62_6 hfz62_7 hfz62_8 hfz62_9
                   try clear hfz63_0 hfz63_1 hfz63_10 hfz63_11 hfz63_12 hfz63_2 hfz63_3 hfz63_4 hfz63_5 hfz63_6 hfz63_7 hfz63_8 hfz63_9
                   try clear hfz6_0 hfz6_1 hfz6_10 hfz6_11 hfz6_12 hfz6_2 hfz6_3 hfz6_4 hfz6_5 hfz6_6 hfz6_7 hfz6_8 hfz6_9
                   try clear p2
                   obtain ⟨kq, x114_55, rfl, HA, HJ55, BK172, HB⟩ := hcut
                   cases kq with
                   | zero => exact absurd HA.out (by simp [giroref23_Check.j5])
                   | succ kj55 =>
                    have H := HA.out
                    clear HA
                    simp only [giroref23_Check.j5] at H
                    by_cases c64 : x114_55 = true
                    ·subst c64
                     have H1 : (some 2) = some r := by rw [if_pos rfl] at H; exact H
                     clear H
                     have H := H1
                     clear H1
                     obtain rfl := Option.some.inj H
                     go_wp2
                     go_ret
                     exact ⟨by first | rfl | (simp [errW_none, errW_some] <;> rfl) | (simp [*, errW_none, errW_some] <;> rfl), by repeat (first | (with_reducible first | exact HB.out | apply below_alloc | apply pw_below_drewN | apply below_drew1 | refine below_set ?_ GE172.out) | exact HB.out)⟩
                    ·replace c64 := Bool.eq_false_iff.mpr c64
                     subst c64
                     have H1 : ((giroref23_valid.f kj55 2 a0_11).bind fun t176 => (if t176 = true then ((giroref23_valid.f kj55 2 a0_12).bind fun t177 => (if t177 = true then (some 0) else (some 6))) else (some 6))) = some r := by rw [if_neg (show ¬ (false = true) by decide)] at H; exact H
                     clear H
                     have H := H1
                     clear H1
                     replace H := Option.bind_eq_some_iff.mp H
                     obtain ⟨t176, A650, H⟩ := H
                     replace H : (if t176 = true then ((giroref23_valid.f kj55 2 a0_12).bind fun t177 => (if t177 = true then (some 0) else (some 6))) else (some 6)) = some r := H
                     have A65 := Aside0.mk A650
                     clear A650
                     by_cases c66 : t176 = true
                     ·subst c66
                      have H1 : ((giroref23_valid.f kj55 2 a0_12).bind fun t177 => (if t177 = true then (some 0) else (some 6))) = some r := by rw [if_pos rfl] at H; exact H
                      clear H
                      have H := H1
                      clear H1
                      replace H := Option.bind_eq_some_iff.mp H
                      obtain ⟨t177, A670, H⟩ := H
                      replace H : (if t177 = true then (some 0) else (some 6)) = some r := H
                      have A67 := Aside0.mk A670
                      clear A670
                      by_cases c68 : t177 = true
                      ·subst c68
                       have H1 : (some 0) = some r := by rw [if_pos rfl] at H; exact H
                       clear H
                       have H := H1
                       clear H1
                       obtain rfl := Option.some.inj H
                       have hcz69_0 : wc.cell? ⟨gb172, 0, none⟩ = some (.int .i64 a0_0) := (blk_cell BK172.out 0).trans rfl
                       have hcz69_1 : wc.cell? ⟨gb172, 1, none⟩ = some (.string a0_1) := (blk_cell BK172.out 1).trans rfl
                       have hcz69_2 : wc.cell? ⟨gb172, 2, none⟩ = some (.string a0_2) := (blk_cell BK172.out 2).trans rfl
                       have hcz69_3 : wc.cell? ⟨gb172, 3, none⟩ = some (.string a0_3) := (blk_cell BK172.out 3).trans rfl
                       have hcz69_4 : wc.cell? ⟨gb172, 4, none⟩ = some (.int .i64 a0_4) := (blk_cell BK172.out 4).trans rfl
                       have hcz69_5 : wc.cell? ⟨gb172, 5, none⟩ = some (.int .i64 a0_5) := (blk_cell BK172.out 5).trans rfl
                       have hcz69_6 : wc.cell? ⟨gb172, 6, none⟩ = some (.int .i64 a0_6) := (blk_cell BK172.out 6).trans rfl
                       have hcz69_7 : wc.cell? ⟨gb172, 7, none⟩ = some (.int .i64 a0_7) := (blk_cell BK172.out 7).trans rfl
                       have hcz69_8 : wc.cell? ⟨gb172, 8, none⟩ = some (.int .i64 a0_8) := (blk_cell BK172.out 8).trans rfl
                       have hcz69_9 : wc.cell? ⟨gb172, 9, none⟩ = some (.bool a0_9) := (blk_cell BK172.out 9).trans rfl
                       have hcz69_10 : wc.cell? ⟨gb172, 10, none⟩ = some (.int .i64 a0_10) := (blk_cell BK172.out 10).trans rfl
                       have hcz69_11 : wc.cell? ⟨gb172, 11, none⟩ = some (.string a0_11) := (blk_cell BK172.out 11).trans rfl
                       have hcz69_12 : wc.cell? ⟨gb172, 12, none⟩ = some (.string a0_12) := (blk_cell BK172.out 12).trans rfl
                       have hfz69_0 := blk_frozen BK172.out 0
                       have hfz69_1 := blk_frozen BK172.out 1
                       have hfz69_2 := blk_frozen BK172.out 2
                       have hfz69_3 := blk_frozen BK172.out 3
                       have hfz69_4 := blk_frozen BK172.out 4
                       have hfz69_5 := blk_frozen BK172.out 5
                       have hfz69_6 := blk_frozen BK172.out 6
                       have hfz69_7 := blk_frozen BK172.out 7
                       have hfz69_8 := blk_frozen BK172.out 8
                       have hfz69_9 := blk_frozen BK172.out 9
                       have hfz69_10 := blk_frozen BK172.out 10
                       have hfz69_11 := blk_frozen BK172.out 11
                       have hfz69_12 := blk_frozen BK172.out 12
                       go_wp2_with (first | ((with_reducible refine gate_callee (f := 25) rfl ?_); refine goesL_ (some 118) rfl rfl Tryd.func25 (by kernel_rfl) rfl #[.int .i64 2, .string a0_11] rfl (by (try simp only [List.map_toArray, List.map_cons, List.map_nil]); first | done | rfl | (simp only [List.length_drop, List.length_take]; rfl)) ?_; (with_reducible refine (giroref23_valid.calls kj55 2 a0_11 true _ A65.out).mono ?_); rintro e w70 ⟨rfl, hb⟩; refine ⟨_, rfl, ?_⟩; have n0_ := Aside0.mk (blk_below (g := gb172) (o := .cells #[.int .i64 a0_0, .string a0_1, .string a0_2, .string a0_3, .int .i64 a0_4, .int .i64 a0_5, .int .i64 a0_6, .int .i64 a0_7, .int .i64 a0_8, .bool a0_9, .int .i64 a0_10, .string a0_11, .string a0_12] 24 (0, 0)) (by (with_reducible repeat (first | refine blk_drewN ?_ _ | refine blk_drew ?_ | refine blk_alloc ?_ _)); exact BK172.out) hb); have n1_ := Aside0.mk (below_step (by repeat (first | (with_reducible first | exact HB.out | apply below_alloc | apply pw_below_drewN | apply below_drew1 | refine below_set ?_ GE172.out) | exact HB.out)) hb); clear BK172; clear HB; have BK172 := n0_; have HB := n1_; clear n0_ n1_; (try clear hb); (try clear hb2); (try clear hk); (try clear hi); have hcz71_0 : w70.cell? ⟨gb172, 0, none⟩ = some (.int .i64 a0_0) := (blk_cell BK172.out 0).trans rfl; have hcz71_1 : w70.cell? ⟨gb172, 1, none⟩ = some (.string a0_1) := (blk_cell BK172.out 1).trans rfl; have hcz71_2 : w70.cell? ⟨gb172, 2, none⟩ = some (.string a0_2) := (blk_cell BK172.out 2).trans rfl; have hcz71_3 : w70.cell? ⟨gb172, 3, none⟩ = some (.string a0_3) := (blk_cell BK172.out 3).trans rfl; have hcz71_4 : w70.cell? ⟨gb172, 4, none⟩ = some (.int .i64 a0_4) := (blk_cell BK172.out 4).trans rfl; have hcz71_5 : w70.cell? ⟨gb172, 5, none⟩ = some (.int .i64 a0_5) := (blk_cell BK172.out 5).trans rfl; have hcz71_6 : w70.cell? ⟨gb172, 6, none⟩ = some (.int .i64 a0_6) := (blk_cell BK172.out 6).trans rfl; have hcz71_7 : w70.cell? ⟨gb172, 7, none⟩ = some (.int .i64 a0_7) := (blk_cell BK172.out 7).trans rfl; have hcz71_8 : w70.cell? ⟨gb172, 8, none⟩ = some (.int .i64 a0_8) := (blk_cell BK172.out 8).trans rfl; have hcz71_9 : w70.cell? ⟨gb172, 9, none⟩ = some (.bool a0_9) := (blk_cell BK172.out 9).trans rfl; have hcz71_10 : w70.cell? ⟨gb172, 10, none⟩ = some (.int .i64 a0_10) := (blk_cell BK172.out 10).trans rfl; have hcz71_11 : w70.cell? ⟨gb172, 11, none⟩ = some (.string a0_11) := (blk_cell BK172.out 11).trans rfl; have hcz71_12 : w70.cell? ⟨gb172, 12, none⟩ = some (.string a0_12) := (blk_cell BK172.out 12).trans rfl; have hfz71_0 := blk_frozen BK172.out 0; have hfz71_1 := blk_frozen BK172.out 1; have hfz71_2 := blk_frozen BK172.out 2; have hfz71_3 := blk_frozen BK172.out 3; have hfz71_4 := blk_frozen BK172.out 4; have hfz71_5 := blk_frozen BK172.out 5; have hfz71_6 := blk_frozen BK172.out 6; have hfz71_7 := blk_frozen BK172.out 7; have hfz71_8 := blk_frozen BK172.out 8; have hfz71_9 := blk_frozen BK172.out 9; have hfz71_10 := blk_frozen BK172.out 10; have hfz71_11 := blk_frozen BK172.out 11; have hfz71_12 := blk_frozen BK172.out 12) | (go_at_call 25; (with_reducible refine (giroref23_valid.calls kj55 2 a0_12 true _ A67.out).mono ?_); rintro e w72 ⟨rfl, hb⟩; have n0_ := Aside0.mk (blk_below (g := gb172) (o := .cells #[.int .i64 a0_0, .string a0_1, .string a0_2, .string a0_3, .int .i64 a0_4, .int .i64 a0_5, .int .i64 a0_6, .int .i64 a0_7, .int .i64 a0_8, .bool a0_9, .int .i64 a0_10, .string a0_11, .string a0_12] 24 (0, 0)) (by (with_reducible repeat (first | refine blk_drewN ?_ _ | refine blk_drew ?_ | refine blk_alloc ?_ _)); exact BK172.out) hb); have n1_ := Aside0.mk (below_step (by repeat (first | (with_reducible first | exact HB.out | apply below_alloc | apply pw_below_drewN | apply below_drew1 | refine below_set ?_ GE172.out) | exact HB.out)) hb); clear BK172; clear HB; have BK172 := n0_; have HB := n1_; clear n0_ n1_; (try clear hb); (try clear hb2); (try clear hk); (try clear hi)))
                       go_ret
                       exact ⟨by first | rfl | (simp [errW_none, errW_some] <;> rfl) | (simp [*, errW_none, errW_some] <;> rfl), by repeat (first | (with_reducible first | exact HB.out | apply below_alloc | apply pw_below_drewN | apply below_drew1 | refine below_set ?_ GE172.out) | exact HB.out)⟩
                      ·replace c68 := Bool.eq_false_iff.mpr c68
                       subst c68
                       have H1 : (some 6) = some r := by rw [if_neg (show ¬ (false = true) by decide)] at H; exact H
                       clear H
                       have H := H1
                       clear H1
                       obtain rfl := Option.some.inj H
                       have hcz73_0 : wc.cell? ⟨gb172, 0, none⟩ = some (.int .i64 a0_0) := (blk_cell BK172.out 0).trans rfl
                       have hcz73_1 : wc.cell? ⟨gb172, 1, none⟩ = some (.string a0_1) := (blk_cell BK172.out 1).trans rfl
                       have hcz73_2 : wc.cell? ⟨gb172, 2, none⟩ = some (.string a0_2) := (blk_cell BK172.out 2).trans rfl
                       have hcz73_3 : wc.cell? ⟨gb172, 3, none⟩ = some (.string a0_3) := (blk_cell BK172.out 3).trans rfl
                       have hcz73_4 : wc.cell? ⟨gb172, 4, none⟩ = some (.int .i64 a0_4) := (blk_cell BK172.out 4).trans rfl
                       have hcz73_5 : wc.cell? ⟨gb172, 5, none⟩ = some (.int .i64 a0_5) := (blk_cell BK172.out 5).trans rfl
                       have hcz73_6 : wc.cell? ⟨gb172, 6, none⟩ = some (.int .i64 a0_6) := (blk_cell BK172.out 6).trans rfl
                       have hcz73_7 : wc.cell? ⟨gb172, 7, none⟩ = some (.int .i64 a0_7) := (blk_cell BK172.out 7).trans rfl
                       have hcz73_8 : wc.cell? ⟨gb172, 8, none⟩ = some (.int .i64 a0_8) := (blk_cell BK172.out 8).trans rfl
                       have hcz73_9 : wc.cell? ⟨gb172, 9, none⟩ = some (.bool a0_9) := (blk_cell BK172.out 9).trans rfl
                       have hcz73_10 : wc.cell? ⟨gb172, 10, none⟩ = some (.int .i64 a0_10) := (blk_cell BK172.out 10).trans rfl
                       have hcz73_11 : wc.cell? ⟨gb172, 11, none⟩ = some (.string a0_11) := (blk_cell BK172.out 11).trans rfl
                       have hcz73_12 : wc.cell? ⟨gb172, 12, none⟩ = some (.string a0_12) := (blk_cell BK172.out 12).trans rfl
                       have hfz73_0 := blk_frozen BK172.out 0
                       have hfz73_1 := blk_frozen BK172.out 1
                       have hfz73_2 := blk_frozen BK172.out 2
                       have hfz73_3 := blk_frozen BK172.out 3
                       have hfz73_4 := blk_frozen BK172.out 4
                       have hfz73_5 := blk_frozen BK172.out 5
                       have hfz73_6 := blk_frozen BK172.out 6
                       have hfz73_7 := blk_frozen BK172.out 7
                       have hfz73_8 := blk_frozen BK172.out 8
                       have hfz73_9 := blk_frozen BK172.out 9
                       have hfz73_10 := blk_frozen BK172.out 10
                       have hfz73_11 := blk_frozen BK172.out 11
                       have hfz73_12 := blk_frozen BK172.out 12
                       go_wp2_with (first | ((with_reducible refine gate_callee (f := 25) rfl ?_); refine goesL_ (some 118) rfl rfl Tryd.func25 (by kernel_rfl) rfl #[.int .i64 2, .string a0_11] rfl (by (try simp only [List.map_toArray, List.map_cons, List.map_nil]); first | done | rfl | (simp only [List.length_drop, List.length_take]; rfl)) ?_; (with_reducible refine (giroref23_valid.calls kj55 2 a0_11 true _ A65.out).mono ?_); rintro e w74 ⟨rfl, hb⟩; refine ⟨_, rfl, ?_⟩; have n0_ := Aside0.mk (blk_below (g := gb172) (o := .cells #[.int .i64 a0_0, .string a0_1, .string a0_2, .string a0_3, .int .i64 a0_4, .int .i64 a0_5, .int .i64 a0_6, .int .i64 a0_7, .int .i64 a0_8, .bool a0_9, .int .i64 a0_10, .string a0_11, .string a0_12] 24 (0, 0)) (by (with_reducible repeat (first | refine blk_drewN ?_ _ | refine blk_drew ?_ | refine blk_alloc ?_ _)); exact BK172.out) hb); have n1_ := Aside0.mk (below_step (by repeat (first | (with_reducible first | exact HB.out | apply below_alloc | apply pw_below_drewN | apply below_drew1 | refine below_set ?_ GE172.out) | exact HB.out)) hb); clear BK172; clear HB; have BK172 := n0_; have HB := n1_; clear n0_ n1_; (try clear hb); (try clear hb2); (try clear hk); (try clear hi); have hcz75_0 : w74.cell? ⟨gb172, 0, none⟩ = some (.int .i64 a0_0) := (blk_cell BK172.out 0).trans rfl; have hcz75_1 : w74.cell? ⟨gb172, 1, none⟩ = some (.string a0_1) := (blk_cell BK172.out 1).trans rfl; have hcz75_2 : w74.cell? ⟨gb172, 2, none⟩ = some (.string a0_2) := (blk_cell BK172.out 2).trans rfl; have hcz75_3 : w74.cell? ⟨gb172, 3, none⟩ = some (.string a0_3) := (blk_cell BK172.out 3).trans rfl; have hcz75_4 : w74.cell? ⟨gb172, 4, none⟩ = some (.int .i64 a0_4) := (blk_cell BK172.out 4).trans rfl; have hcz75_5 : w74.cell? ⟨gb172, 5, none⟩ = some (.int .i64 a0_5) := (blk_cell BK172.out 5).trans rfl; have hcz75_6 : w74.cell? ⟨gb172, 6, none⟩ = some (.int .i64 a0_6) := (blk_cell BK172.out 6).trans rfl; have hcz75_7 : w74.cell? ⟨gb172, 7, none⟩ = some (.int .i64 a0_7) := (blk_cell BK172.out 7).trans rfl; have hcz75_8 : w74.cell? ⟨gb172, 8, none⟩ = some (.int .i64 a0_8) := (blk_cell BK172.out 8).trans rfl; have hcz75_9 : w74.cell? ⟨gb172, 9, none⟩ = some (.bool a0_9) := (blk_cell BK172.out 9).trans rfl; have hcz75_10 : w74.cell? ⟨gb172, 10, none⟩ = some (.int .i64 a0_10) := (blk_cell BK172.out 10).trans rfl; have hcz75_11 : w74.cell? ⟨gb172, 11, none⟩ = some (.string a0_11) := (blk_cell BK172.out 11).trans rfl; have hcz75_12 : w74.cell? ⟨gb172, 12, none⟩ = some (.string a0_12) := (blk_cell BK172.out 12).trans rfl; have hfz75_0 := blk_frozen BK172.out 0; have hfz75_1 := blk_frozen BK172.out 1; have hfz75_2 := blk_frozen BK172.out 2; have hfz75_3 := blk_frozen BK172.out 3; have hfz75_4 := blk_frozen BK172.out 4; have hfz75_5 := blk_frozen BK172.out 5; have hfz75_6 := blk_frozen BK172.out 6; have hfz75_7 := blk_frozen BK172.out 7; have hfz75_8 := blk_frozen BK172.out 8; have hfz75_9 := blk_frozen BK172.out 9; have hfz75_10 := blk_frozen BK172.out 10; have hfz75_11 := blk_frozen BK172.out 11; have hfz75_12 := blk_frozen BK172.out 12) | (go_at_call 25; (with_reducible refine (giroref23_valid.calls kj55 2 a0_12 false _ A67.out).mono ?_); rintro e w76 ⟨rfl, hb⟩; have n0_ := Aside0.mk (blk_below (g := gb172) (o := .cells #[.int .i64 a0_0, .string a0_1, .string a0_2, .string a0_3, .int .i64 a0_4, .int .i64 a0_5, .int .i64 a0_6, .int .i64 a0_7, .int .i64 a0_8, .bool a0_9, .int .i64 a0_10, .string a0_11, .string a0_12] 24 (0, 0)) (by (with_reducible repeat (first | refine blk_drewN ?_ _ | refine blk_drew ?_ | refine blk_alloc ?_ _)); exact BK172.out) hb); have n1_ := Aside0.mk (below_step (by repeat (first | (with_reducible first | exact HB.out | apply below_alloc | apply pw_below_drewN | apply below_drew1 | refine below_set ?_ GE172.out) | exact HB.out)) hb); clear BK172; clear HB; have BK172 := n0_; have HB := n1_; clear n0_ n1_; (try clear hb); (try clear hb2); (try clear hk); (try clear hi)))
                       go_ret
                       exact ⟨by first | rfl | (simp [errW_none, errW_some] <;> rfl) | (simp [*, errW_none, errW_some] <;> rfl), by repeat (first | (with_reducible first | exact HB.out | apply below_alloc | apply pw_below_drewN | apply below_drew1 | refine below_set ?_ GE172.out) | exact HB.out)⟩
                     ·replace c66 := Bool.eq_false_iff.mpr c66
                      subst c66
                      have H1 : (some 6) = some r := by rw [if_neg (show ¬ (false = true) by decide)] at H; exact H
                      clear H
                      have H := H1
                      clear H1
                      obtain rfl := Option.some.inj H
                      have hcz77_0 : wc.cell? ⟨gb172, 0, none⟩ = some (.int .i64 a0_0) := (blk_cell BK172.out 0).trans rfl
                      have hcz77_1 : wc.cell? ⟨gb172, 1, none⟩ = some (.string a0_1) := (blk_cell BK172.out 1).trans rfl
                      have hcz77_2 : wc.cell? ⟨gb172, 2, none⟩ = some (.string a0_2) := (blk_cell BK172.out 2).trans rfl
                      have hcz77_3 : wc.cell? ⟨gb172, 3, none⟩ = some (.string a0_3) := (blk_cell BK172.out 3).trans rfl
                      have hcz77_4 : wc.cell? ⟨gb172, 4, none⟩ = some (.int .i64 a0_4) := (blk_cell BK172.out 4).trans rfl
                      have hcz77_5 : wc.cell? ⟨gb172, 5, none⟩ = some (.int .i64 a0_5) := (blk_cell BK172.out 5).trans rfl
                      have hcz77_6 : wc.cell? ⟨gb172, 6, none⟩ = some (.int .i64 a0_6) := (blk_cell BK172.out 6).trans rfl
                      have hcz77_7 : wc.cell? ⟨gb172, 7, none⟩ = some (.int .i64 a0_7) := (blk_cell BK172.out 7).trans rfl
                      have hcz77_8 : wc.cell? ⟨gb172, 8, none⟩ = some (.int .i64 a0_8) := (blk_cell BK172.out 8).trans rfl
                      have hcz77_9 : wc.cell? ⟨gb172, 9, none⟩ = some (.bool a0_9) := (blk_cell BK172.out 9).trans rfl
                      have hcz77_10 : wc.cell? ⟨gb172, 10, none⟩ = some (.int .i64 a0_10) := (blk_cell BK172.out 10).trans rfl
                      have hcz77_11 : wc.cell? ⟨gb172, 11, none⟩ = some (.string a0_11) := (blk_cell BK172.out 11).trans rfl
                      have hcz77_12 : wc.cell? ⟨gb172, 12, none⟩ = some (.string a0_12) := (blk_cell BK172.out 12).trans rfl
                      have hfz77_0 := blk_frozen BK172.out 0
                      have hfz77_1 := blk_frozen BK172.out 1
                      have hfz77_2 := blk_frozen BK172.out 2
                      have hfz77_3 := blk_frozen BK172.out 3
                      have hfz77_4 := blk_frozen BK172.out 4
                      have hfz77_5 := blk_frozen BK172.out 5
                      have hfz77_6 := blk_frozen BK172.out 6
                      have hfz77_7 := blk_frozen BK172.out 7
                      have hfz77_8 := blk_frozen BK172.out 8
                      have hfz77_9 := blk_frozen BK172.out 9
                      have hfz77_10 := blk_frozen BK172.out 10
                      have hfz77_11 := blk_frozen BK172.out 11
                      have hfz77_12 := blk_frozen BK172.out 12
                      go_wp2_with (first | ((with_reducible refine gate_callee (f := 25) rfl ?_); refine goesL_ (some 118) rfl rfl Tryd.func25 (by kernel_rfl) rfl #[.int .i64 2, .string a0_11] rfl (by (try simp only [List.map_toArray, List.map_cons, List.map_nil]); first | done | rfl | (simp only [List.length_drop, List.length_take]; rfl)) ?_; (with_reducible refine (giroref23_valid.calls kj55 2 a0_11 false _ A65.out).mono ?_); rintro e w78 ⟨rfl, hb⟩; refine ⟨_, rfl, ?_⟩; have n0_ := Aside0.mk (blk_below (g := gb172) (o := .cells #[.int .i64 a0_0, .string a0_1, .string a0_2, .string a0_3, .int .i64 a0_4, .int .i64 a0_5, .int .i64 a0_6, .int .i64 a0_7, .int .i64 a0_8, .bool a0_9, .int .i64 a0_10, .string a0_11, .string a0_12] 24 (0, 0)) (by (with_reducible repeat (first | refine blk_drewN ?_ _ | refine blk_drew ?_ | refine blk_alloc ?_ _)); exact BK172.out) hb); have n1_ := Aside0.mk (below_step (by repeat (first | (with_reducible first | exact HB.out | apply below_alloc | apply pw_below_drewN | apply below_drew1 | refine below_set ?_ GE172.out) | exact HB.out)) hb); clear BK172; clear HB; have BK172 := n0_; have HB := n1_; clear n0_ n1_; (try clear hb); (try clear hb2); (try clear hk); (try clear hi)))
                      go_ret
                      exact ⟨by first | rfl | (simp [errW_none, errW_some] <;> rfl) | (simp [*, errW_none, errW_some] <;> rfl), by repeat (first | (with_reducible first | exact HB.out | apply below_alloc | apply pw_below_drewN | apply below_drew1 | refine below_set ?_ GE172.out) | exact HB.out)⟩
        ·replace c22 := Bool.eq_false_iff.mpr c22
         subst c22
         have H1 : (some 6) = some r := by rw [if_neg (show ¬ (false = true) by decide)] at H; exact H
         clear H
         have H := H1
         clear H1
         obtain rfl := Option.some.inj H
         have hcz79_0 : wc.cell? ⟨gb172, 0, none⟩ = some (.int .i64 a0_0) := (blk_cell BK172.out 0).trans rfl
         have hcz79_1 : wc.cell? ⟨gb172, 1, none⟩ = some (.string a0_1) := (blk_cell BK172.out 1).trans rfl
         have hcz79_2 : wc.cell? ⟨gb172, 2, none⟩ = some (.string a0_2) := (blk_cell BK172.out 2).trans rfl
         have hcz79_3 : wc.cell? ⟨gb172, 3, none⟩ = some (.string a0_3) := (blk_cell BK172.out 3).trans rfl
         have hcz79_4 : wc.cell? ⟨gb172, 4, none⟩ = some (.int .i64 a0_4) := (blk_cell BK172.out 4).trans rfl
         have hcz79_5 : wc.cell? ⟨gb172, 5, none⟩ = some (.int .i64 a0_5) := (blk_cell BK172.out 5).trans rfl
         have hcz79_6 : wc.cell? ⟨gb172, 6, none⟩ = some (.int .i64 a0_6) := (blk_cell BK172.out 6).trans rfl
         have hcz79_7 : wc.cell? ⟨gb172, 7, none⟩ = some (.int .i64 a0_7) := (blk_cell BK172.out 7).trans rfl
         have hcz79_8 : wc.cell? ⟨gb172, 8, none⟩ = some (.int .i64 a0_8) := (blk_cell BK172.out 8).trans rfl
         have hcz79_9 : wc.cell? ⟨gb172, 9, none⟩ = some (.bool a0_9) := (blk_cell BK172.out 9).trans rfl
         have hcz79_10 : wc.cell? ⟨gb172, 10, none⟩ = some (.int .i64 a0_10) := (blk_cell BK172.out 10).trans rfl
         have hcz79_11 : wc.cell? ⟨gb172, 11, none⟩ = some (.string a0_11) := (blk_cell BK172.out 11).trans rfl
         have hcz79_12 : wc.cell? ⟨gb172, 12, none⟩ = some (.string a0_12) := (blk_cell BK172.out 12).trans rfl
         have hfz79_0 := blk_frozen BK172.out 0
         have hfz79_1 := blk_frozen BK172.out 1
         have hfz79_2 := blk_frozen BK172.out 2
         have hfz79_3 := blk_frozen BK172.out 3
         have hfz79_4 := blk_frozen BK172.out 4
         have hfz79_5 := blk_frozen BK172.out 5
         have hfz79_6 := blk_frozen BK172.out 6
         have hfz79_7 := blk_frozen BK172.out 7
         have hfz79_8 := blk_frozen BK172.out 8
         have hfz79_9 := blk_frozen BK172.out 9
         have hfz79_10 := blk_frozen BK172.out 10
         have hfz79_11 := blk_frozen BK172.out 11
         have hfz79_12 := blk_frozen BK172.out 12
         go_wp2_with (first | ((with_reducible refine gate_callee (f := 25) rfl ?_); refine goesL_ (some 28) rfl rfl Tryd.func25 (by kernel_rfl) rfl #[.int .i64 0, .string a0_3] rfl (by (try simp only [List.map_toArray, List.map_cons, List.map_nil]); first | done | rfl | (simp only [List.length_drop, List.length_take]; rfl)) ?_; (with_reducible refine (giroref23_valid.calls kj7 0 a0_3 false _ A21.out).mono ?_); rintro e w80 ⟨rfl, hb⟩; refine ⟨_, rfl, ?_⟩; have n0_ := Aside0.mk (blk_below (g := gb172) (o := .cells #[.int .i64 a0_0, .string a0_1, .string a0_2, .string a0_3, .int .i64 a0_4, .int .i64 a0_5, .int .i64 a0_6, .int .i64 a0_7, .int .i64 a0_8, .bool a0_9, .int .i64 a0_10, .string a0_11, .string a0_12] 24 (0, 0)) (by (with_reducible repeat (first | refine blk_drewN ?_ _ | refine blk_drew ?_ | refine blk_alloc ?_ _)); exact BK172.out) hb); have n1_ := Aside0.mk (below_step (by repeat (first | (with_reducible first | exact HB.out | apply below_alloc | apply pw_below_drewN | apply below_drew1 | refine below_set ?_ GE172.out) | exact HB.out)) hb); clear BK172; clear HB; have BK172 := n0_; have HB := n1_; clear n0_ n1_; (try clear hb); (try clear hb2); (try clear hk); (try clear hi)))
         go_ret
         exact ⟨by first | rfl | (simp [errW_none, errW_some] <;> rfl) | (simp [*, errW_none, errW_some] <;> rfl), by repeat (first | (with_reducible first | exact HB.out | apply below_alloc | apply pw_below_drewN | apply below_drew1 | refine below_set ?_ GE172.out) | exact HB.out)⟩
end Go.Proofs.YtpclapnmiacfpaaDoor.Q
end
section
set_option linter.unusedVariables false
namespace Go.Proofs.YtpclapnmiacfpaaDoor.Q
open Go.RowKit Go.Proofs.YtpclapnmiacfpaaDoorW.PrintWords Go.Proofs.YtpclapnmiacfpaaDoorW.PrintLast Go.Proofs.YtpclapnmiacfpaaDoorW.PrintMore
open Hand (idv)
section
variable (kd : Int) (dl rc aa : ByteArray) (q am td sd pr : Int) (pa : Bool) (ml : Int) (r0 r1 : ByteArray) (h0 : Sz r0) (h1 : Sz r1)
include h0 h1
theorem rj5 (b : Bool) (k : Nat) (hk : 3000 < k) : giroref23_Check.j5 (k + 1) b kd dl rc aa q am td sd pr pa ml r0 r1 = some (tc7 b r0 r1) := by
  simp only [giroref23_Check.j5]
  unfold tc7
  cases b with
  | true => rfl
  | false =>
    rw [if_neg Bool.false_ne_true, if_neg Bool.false_ne_true, rvalid_f 2 (.inr (.inr rfl)) r0 h0 k hk, rvalid_f 2 (.inr (.inr rfl)) r1 h1 k hk]
    simp only [Option.bind_some]
    cases idv 2 r0 <;> cases idv 2 r1 <;> rfl
theorem rj4 (b : Bool) (k : Nat) (hk : 3000 < k) : giroref23_Check.j4 (k + 2) b kd dl rc aa q am td sd pr pa ml r0 r1 = some (tc5 b q pa ml r0 r1) := by
  simp only [giroref23_Check.j4]
  unfold tc5
  cases b with
  | true => rfl
  | false =>
    rw [if_neg Bool.false_ne_true, if_neg Bool.false_ne_true]
    cases pa with
    | true =>
      rw [if_pos (rfl : true = true), if_pos (rfl : true = true)]
      by_cases g1 : ml < 1
      · rw [if_pos g1, rj5 _ _ _ _ _ _ _ _ _ _ _ _ _ h0 h1 _ _ hk, show (!(inB ml 1 q)) = true from by simp [inB]; omega]
      · rw [if_neg g1]
        by_cases g2 : ml > q
        · rw [if_pos g2, rj5 _ _ _ _ _ _ _ _ _ _ _ _ _ h0 h1 _ _ hk, show (!(inB ml 1 q)) = true from by simp [inB]; omega]
        · rw [if_neg g2, rj5 _ _ _ _ _ _ _ _ _ _ _ _ _ h0 h1 _ _ hk, show (!(inB ml 1 q)) = false from by simp [inB]; omega]
    | false => rw [if_neg Bool.false_ne_true, rj5 _ _ _ _ _ _ _ _ _ _ _ _ _ h0 h1 _ _ hk, if_neg Bool.false_ne_true]
theorem rj3 (b : Bool) (k : Nat) (hk : 3000 < k) : giroref23_Check.j3 (k + 3) b kd dl rc aa q am td sd pr pa ml r0 r1 = some (tc4 b q pr pa ml r0 r1) := by
  simp only [giroref23_Check.j3]
  unfold tc4
  cases b with
  | true => rfl
  | false =>
    rw [if_neg Bool.false_ne_true, if_neg Bool.false_ne_true]
    by_cases h : pr < 0
    · rw [if_pos h, rj4 _ _ _ _ _ _ _ _ _ _ _ _ _ h0 h1 _ _ hk, show (!(inB pr 0 2)) = true from by simp [inB]; omega]
    · rw [if_neg h, rj4 _ _ _ _ _ _ _ _ _ _ _ _ _ h0 h1 _ _ hk]
      congr 2
      rw [Bool.eq_iff_iff]; simp [inB]; omega
theorem rj2 (b : Bool) (k : Nat) (hk : 3000 < k) : giroref23_Check.j2 (k + 4) b kd dl rc aa q am td sd pr pa ml r0 r1 = some (tc3 b q td sd pr pa ml r0 r1) := by
  simp only [giroref23_Check.j2]
  unfold tc3
  cases b with
  | true => rfl
  | false =>
    rw [if_neg Bool.false_ne_true, if_neg Bool.false_ne_true]
    by_cases g1 : sd < 0
    · rw [if_pos g1, rj3 _ _ _ _ _ _ _ _ _ _ _ _ _ h0 h1 _ _ hk, show (!(inB sd 0 73048) || !(inB td 0 sd)) = true from by simp [inB]; omega]
    · rw [if_neg g1]
      by_cases g2 : sd > 73048
      · rw [if_pos g2, rj3 _ _ _ _ _ _ _ _ _ _ _ _ _ h0 h1 _ _ hk, show (!(inB sd 0 73048) || !(inB td 0 sd)) = true from by simp [inB]; omega]
      · rw [if_neg g2]
        by_cases g3 : td < 0
        · rw [if_pos g3, rj3 _ _ _ _ _ _ _ _ _ _ _ _ _ h0 h1 _ _ hk, show (!(inB sd 0 73048) || !(inB td 0 sd)) = true from by simp [inB]; omega]
        · rw [if_neg g3, rj3 _ _ _ _ _ _ _ _ _ _ _ _ _ h0 h1 _ _ hk]
          congr 2
          rw [Bool.eq_iff_iff]; simp [inB]; omega
theorem rj1 (ha : Sz aa) (b : Bool) (k : Nat) (hk : 3000 < k) : giroref23_Check.j1 (k + 5) b kd dl rc aa q am td sd pr pa ml r0 r1 = some (tc1 b kd dl rc aa q am td sd pr pa ml r0 r1) := by
  simp only [giroref23_Check.j1]
  unfold tc1
  cases b with
  | true => rfl
  | false =>
    rw [if_neg Bool.false_ne_true, if_neg Bool.false_ne_true]
    by_cases g : dl.toList = rc.toList
    · rw [if_pos g, if_pos g]
    · rw [if_neg g, if_neg g, rvalid_f 0 (.inl rfl) aa ha _ (by omega), Option.bind_some]
      cases idv 0 aa with
      | false => rfl
      | true =>
        rw [if_pos (rfl : true = true), if_pos (rfl : true = true)]
        by_cases g1 : q < 1
        · rw [if_pos g1, rj2 _ _ _ _ _ _ _ _ _ _ _ _ _ h0 h1 _ _ hk, show inB q 1 1000000000000000 = false from by simp [inB]; omega]
          rfl
        · rw [if_neg g1]
          by_cases g2 : q > 1000000000000000
          · rw [if_pos g2, rj2 _ _ _ _ _ _ _ _ _ _ _ _ _ h0 h1 _ _ hk, show inB q 1 1000000000000000 = false from by simp [inB]; omega]
            rfl
          · rw [if_neg g2, show inB q 1 1000000000000000 = true from by simp [inB]; omega, if_pos (rfl : true = true)]
            by_cases g3 : kd = 1
            · rw [if_pos g3, if_pos g3]
              have n2 : ¬ kd = 2 := by omega
              by_cases g4 : am < 1
              · rw [if_pos g4, rj2 _ _ _ _ _ _ _ _ _ _ _ _ _ h0 h1 _ _ hk, show (!(inB am 1 1000000000000000)) = true from by simp [inB]; omega]
              · rw [if_neg g4]
                by_cases g5 : am > 1000000000000000
                · rw [if_pos g5, rj2 _ _ _ _ _ _ _ _ _ _ _ _ _ h0 h1 _ _ hk, show (!(inB am 1 1000000000000000)) = true from by simp [inB]; omega]
                · rw [if_neg g5, if_neg n2, rj2 _ _ _ _ _ _ _ _ _ _ _ _ _ h0 h1 _ _ hk, show (!(inB am 1 1000000000000000)) = false from by simp [inB]; omega]
            · rw [if_neg g3, if_neg g3]
              by_cases g4 : kd = 2
              · rw [if_pos g4, rj2 _ _ _ _ _ _ _ _ _ _ _ _ _ h0 h1 _ _ hk, beq_iff_eq.2 g4]; rfl
              · rw [if_neg g4, rj2 _ _ _ _ _ _ _ _ _ _ _ _ _ h0 h1 _ _ hk, beq_eq_false_iff_ne.2 g4]; rfl
theorem rcheck23_f (hd : Sz dl) (hr : Sz rc) (ha : Sz aa) (k : Nat) (hk : 4000 < k) : giroref23_Check.f k kd dl rc aa q am td sd pr pa ml r0 r1 = some (tc kd dl rc aa q am td sd pr pa ml r0 r1) := by
  obtain ⟨k, rfl⟩ : ∃ m, k = m + 6 := ⟨k - 6, by omega⟩
  have key : ∀ b, giroref23_Check.j0 (k + 6) b kd dl rc aa q am td sd pr pa ml r0 r1 = some (if b = true then 11 else tc1 (!(idv 1 dl && idv 1 rc)) kd dl rc aa q am td sd pr pa ml r0 r1) := by
    intro b
    simp only [giroref23_Check.j0]
    cases b with
    | true => rfl
    | false =>
      rw [if_neg Bool.false_ne_true, if_neg Bool.false_ne_true, rvalid_f 1 (.inr (.inl rfl)) dl hd _ (by omega), rvalid_f 1 (.inr (.inl rfl)) rc hr _ (by omega)]
      simp only [Option.bind_some]
      cases idv 1 dl with
      | false => rw [if_neg Bool.false_ne_true, rj1 _ _ _ _ _ _ _ _ _ _ _ _ _ h0 h1 ha _ _ (by omega)]; rfl
      | true => rw [if_pos (rfl : true = true), rj1 _ _ _ _ _ _ _ _ _ _ _ _ _ h0 h1 ha _ _ (by omega)]; rfl
  unfold giroref23_Check.f tc
  by_cases g : kd = 1
  · rw [if_pos g, key, if_neg Bool.false_ne_true, if_pos (.inl g)]
  · rw [if_neg g, key]
    by_cases g2 : kd = 2
    · rw [if_neg (by simp [g2]), if_pos (.inr g2)]
    · rw [if_pos (by simpa using g2), if_neg (by simp [g, g2])]
end
end Go.Proofs.YtpclapnmiacfpaaDoor.Q
end
section
set_option linter.unusedVariables false
namespace Go.Proofs.YtpclapnmiacfpaaDoor.Q
open Go.RowKit Go.Proofs.YtpclapnmiacfpaaDoor.Hand Go.Proofs.YtpclapnmiacfpaaDoorW.PrintWords Go.Proofs.YtpclapnmiacfpaaDoorW.PrintLast Go.Proofs.YtpclapnmiacfpaaDoorW.PrintMore
abbrev RP := S77
abbrev RL := S49
def convP (p : SP) : RP := ⟨⟨p.f0.f0, p.f0.f1, p.f0.f2⟩, p.f1⟩
def convL (l : SL) : RL := ⟨l.f0, l.f1, l.f2, l.f3⟩
theorem nat_wrap (j : Nat) (h : j < 4611686018427387904) : wrap64 ((j : Int) + 1) = ((j + 1 : Nat) : Int) := by
  unfold wrap64
  omega
theorem p15_l (ps : List SP) (hl : ps.length < 2932031007402) : ∀ (k j : Nat), j ≤ ps.length → ps.length - j < k → girolaw15_Postings.l0 k ps ((ps.take j).map convP) (j : Int) = some (ps.map convP)
  | 0, j, h1, h2 => by omega
  | k + 1, j, h1, h2 => by
    simp only [girolaw15_Postings.l0]
    by_cases h : j < ps.length
    · rw [if_pos (by omega : (j : Int) < (ps.length : Int)), if_pos (by omega : (0 : Int) ≤ (j : Int))]
      simp only [girolaw15_To.f, Option.bind_some]
      rw [if_pos (by rw [List.length_map, List.length_take]; omega), nat_wrap j (by omega), ← p15_l ps hl k (j + 1) (by omega) (by omega), take_snoc ps j _ h rfl, List.map_append]
      rfl
    · rw [if_neg (by omega)]
      have e : j = ps.length := by omega
      rw [e, List.take_length]
theorem p15_f (ps : List SP) (hl : ps.length < 2932031007402) (k : Nat) (hk : ps.length < k) : girolaw15_Postings.f k ps = some (ps.map convP) := by
  have := p15_l ps hl k 0 (Nat.zero_le _) (by omega)
  simpa [girolaw15_Postings.f] using this
theorem same_l (xs : List RP) (hl : xs.length < 4611686018427387904) : ∀ (k j : Nat), j ≤ xs.length → xs.length - j < k → girolaw39_same.l0 k xs xs (j : Int) = some true
  | 0, j, h1, h2 => by omega
  | k + 1, j, h1, h2 => by
    simp only [girolaw39_same.l0]
    by_cases h : j < xs.length
    · rw [if_pos (by omega : (j : Int) < (xs.length : Int)), if_pos (by omega : (0 : Int) ≤ (j : Int)), if_pos (by omega : (j : Int) < (xs.length : Int)), if_neg (by simp), nat_wrap j (by omega)]
      exact same_l xs hl k (j + 1) (by omega) (by omega)
    · rw [if_neg (by omega)]
theorem same_f (xs : List RP) (hl : xs.length < 4611686018427387904) (k : Nat) (hk : xs.length < k) : girolaw39_same.f k xs xs = some true := by
  unfold girolaw39_same.f
  rw [if_pos rfl]
  exact same_l xs hl k 0 (Nat.zero_le _) (by omega)
section
variable (kd : Int) (dl rc aa : ByteArray) (q am td sd pr : Int) (pa : Bool) (ml : Int) (r0 r1 : ByteArray)
def legsD : List SL := if kd = 1 then [⟨dl, rc, aa, q⟩, ⟨rc, dl, ⟨#[67, 65, 83, 72]⟩, am⟩] else [⟨dl, rc, aa, q⟩]
theorem legs_f : delivery_legs.f kd dl rc aa q am td sd pr pa ml r0 r1 = some (legsD kd dl rc aa q am) := by
  unfold delivery_legs.f legsD
  simp only [Option.bind_some]
  by_cases h : kd = 1
  · rw [if_pos h, if_pos h, if_pos (by simp)]
    rfl
  · rw [if_neg h, if_neg h]
theorem legsR_f : giroref39_Legs.f kd dl rc aa q am td sd pr pa ml r0 r1 = some ((legsD kd dl rc aa q am).map convL) := by
  unfold giroref39_Legs.f legsD
  simp only [Option.bind_some]
  by_cases h : kd = 1
  · rw [if_pos h, if_pos h, if_pos (by simp)]
    rfl
  · rw [if_neg h, if_neg h]
    rfl
theorem legsD_len : (legsD kd dl rc aa q am).length ≤ 2 := by
  unfold legsD
  split <;> simp
variable (h0 : Sz r0) (h1 : Sz r1) (hd : Sz dl) (hr : Sz rc) (ha : Sz aa)
include h0 h1 hd hr ha in
theorem dPost_f (a1 : Int) : delivery_Postings.f kd dl rc aa q am td sd pr pa ml r0 r1 a1 = if tc kd dl rc aa q am td sd pr pa ml r0 r1 = 0 then (if a1 = 0 ∨ a1 = 2 then some (posts a1 (legsD kd dl rc aa q am), 0) else some ([], 11)) else some ([], tc kd dl rc aa q am td sd pr pa ml r0 r1) := by
  unfold delivery_Postings.f
  rw [mcheck_f _ _ _ _ _ _ _ _ _ _ _ _ _ h0 h1 hd hr ha rounds (by decide), Option.bind_some, legs_f, Option.bind_some, if_pos (legsD_len _ _ _ _ _ _)]
end
def kA : ByteArray := ⟨#[66, 65, 78, 75, 65]⟩
def kB : ByteArray := ⟨#[66, 65, 78, 75, 66]⟩
def kI : ByteArray := ⟨#[85, 83, 48, 51, 55, 56, 51, 51, 49, 48, 48, 53]⟩
def kC : ByteArray := ⟨#[67, 65, 83, 72]⟩
def kD : ByteArray := ⟨#[68, 49]⟩
def kR : ByteArray := ⟨#[82, 49]⟩
def kPs : List SP := [⟨⟨kA, 0, kI⟩, -100⟩, ⟨⟨kB, 0, kI⟩, 100⟩, ⟨⟨kB, 0, kC⟩, -2500000⟩, ⟨⟨kA, 0, kC⟩, 2500000⟩]
theorem k_tc : tc 1 kA kB kI 100 2500000 9812 9816 0 false 0 kD kR = 0 := by kernel_rfl
theorem k_posts : posts 0 (legsD 1 kA kB kI 100 2500000) = kPs := by kernel_rfl
theorem k_vs : delivery_Versus.f kPs = some true := by
  unfold delivery_Versus.f delivery_Decompose.f
  kernel_rfl
theorem known_f (k : Nat) (hk : 100 < k) : girolaw39_known.f k = some true := by
  have hp : delivery_Postings.f 1 kA kB kI 100 2500000 9812 9816 0 false 0 kD kR 0 = some (kPs, 0) := by
    rw [dPost_f _ _ _ _ _ _ _ _ _ _ _ _ _ (by unfold Sz; decide) (by unfold Sz; decide) (by unfold Sz; decide) (by unfold Sz; decide) (by unfold Sz; decide), k_tc, if_pos rfl, if_pos (.inl rfl), k_posts]
  have h1 := p15_f kPs (by decide) k (by show 4 < k; omega)
  have h2 := same_f (kPs.map convP) (by decide) k (by show 4 < k; omega)
  have e : girolaw39_known.f k = (delivery_Postings.f 1 kA kB kI 100 2500000 9812 9816 0 false 0 kD kR 0).bind fun bt114 => (if bt114.2 = 0 then ((girolaw15_Postings.f k bt114.1).bind fun t121 => ((girolaw15_Postings.f k kPs).bind fun t124 => ((girolaw39_same.f k t121 t124).bind fun t127 => (if t127 = true then ((delivery_Versus.f bt114.1).bind fun t128 => (some t128)) else (some false))))) else (some false)) := rfl
  rw [e, hp, Option.bind_some]
  simp only [h1, h2, k_vs, Option.bind_some, if_true]
section
variable (kd : Int) (dl rc aa : ByteArray) (q am td sd pr : Int) (pa : Bool) (ml : Int) (r0 r1 : ByteArray)
variable (h0 : Sz r0) (h1 : Sz r1) (hd : Sz dl) (hr : Sz rc) (ha : Sz aa)
theorem posts_le (a1 : Int) : (posts a1 (legsD kd dl rc aa q am)).length ≤ 4 := by
  have := legsD_len kd dl rc aa q am
  rw [posts_len]
  omega
end
end Go.Proofs.YtpclapnmiacfpaaDoor.Q
end
section
set_option linter.unusedVariables false
namespace Go.Proofs.YtpclapnmiacfpaaDoor.Q
open Go.RowKit Go.Proofs.YtpclapnmiacfpaaDoor.Hand
def backP (p : RP) : SP := ⟨⟨p.f0.f0, p.f0.f1, p.f0.f2⟩, p.f1⟩
theorem back_conv (ps : List SP) : (ps.map convP).map backP = ps := by
  rw [List.map_map]
  exact (List.map_congr_left (fun p _ => rfl)).trans (List.map_id _)
def gp (L : List SP) (n : Nat) : SP := L.getD n z68
def rlk (l : RL) : List UInt8 := l.f2.data.toList
def cntU (L : List SP) (i n : Nat) : Nat := (L.take n).countP (fun p => pk p == pk (gp L i))
def oth (L : List SP) (i : Nat) : Nat → Int
  | 0 => -1
  | n + 1 => if n ≠ i ∧ pk (gp L n) = pk (gp L i) then (n : Int) else oth L i n
def othP (L : List SP) (i : Nat) : SP := gp L (oth L i L.length).toNat
def legO (L : List SP) (i : Nat) : RL := ⟨(gp L i).f0.f0, (othP L i).f0.f0, (gp L i).f0.f2, (othP L i).f1⟩
def insO (l : RL) (out : List RL) : List RL := out.takeWhile (fun x => decide (rlk x < rlk l)) ++ l :: out.dropWhile (fun x => decide (rlk x < rlk l))
def stepOk (L : List SP) (i : Nat) : Bool := cntU L i L.length == 2 && fitsC (gp L i) (othP L i)
def rstep (L : List SP) (i : Nat) (out : List RL) : Option (List RL) := if pok (gp L i) = true then (if 0 < (gp L i).f1 then some out else if stepOk L i = true then some (insO (legO L i) out) else none) else none
def rout (L : List SP) : Nat → Option (List RL)
  | 0 => some []
  | n + 1 => (rout L n).bind (rstep L n)
def refD (L : List SP) : List RL × Int := if L.length = 0 then ([], 1) else if 4096 < L.length then ([], 8) else match rout L L.length with
  | none => ([], 3)
  | some out => if 2 * out.length = L.length then (out, 0) else ([], 3)
theorem gp_eq (L : List SP) (i : Nat) (h : i < L.length) : gp L i = L[i] := by
  unfold gp
  rw [List.getD_eq_getElem?_getD, List.getElem?_eq_getElem h, Option.getD_some]
theorem gp_mem (L : List SP) (i : Nat) (h : i < L.length) : gp L i ∈ L := by rw [gp_eq L i h]; exact List.getElem_mem h
theorem rout_none (L : List SP) (n : Nat) (h : rout L n = none) : ∀ m, n ≤ m → rout L m = none
  | 0, hm => by
    obtain rfl : n = 0 := by omega
    exact h
  | m + 1, hm => by
    by_cases e : n = m + 1
    · rw [← e]; exact h
    · rw [rout, rout_none L n h m (by omega)]; rfl
theorem insO_perm (l : RL) (out : List RL) : (insO l out).Perm (l :: out) := by
  unfold insO
  refine List.perm_middle.trans ?_
  rw [List.takeWhile_append_dropWhile]
theorem insO_rising (l : RL) (out : List RL) (h : out.Pairwise (fun a b => rlk a ≤ rlk b)) : (insO l out).Pairwise (fun a b => rlk a ≤ rlk b) := by
  unfold insO
  have e := List.takeWhile_append_dropWhile (p := fun x => decide (rlk x < rlk l)) (l := out)
  rw [← e, List.pairwise_append] at h
  obtain ⟨h1, h2, h3⟩ := h
  refine List.pairwise_append.2 ⟨h1, List.pairwise_cons.2 ⟨?_, h2⟩, ?_⟩
  · intro b hb
    cases hd : out.dropWhile (fun x => decide (rlk x < rlk l)) with
    | nil => rw [hd] at hb; simp at hb
    | cons x t =>
      have hx : decide (rlk x < rlk l) = false := by
        have := List.head?_dropWhile_not (fun x => decide (rlk x < rlk l)) out
        rw [hd] at this
        simpa using this
      have hx' : rlk l ≤ rlk x := by
        have := of_decide_eq_false hx
        exact List.not_lt.1 this
      rw [hd] at hb h2
      rcases List.mem_cons.1 hb with rfl | hb
      · exact hx'
      · exact List.le_trans hx' ((List.pairwise_cons.1 h2).1 b hb)
  · intro a ha b hb
    have hal : rlk a < rlk l := by
      have := List.all_takeWhile (p := fun x => decide (rlk x < rlk l)) (l := out)
      exact of_decide_eq_true (List.all_eq_true.1 this a ha)
    rcases List.mem_cons.1 hb with rfl | hb
    · exact List.le_of_lt hal
    · exact h3 a ha b hb
theorem oth_spec (L : List SP) (i : Nat) : ∀ n, (oth L i n = -1 ∧ ∀ k, k < n → k ≠ i → pk (gp L k) ≠ pk (gp L i)) ∨ (∃ k : Nat, k < n ∧ oth L i n = (k : Int) ∧ k ≠ i ∧ pk (gp L k) = pk (gp L i))
  | 0 => .inl ⟨rfl, fun k h => by omega⟩
  | n + 1 => by
    unfold oth
    by_cases h : n ≠ i ∧ pk (gp L n) = pk (gp L i)
    · rw [if_pos h]
      exact .inr ⟨n, by omega, rfl, h.1, h.2⟩
    · rw [if_neg h]
      rcases oth_spec L i n with ⟨e, h2⟩ | ⟨k, h1, e, h2, h3⟩
      · refine .inl ⟨e, fun k hk hne he => ?_⟩
        by_cases ek : k = n
        · subst ek
          exact h ⟨hne, he⟩
        · exact h2 k (by omega) hne he
      · exact .inr ⟨k, by omega, e, h2, h3⟩
theorem cnt_split (L : List SP) (i : Nat) : cntU L i L.length = ((debs L).map pk).count (pk (gp L i)) + ((creds L).map pk).count (pk (gp L i)) := by
  unfold cntU
  rw [List.take_length, List.countP_eq_countP_filter_add L _ (fun p => decide (p.f1 < 0))]
  simp only [List.count, List.countP_map, debs, creds]
  rfl
theorem perm_of_count {α : Type} [BEq α] [LawfulBEq α] : ∀ (xs ys : List α), (∀ a, xs.count a ≤ ys.count a) → ys.length ≤ xs.length → xs.Perm ys
  | [], ys, _, hl => by
    have : ys = [] := List.eq_nil_of_length_eq_zero (by simpa using hl)
    rw [this]
  | x :: xs, ys, hc, hl => by
    have hx : x ∈ ys := List.count_pos_iff.1 (by have := hc x; rw [List.count_cons_self] at this; omega)
    refine ((perm_of_count xs (ys.erase x) (fun a => ?_) ?_).cons x).trans (List.perm_cons_erase hx).symm
    · have := hc a
      rw [List.count_cons] at this
      rw [List.count_erase]
      omega
    · rw [List.length_erase_of_mem hx]
      have : (x :: xs).length = xs.length + 1 := rfl
      omega
theorem mem_debs {L : List SP} {p : SP} : p ∈ debs L ↔ p ∈ L ∧ p.f1 < 0 := by simp [debs]
theorem mem_creds {L : List SP} {p : SP} : p ∈ creds L ↔ p ∈ L ∧ ¬ p.f1 < 0 := by simp [creds]
structure Good (L : List SP) : Prop where
  ok : ∀ p ∈ L, pok p = true
  nd : ((debs L).map pk).Nodup
  nc : ((creds L).map pk).Nodup
  ft : ∀ d ∈ debs L, fitsD (creds L) d = true
  len : (creds L).length = (debs L).length
theorem good_iff (L : List SP) : goodD L = true ↔ Good L := by
  unfold goodD
  simp only [Bool.and_eq_true, List.all_eq_true, decide_eq_true_eq, beq_iff_eq]
  exact ⟨fun ⟨⟨⟨⟨a, b⟩, c⟩, d⟩, e⟩ => ⟨a, b, c, d, e⟩, fun ⟨a, b, c, d, e⟩ => ⟨⟨⟨⟨a, b⟩, c⟩, d⟩, e⟩⟩
theorem fits_mate {cs : List SP} {d : SP} (h : fitsD cs d = true) : ∃ c, c ∈ cs ∧ pk c = pk d ∧ fitsC d c = true ∧ mate cs d = some c := by
  unfold fitsD at h
  cases hm : mate cs d with
  | none => rw [hm] at h; exact absurd h (by simp)
  | some c =>
    rw [hm] at h
    exact ⟨c, List.mem_of_find?_eq_some hm, by simpa using List.find?_some hm, h, rfl⟩
theorem nd_idx {L : List SP} (h : ((debs L).map pk).Nodup) (i j : Nat) (hi : i < L.length) (hj : j < L.length) (hij : i ≠ j) (di : (gp L i).f1 < 0) (dj : (gp L j).f1 < 0) : pk (gp L i) ≠ pk (gp L j) := by
  have h2 : L.Pairwise (fun x y => decide (x.f1 < 0) = true → decide (y.f1 < 0) = true → pk x ≠ pk y) := List.pairwise_filter.1 (List.pairwise_map.1 h)
  rw [List.pairwise_iff_getElem] at h2
  rw [gp_eq L i hi] at di ⊢
  rw [gp_eq L j hj] at dj ⊢
  rcases Nat.lt_or_gt_of_ne hij with hlt | hlt
  · exact h2 i j hi hj hlt (decide_eq_true di) (decide_eq_true dj)
  · exact (h2 j i hj hi hlt (decide_eq_true dj) (decide_eq_true di)).symm
theorem oth_good {L : List SP} (g : Good L) (n : Nat) (hn : n < L.length) (hd : (gp L n).f1 < 0) : stepOk L n = true ∧ legO L n = convL (legD (creds L) (gp L n)) := by
  have hm : gp L n ∈ debs L := mem_debs.2 ⟨gp_mem L n hn, hd⟩
  obtain ⟨c, hc, hk, hf, hmate⟩ := fits_mate (g.ft _ hm)
  have hcnt : cntU L n L.length = 2 := by
    rw [cnt_split, g.nd.count, g.nc.count, if_pos (List.mem_map_of_mem hm), if_pos (by rw [← hk]; exact List.mem_map_of_mem hc)]
  have ho : othP L n = c := by
    obtain ⟨hcL, hcd⟩ := mem_creds.1 hc
    obtain ⟨j, hj, ej⟩ := List.getElem_of_mem hcL
    rcases oth_spec L n L.length with ⟨_, h2⟩ | ⟨k, h1, e, h2, h3⟩
    · refine absurd ?_ (h2 j hj ?_)
      · rw [gp_eq L j hj, ej, hk]
      · rintro rfl
        rw [gp_eq L _ hj, ej] at hd
        exact hcd hd
    · have ek : othP L n = gp L k := by unfold othP; rw [e, Int.toNat_natCast]
      rw [ek]
      have hnk : ¬ (gp L k).f1 < 0 := fun hdk => nd_idx g.nd k n h1 hn h2 hdk hd h3
      exact nodup_inj pk (creds L) g.nc _ _ (mem_creds.2 ⟨gp_mem L k h1, hnk⟩) hc (h3.trans hk.symm)
  refine ⟨?_, ?_⟩
  · unfold stepOk
    rw [hcnt, ho, hf]
    rfl
  · unfold legO legD
    rw [ho, hmate]
    rfl
theorem rout_good {L : List SP} (g : Good L) : ∀ n, n ≤ L.length → ∃ out, rout L n = some out ∧ out.Perm (((debs (L.take n)).map (legD (creds L))).map convL) ∧ out.Pairwise (fun a b => rlk a ≤ rlk b)
  | 0, _ => ⟨[], rfl, by simp [debs], List.Pairwise.nil⟩
  | n + 1, hn => by
    obtain ⟨out, e, hp, hs⟩ := rout_good g n (by omega)
    have hn' : n < L.length := by omega
    have ht : L.take (n + 1) = L.take n ++ [gp L n] := by rw [List.take_add_one, List.getElem?_eq_getElem hn', gp_eq L n hn']; rfl
    have hok := g.ok _ (gp_mem L n hn')
    rw [rout, e, Option.bind_some, rstep, if_pos hok]
    by_cases hp0 : 0 < (gp L n).f1
    · rw [if_pos hp0, ht, debs_snoc' _ _ (by omega)]
      exact ⟨out, rfl, hp, hs⟩
    · have hneg : (gp L n).f1 < 0 := by
        have : (gp L n).f1 ≠ 0 := by
          simp only [pok, Bool.and_eq_true, bne_iff_ne] at hok
          exact hok.1.2
        omega
      obtain ⟨h1, h2⟩ := oth_good g n hn' hneg
      rw [if_neg hp0, if_pos h1, ht, debs_snoc _ _ hneg, List.map_append, List.map_append]
      refine ⟨_, rfl, ?_, insO_rising _ _ hs⟩
      refine (insO_perm _ _).trans ?_
      rw [h2]
      exact (hp.cons _).trans (List.perm_append_singleton _ _).symm
theorem rout_inv (L : List SP) : ∀ n out, n ≤ L.length → rout L n = some out → (∀ i, i < n → pok (gp L i) = true ∧ ((gp L i).f1 < 0 → stepOk L i = true)) ∧ out.length = (debs (L.take n)).length
  | 0, out, _, h => by
    obtain rfl := Option.some.inj h
    exact ⟨fun i hi => by omega, by simp [debs]⟩
  | n + 1, out, hn, h => by
    rw [rout] at h
    obtain ⟨o, ho, h⟩ := Option.bind_eq_some_iff.mp h
    obtain ⟨h1, h2⟩ := rout_inv L n o (by omega) ho
    have hn' : n < L.length := by omega
    have ht : L.take (n + 1) = L.take n ++ [gp L n] := by rw [List.take_add_one, List.getElem?_eq_getElem hn', gp_eq L n hn']; rfl
    unfold rstep at h
    by_cases hok : pok (gp L n) = true
    · rw [if_pos hok] at h
      have hne : (gp L n).f1 ≠ 0 := by
        simp only [pok, Bool.and_eq_true, bne_iff_ne] at hok
        exact hok.1.2
      by_cases hp0 : 0 < (gp L n).f1
      · rw [if_pos hp0] at h
        obtain rfl := Option.some.inj h
        refine ⟨fun i hi => ?_, by rw [ht, debs_snoc' _ _ (by omega)]; exact h2⟩
        by_cases ei : i = n
        · subst ei; exact ⟨hok, fun hd => by omega⟩
        · exact h1 i (by omega)
      · rw [if_neg hp0] at h
        by_cases hs : stepOk L n = true
        · rw [if_pos hs] at h
          obtain rfl := Option.some.inj h
          refine ⟨fun i hi => ?_, ?_⟩
          · by_cases ei : i = n
            · subst ei; exact ⟨hok, fun _ => hs⟩
            · exact h1 i (by omega)
          · rw [ht, debs_snoc _ _ (by omega), (insO_perm _ _).length_eq, List.length_append, List.length_cons, h2]
            rfl
        · rw [if_neg hs] at h
          cases h
    · rw [if_neg hok] at h
      cases h
theorem good_of (L : List SP) (out : List RL) (h : rout L L.length = some out) (hl : 2 * out.length = L.length) : Good L := by
  obtain ⟨h1, h2⟩ := rout_inv L L.length out (Nat.le_refl _) h
  rw [List.take_length] at h2
  have hlen : (creds L).length = (debs L).length := by
    have := List.length_eq_countP_add_countP (fun p : SP => decide (p.f1 < 0)) (l := L)
    have e1 : (debs L).length = L.countP (fun p => decide (p.f1 < 0)) := by rw [List.countP_eq_length_filter]; rfl
    have e2 : (creds L).length = L.countP (fun p => ¬ decide (p.f1 < 0) = true) := by
      rw [List.countP_eq_length_filter]
      unfold creds
      congr 1
      refine List.filter_congr (fun x _ => ?_)
      cases decide (x.f1 < 0) <;> rfl
    omega
  have key : ∀ i, i < L.length → (gp L i).f1 < 0 → ((debs L).map pk).count (pk (gp L i)) = 1 ∧ ((creds L).map pk).count (pk (gp L i)) = 1 ∧ ∃ c ∈ creds L, pk c = pk (gp L i) ∧ fitsC (gp L i) c = true := by
    intro i hi hd
    have hs := (h1 i hi).2 hd
    unfold stepOk at hs
    rw [Bool.and_eq_true, beq_iff_eq] at hs
    obtain ⟨hc, hf⟩ := hs
    rw [cnt_split] at hc
    have hdm : 0 < ((debs L).map pk).count (pk (gp L i)) := List.count_pos_iff.2 (List.mem_map_of_mem (mem_debs.2 ⟨gp_mem L i hi, hd⟩))
    have hco : ∃ c ∈ creds L, pk c = pk (gp L i) ∧ fitsC (gp L i) c = true := by
      rcases oth_spec L i L.length with ⟨e, h3⟩ | ⟨k, hk1, e, hk2, hk3⟩
      ·
        exfalso
        have hone : ∀ n, n ≤ L.length → cntU L i n ≤ 1 ∧ (n ≤ i → cntU L i n = 0) := by
          intro n
          induction n with
          | zero => intro _; simp [cntU]
          | succ n ih =>
            intro hn
            obtain ⟨a1, a2⟩ := ih (by omega)
            have hn' : n < L.length := by omega
            have ht : L.take (n + 1) = L.take n ++ [gp L n] := by rw [List.take_add_one, List.getElem?_eq_getElem hn', gp_eq L n hn']; rfl
            have es : cntU L i (n + 1) = cntU L i n + if pk (gp L n) == pk (gp L i) then 1 else 0 := by
              unfold cntU
              rw [ht, List.countP_append, List.countP_singleton]
            by_cases en : n = i
            · subst en
              rw [es, a2 (Nat.le_refl _)]
              exact ⟨by simp, fun h => by omega⟩
            · have : (pk (gp L n) == pk (gp L i)) = false := by simpa using h3 n hn' en
              rw [es, this]
              exact ⟨by simpa using a1, fun h => by simpa using a2 (by omega)⟩
        have := (hone L.length (Nat.le_refl _)).1
        rw [cnt_split] at this
        omega
      · have ek : othP L i = gp L k := by unfold othP; rw [e, Int.toNat_natCast]
        rw [ek] at hf
        refine ⟨gp L k, mem_creds.2 ⟨gp_mem L k hk1, fun hdk => ?_⟩, hk3, hf⟩
        have hf' := hf
        unfold fitsC at hf'
        rw [Bool.and_eq_true, beq_iff_eq] at hf'
        have hw := (h1 i hi).1
        simp only [pok, inw, Bool.and_eq_true, decide_eq_true_eq] at hw
        have := hf'.1
        unfold wrap64 at this
        omega
    obtain ⟨c, hcm, hck, hcf⟩ := hco
    have hcc : 0 < ((creds L).map pk).count (pk (gp L i)) := List.count_pos_iff.2 (by rw [← hck]; exact List.mem_map_of_mem hcm)
    exact ⟨by omega, by omega, c, hcm, hck, hcf⟩
  have keyD : ∀ d ∈ debs L, ∃ i, i < L.length ∧ gp L i = d ∧ (gp L i).f1 < 0 := fun d hd => by
    obtain ⟨hm, hneg⟩ := mem_debs.1 hd
    obtain ⟨i, hi, e⟩ := List.getElem_of_mem hm
    exact ⟨i, hi, by rw [gp_eq L i hi, e], by rw [gp_eq L i hi, e]; exact hneg⟩
  have hnd : ((debs L).map pk).Nodup := by
    rw [List.nodup_iff_count]
    intro a
    by_cases ha : a ∈ (debs L).map pk
    · obtain ⟨d, hd, rfl⟩ := List.mem_map.1 ha
      obtain ⟨i, hi, rfl, hneg⟩ := keyD d hd
      exact Nat.le_of_eq (key i hi hneg).1
    · rw [List.count_eq_zero_of_not_mem ha]
      omega
  have hnc : ((creds L).map pk).Nodup := by
    refine (List.Perm.nodup_iff (perm_of_count ((debs L).map pk) ((creds L).map pk) (fun a => ?_) ?_)).1 hnd
    · by_cases ha : a ∈ (debs L).map pk
      · obtain ⟨d, hd, rfl⟩ := List.mem_map.1 ha
        obtain ⟨i, hi, rfl, hneg⟩ := keyD d hd
        rw [(key i hi hneg).1, (key i hi hneg).2.1]
        exact Nat.le_refl _
      · rw [List.count_eq_zero_of_not_mem ha]
        omega
    · rw [List.length_map, List.length_map]
      omega
  refine ⟨fun p hp => ?_, hnd, hnc, fun d hd => ?_, hlen⟩
  · obtain ⟨i, hi, e⟩ := List.getElem_of_mem hp
    rw [← e, ← gp_eq L i hi]
    exact (h1 i hi).1
  · obtain ⟨i, hi, rfl, hneg⟩ := keyD d hd
    obtain ⟨c, hcm, hck, hcf⟩ := (key i hi hneg).2.2
    unfold fitsD
    cases hm : mate (creds L) (gp L i) with
    | none =>
      have := List.find?_eq_none.1 hm c hcm
      simp [hck] at this
    | some c' =>
      have h5 := List.mem_of_find?_eq_some hm
      have h6 : pk c' = pk (gp L i) := by simpa using List.find?_some hm
      have : c' = c := nodup_inj pk (creds L) hnc c' c h5 hcm (h6.trans hck.symm)
      rw [this]
      exact hcf
theorem refD_eq (L : List SP) (h0 : ¬ L.length = 0) (h1 : ¬ 4096 < L.length) : refD L = if goodD L = true then ((sortL ((debs L).map (legD (creds L)))).map convL, 0) else ([], 3) := by
  unfold refD
  rw [if_neg h0, if_neg h1]
  by_cases hg : goodD L = true
  · have g := (good_iff L).1 hg
    rw [if_pos hg]
    obtain ⟨out, e, hp, hs⟩ := rout_good g L.length (Nat.le_refl _)
    rw [List.take_length] at hp
    have hlen : 2 * out.length = L.length := by
      have e3 := hp.length_eq
      rw [List.length_map, List.length_map] at e3
      have := List.length_eq_countP_add_countP (fun p : SP => decide (p.f1 < 0)) (l := L)
      have e1 : (debs L).length = L.countP (fun p => decide (p.f1 < 0)) := by rw [List.countP_eq_length_filter]; rfl
      have e2 : (creds L).length = L.countP (fun p => ¬ decide (p.f1 < 0) = true) := by
        rw [List.countP_eq_length_filter]
        unfold creds
        congr 1
        refine List.filter_congr (fun x _ => ?_)
        cases decide (x.f1 < 0) <;> rfl
      have := g.len
      omega
    rw [e]
    show (if 2 * out.length = L.length then (out, (0 : Int)) else ([], 3)) = _
    rw [if_pos hlen]
    have e4 : out = (sortL ((debs L).map (legD (creds L)))).map convL := by
      have hks : ∀ d ∈ debs L, lk (legD (creds L) d) = pk d := fun d hd => by
        obtain ⟨c, _, _, _, hm⟩ := fits_mate (g.ft d hd)
        unfold legD
        rw [hm]
        rfl
      have hnl : (((debs L).map (legD (creds L))).map lk).Nodup := by
        rw [List.map_map]
        rw [show (debs L).map (lk ∘ legD (creds L)) = (debs L).map pk from List.map_congr_left hks]
        exact g.nd
      have hnr : ((((debs L).map (legD (creds L))).map convL).map rlk).Nodup := by
        rw [List.map_map, show (rlk ∘ convL) = lk from rfl]
        exact hnl
      have hp2 : ((sortL ((debs L).map (legD (creds L)))).map convL).Perm (((debs L).map (legD (creds L))).map convL) := (sortL_perm _).map convL
      refine List.Perm.eq_of_pairwise (le := fun a b => rlk a ≤ rlk b) (fun a b ha hb h1 h2 => ?_) hs ?_ (hp.trans hp2.symm)
      · exact nodup_inj rlk _ hnr a b (hp.mem_iff.1 ha) (hp2.mem_iff.1 hb) (List.le_antisymm h1 h2)
      · rw [List.pairwise_map]
        exact sortL_rising _
    rw [e4]
  · rw [if_neg hg]
    cases e : rout L L.length with
    | none => rfl
    | some out =>
      show (if 2 * out.length = L.length then (out, (0 : Int)) else ([], 3)) = _
      by_cases hl : 2 * out.length = L.length
      · exact absurd ((good_iff L).2 (good_of L out e hl)) hg
      · rw [if_neg hl]
@[irreducible] def giroref39_Decompose.f (l0 : List RP) : Option (List RL × Int) := if szP (l0.map backP) = true then some (refD (l0.map backP)) else none
theorem refDec_f (L : List SP) (h : szP L = true) : giroref39_Decompose.f (L.map convP) = (delivery_Decompose.f L).map (fun r => (r.1.map convL, r.2)) := by
  unfold giroref39_Decompose.f delivery_Decompose.f
  rw [back_conv, if_pos h, if_pos h]
  by_cases h0 : L.length = 0
  · rw [if_pos h0]
    unfold refD
    rw [if_pos h0]
    rfl
  · rw [if_neg h0]
    by_cases h1 : 4096 < L.length
    · rw [if_pos h1]
      unfold refD
      rw [if_neg h0, if_pos h1]
      rfl
    · rw [if_neg h1, refD_eq L h0 h1]
      split <;> rfl
end Go.Proofs.YtpclapnmiacfpaaDoor.Q
end
section
set_option linter.unusedVariables false
namespace Go.Proofs.YtpclapnmiacfpaaDoor.Q
open Go.RowKit Go.Maps Go.Proofs.YtpclapnmiacfpaaDoor.Hand Go.Proofs.YtpclapnmiacfpaaDoorW.PrintWords Go.Proofs.YtpclapnmiacfpaaDoorW.PrintLast Go.Proofs.YtpclapnmiacfpaaDoorW.PrintMore
theorem rwithin_c (n : Int) (w : World) : Calls Tryd.prog 35 #[.int .i64 n] w fun e w' => e = .returned (.bool (inw n)) ∧ w = w' := by
  by_cases h0 : -1000000000000000 ≤ n
  · have b0 : decide (-1000000000000000 ≤ n) = true := decide_eq_true h0
    go_enter Tryd.func35, Tryd.ntmps35
    go_wp2
    go_ret
    exact ⟨by simp [inw, b0], rfl⟩
  · have b0 : decide (-1000000000000000 ≤ n) = false := decide_eq_false h0
    go_enter Tryd.func35, Tryd.ntmps35
    go_wp2
    go_ret
    exact ⟨by simp [inw, b0], rfl⟩
theorem rd_back (l0 : List RP) (i : Nat) (h : i < l0.length) : gp (l0.map backP) i = backP (rd_T77 l0 (i : Int)) := by
  rw [gp_eq _ i (by rw [List.length_map]; exact h), List.getElem_map]
  simp only [rd_T77, Int.toNat_natCast, List.getD_eq_getElem?_getD, List.getElem?_eq_getElem h, Option.getD_some]
def endR (L : List SP) : List RL × Int := match rout L L.length with
  | none => ([], 3)
  | some out => if 2 * out.length = L.length then (out, 0) else ([], 3)
theorem endR_bad {L : List SP} {r1 : List RL} {r2 : Int} (h : endR L = (r1, r2)) (i : Nat) (hi : i < L.length) (out : List RL) (ho : rout L i = some out) (hs : rstep L i out = none) : r1 = [] ∧ r2 = 3 := by
  have h1 : rout L (i + 1) = none := by rw [rout, ho, Option.bind_some, hs]
  have h2 := rout_none L _ h1 L.length hi
  unfold endR at h
  rw [h2] at h
  obtain ⟨rfl, rfl⟩ := Prod.mk.inj h
  exact ⟨rfl, rfl⟩
theorem tw_step (g : RL) (out : List RL) (a : Nat) (h : a ≤ (out.takeWhile (fun x => decide (rlk x < rlk g))).length) (ha : a < out.length) (hp : rlk out[a] < rlk g) : a + 1 ≤ (out.takeWhile (fun x => decide (rlk x < rlk g))).length := by
  induction out generalizing a with
  | nil => simp at ha
  | cons x t ih =>
    cases a with
    | zero =>
      have hx : decide (rlk x < rlk g) = true := decide_eq_true hp
      rw [List.takeWhile_cons, hx]
      simp
    | succ a =>
      by_cases hx : decide (rlk x < rlk g) = true
      · rw [List.takeWhile_cons, hx] at h ⊢
        simp only [if_true, List.length_cons] at h ⊢
        have := ih a (by omega) (by simpa using ha) (by simpa using hp)
        omega
      · rw [List.takeWhile_cons, if_neg hx] at h
        simp at h
theorem tw_end (g : RL) (out : List RL) (a : Nat) (h : a ≤ (out.takeWhile (fun x => decide (rlk x < rlk g))).length) (ha : a < out.length) (hp : ¬ rlk out[a] < rlk g) : a = (out.takeWhile (fun x => decide (rlk x < rlk g))).length := by
  induction out generalizing a with
  | nil => simp at ha
  | cons x t ih =>
    cases a with
    | zero =>
      have hx : ¬ decide (rlk x < rlk g) = true := fun e => hp (of_decide_eq_true e)
      rw [List.takeWhile_cons, if_neg hx]
      rfl
    | succ a =>
      by_cases hx : decide (rlk x < rlk g) = true
      · rw [List.takeWhile_cons, hx] at h ⊢
        simp only [if_true, List.length_cons] at h ⊢
        have := ih a (by omega) (by simpa using ha) (by simpa using hp)
        omega
      · rw [List.takeWhile_cons, if_neg hx] at h
        simp at h
theorem tw_take (g : RL) (out : List RL) (a : Nat) (h : a = (out.takeWhile (fun x => decide (rlk x < rlk g))).length) : out.take a ++ [g] ++ out.drop a = insO g out := by
  have e := List.takeWhile_append_dropWhile (p := fun x => decide (rlk x < rlk g)) (l := out)
  unfold insO
  have h1 : out.take a = out.takeWhile (fun x => decide (rlk x < rlk g)) := by
    have := List.take_left (l₁ := out.takeWhile (fun x => decide (rlk x < rlk g))) (l₂ := out.dropWhile (fun x => decide (rlk x < rlk g)))
    rw [e, ← h] at this
    exact this
  have h2 : out.drop a = out.dropWhile (fun x => decide (rlk x < rlk g)) := by
    have := List.drop_left (l₁ := out.takeWhile (fun x => decide (rlk x < rlk g))) (l₂ := out.dropWhile (fun x => decide (rlk x < rlk g)))
    rw [e, ← h] at this
    exact this
  rw [h1, h2, List.append_assoc]
  rfl
theorem less_rlk (x g : RL) (s : ByteArray) (hs : g.f2 = s) : Op.bytesLess x.f2.toList s.toList = decide (rlk x < rlk g) := by
  rw [Go.Proofs.bytesLess_eq, Lib.toList_data, Lib.toList_data, ← hs]
  rfl
theorem tw_le (g : RL) (out : List RL) : (out.takeWhile (fun x => decide (rlk x < rlk g))).length ≤ out.length := (List.takeWhile_prefix _).length_le
theorem rd_rl (out : List RL) (a : Nat) (h : a < out.length) : rd_T49 out (a : Int) = out[a] := by
  simp only [rd_T49, Int.toNat_natCast, List.getD_eq_getElem?_getD, List.getElem?_eq_getElem h, Option.getD_some]
theorem sz_alloc (w : World) (o : Obj) : (w.alloc o).heap.size = w.heap.size + 1 := by
  unfold World.alloc
  exact Array.size_push ..
theorem sz_le (w : World) (o : Obj) : w.heap.size ≤ (w.alloc o).heap.size := by rw [sz_alloc]; exact Nat.le_succ _
theorem lit_nil_R {α : Type} (d : Kd α) (e : Nat) (W : World) (base : Nat) (hb : base ≤ W.heap.size) : d.R e (W.alloc (.cells #[] e)) base (fun _ => True) (.slice (some ⟨W.heap.size, 0, none⟩) 0 0) [] :=
  ⟨fun _ _ => trivial, [], World.ownsRow_lit (base := base) (e := e) (size := d.sz) W #[] 0 hb (by decide) (by simp), Reps.none _ _⟩
theorem lit_nil_R' {α : Type} (d : Kd α) (e : Nat) (W : World) (base g : Nat) (hg : g = W.heap.size) (hb : base ≤ W.heap.size) : d.R e (W.alloc (.cells #[] e)) base (fun _ => True) (.slice (some ⟨g, 0, none⟩) 0 0) [] := by
  subst hg
  exact lit_nil_R d e W base hb
theorem lit1_R (W : World) (base g : Nat) (hg : g = W.heap.size) (hb : base ≤ W.heap.size) (l : RL) : Kd.R k49 49 (W.alloc (.cells #[.string l.f0, .string l.f1, .string l.f2, .int .i64 l.f3] 49)) base (fun k => k = g) (.slice (some ⟨g, 0, none⟩) 1 1) [l] := by
  subst hg
  have hr : Reps (Kd.M k49 W base (fun _ => True)) k49.sz [l] [.string l.f0, .string l.f1, .string l.f2, .int .i64 l.f3] := Reps.c4 (k49_mkM _ _ _ l) (Reps.none _ _)
  refine ⟨fun k hk => ?_, _, World.ownsRow_lit (base := base) (e := 49) (size := 4) W #[.string l.f0, .string l.f1, .string l.f2, .int .i64 l.f3] 1 hb (by decide) rfl, ?_⟩
  · have : W.heap.size = k := by simpa [Value.ownBlock] using hk
    exact this.symm
  · exact Reps.c4 (k49_mkM _ _ _ l) (Reps.none _ _)
theorem cntU_le (L : List SP) (i n : Nat) : cntU L i n ≤ n := by
  unfold cntU
  exact Nat.le_trans List.countP_le_length (by rw [List.length_take]; exact Nat.min_le_left _ _)
theorem cntU_succ (L : List SP) (i n : Nat) (hn : n < L.length) : cntU L i (n + 1) = cntU L i n + if pk (gp L n) == pk (gp L i) then 1 else 0 := by
  have ht : L.take (n + 1) = L.take n ++ [gp L n] := by rw [List.take_add_one, List.getElem?_eq_getElem hn, gp_eq L n hn]; rfl
  unfold cntU
  rw [ht, List.countP_append, List.countP_singleton]
theorem oth_yes (L : List SP) (i n : Nat) (h1 : n ≠ i) (h2 : pk (gp L n) = pk (gp L i)) : oth L i (n + 1) = (n : Int) := by rw [oth, if_pos ⟨h1, h2⟩]
theorem oth_no (L : List SP) (i n : Nat) (h : ¬ (n ≠ i ∧ pk (gp L n) = pk (gp L i))) : oth L i (n + 1) = oth L i n := by rw [oth, if_neg h]
theorem oth_two (L : List SP) (i : Nat) (hi : i < L.length) (hc : cntU L i L.length = 2) : ∃ k : Nat, oth L i L.length = (k : Int) ∧ k < L.length := by
  rcases oth_spec L i L.length with ⟨e, h3⟩ | ⟨k, hk1, e, _, _⟩
  · exfalso
    have hone : ∀ n, n ≤ L.length → cntU L i n ≤ 1 ∧ (n ≤ i → cntU L i n = 0) := by
      intro n
      induction n with
      | zero => intro _; simp [cntU]
      | succ n ih =>
        intro hn
        obtain ⟨a1, a2⟩ := ih (by omega)
        rw [cntU_succ L i n hn]
        by_cases en : n = i
        · subst en
          rw [a2 (Nat.le_refl _)]
          exact ⟨by simp, fun h => by omega⟩
        · have : (pk (gp L n) == pk (gp L i)) = false := by simpa using h3 n hn en
          rw [this]
          exact ⟨by simpa using a1, fun h => by simpa using a2 (by omega)⟩
    have := (hone L.length (Nat.le_refl _)).1
    omega
  · exact ⟨k, e, hk1⟩
set_option maxHeartbeats 8000000 in
set_option maxRecDepth 100000 in
theorem giroref39_Decompose.calls (A0 : Option Addr) (c0 : Nat) (l0 : List RP) (r1 : List RL) (r2 : Int) (w : World) (hr0 : Kd.C k77 w A0 l0.length l0) (hc0 : l0.length ≤ c0) (h : giroref39_Decompose.f l0 = some (r1, r2)) :
    Calls Tryd.prog 16 #[.slice A0 l0.length c0] w fun e w' => ∃ v0_ : Value, e = .returned (.tuple #[v0_, .int .i64 r2]) ∧ Kd.R k49 49 w' w.heap.size (fun _ => True) v0_ r1 ∧ Below w.heap.size w w' := by
  unfold giroref39_Decompose.f at h
  by_cases hsz : szP (l0.map backP) = true
  case neg => rw [if_neg hsz] at h; exact absurd h (by simp)
  rw [if_pos hsz] at h
  clear hsz
  have hbk := Aside0.mk (rd_back l0)
  have hll := Aside0.mk (show (l0.map backP).length = l0.length from List.length_map _)
  generalize l0.map backP = L at h hbk hll
  replace h := Option.some.inj h
  unfold refD at h
  by_cases h0 : l0.length = 0
  · rw [if_pos (by rw [hll.out]; exact h0)] at h
    obtain ⟨rfl, rfl⟩ := Prod.mk.inj h
    have b0 : ((l0.length : Int) == 0) = true := by simp [h0]
    go_enter Tryd.func16, Tryd.ntmps16
    go_wp2
    exact bodyPost_ret (v := .tuple #[.slice none 0 0, .int .i64 1]) (by simp [results, Tryd.results16, go_sem]) rfl ⟨_, rfl, Kd.R_nil _ _ _ _ _, Below.refl _ _⟩
  rw [if_neg (by rw [hll.out]; exact h0)] at h
  have b0 : ((l0.length : Int) == 0) = false := by simpa using h0
  by_cases h1 : 4096 < l0.length
  · rw [if_pos (by rw [hll.out]; exact h1)] at h
    obtain ⟨rfl, rfl⟩ := Prod.mk.inj h
    have b1 : decide ((4096 : Int) < (l0.length : Int)) = true := decide_eq_true (by omega)
    go_enter Tryd.func16, Tryd.ntmps16
    go_wp2
    exact bodyPost_ret (v := .tuple #[.slice none 0 0, .int .i64 8]) (by simp [results, Tryd.results16, go_sem]) rfl ⟨_, rfl, Kd.R_nil _ _ _ _ _, Below.refl _ _⟩
  rw [if_neg (by rw [hll.out]; exact h1)] at h
  have b1 : decide ((4096 : Int) < (l0.length : Int)) = false := decide_eq_false (by omega)
  have HF : Aside0 (endR L = (r1, r2)) := ⟨h⟩
  clear h
  obtain ⟨ad, rfl, _⟩ := at_T77 hr0 0 (by omega) (by omega)
  have HR := Aside0.mk hr0
  clear h0 hr0
  have HB := Aside0.mk (Below.refl w.heap.size w)
  go_enter Tryd.func16, Tryd.ntmps16
  go_wp2
  go_loopg [4, 5] (l0.length + 1) (fun kq v4 v5 w' => ∃ (i : Nat) (out : List RL), v5 = .int .i64 (i : Int) ∧ Aside0 (kq + i = l0.length + 1 ∧ i ≤ l0.length ∧ out.length ≤ i) ∧ Aside0 (rout L i = some out) ∧ Aside0 (Kd.R k49 49 w' w.heap.size (fun _ => True) v4 out) ∧ Aside0 (Below w.heap.size w w'))
  case atStart => exact ⟨0, [], rfl, ⟨rfl, Nat.zero_le _, Nat.le_refl _⟩, ⟨rfl⟩, ⟨Kd.R_nil _ _ _ _ _⟩, HB⟩
  case round =>
    clear HB
    obtain ⟨i, out, rfl, HK, HRO, HO, HB⟩ := hrel
    obtain ⟨hkq, hile, hol⟩ := HK.out
    cases gk with
    | zero => omega
    | succ k1 =>
    by_cases hi : i < l0.length
    · have ci : decide ((i : Int) < (l0.length : Int)) = true := decide_eq_true (by omega)
      have p0 : ((0 : Int) ≤ (i : Int)) = True := eq_true (by omega)
      have p1 : ((i : Int) < (l0.length : Int)) = True := eq_true (by omega)
      obtain ⟨ad', ead, hx0, hx1, hx2, hx3⟩ := at_T77 (Kd.C_below HR.out HB.out) (i : Int) (by omega) (by omega)
      obtain rfl : ad = ad' := by injection ead
      clear ead
      simp only [Int.toNat_natCast] at hx0 hx1 hx2 hx3
      have HP := hbk.out i hi
      obtain ⟨p, hp⟩ : ∃ p, p = rd_T77 l0 (i : Int) := ⟨_, rfl⟩
      rw [← hp] at hx0 hx1 hx2 hx3 HP
      have HP := Aside0.mk HP
      have HPP := Aside0.mk hp
      clear hp
      have HBAD : Aside0 (rstep L i out = none → r1 = [] ∧ r2 = 3) := ⟨fun hs => endR_bad HF.out i (by rw [hll.out]; exact hi) out HRO.out hs⟩
      have hpok : Aside0 (pok (gp L i) = (inw p.f1 && !(p.f1 == 0) && (p.f0.f1 == 0))) := ⟨by rw [HP.out]; rfl⟩
      cases e1 : inw p.f1
      · have HFf := HBAD.out (by unfold rstep; rw [hpok.out, e1]; rfl)
        clear HF
        go_wp2_with (first | (go_at_call 35; refine (rwithin_c _ _).mono ?_; rintro e w6 ⟨rfl, rfl⟩))
        exact bodyPost_ret (v := .tuple #[.slice none 0 0, .int .i64 3]) (by simp [results, Tryd.results16, go_sem]) rfl ⟨_, by first | rfl | rw [HFf.2], by first | exact Kd.R_nil _ _ _ _ _ | (rw [HFf.1]; exact Kd.R_nil _ _ _ _ _), HB.out⟩
      · cases e2 : (p.f1 == 0)
        · cases e3 : (p.f0.f1 != 0)
          · have hpk : Aside0 (pok (gp L i) = true) := ⟨by rw [hpok.out, e1, e2]; simpa using e3⟩
            cases e4 : decide (0 < p.f1)
            case true =>
              have hst : Aside0 (rout L (i + 1) = some out) := ⟨by
                rw [rout, HRO.out, Option.bind_some]
                unfold rstep
                rw [if_pos hpk.out, if_pos (by rw [HP.out]; exact of_decide_eq_true e4)]⟩
              have hw := wnat i (by omega)
              clear HBAD hpok hpk HRO
              go_wp2_with (first | (go_at_call 35; refine (rwithin_c _ _).mono ?_; rintro e w6 ⟨rfl, rfl⟩))
              go_roundg k1
              case measure => omega
              case rel =>
                refine ⟨i + 1, out, ?_, ⟨by omega, by omega, by omega⟩, hst, HO, HB⟩
                first | rfl | rw [hw] | (simp; done) | (have hw2 := hw; rw [i64_w] at hw2; rw [hw2]) | (have hw2 := hw; rw [i64_w] at hw2; simp [hw2])
            have hneg : Aside0 ((gp L i).f1 ≤ 0) := ⟨by rw [HP.out]; exact Int.not_lt.1 (of_decide_eq_false e4)⟩
            clear hpok
            go_wp2_with (first | (go_at_call 35; refine (rwithin_c _ _).mono ?_; rintro e w6 ⟨rfl, rfl⟩))
            clear hx0 hx1 hx2 hx3 e1 e2 e3 e4
            have HI := Aside0.mk hi
            have HKQ := Aside0.mk (⟨hkq, hile, hol⟩ : k1 + 1 + i = l0.length + 1 ∧ i ≤ l0.length ∧ out.length ≤ i)
            clear hkq hile hol HK hi ci p0 p1
            go_loopg [6, 7, 8] (l0.length + 1) (fun kq v6 v7 v8 w' => ∃ n : Nat, v8 = .int .i64 (n : Int) ∧ v6 = .int .i64 (oth L i n) ∧ v7 = .int .i64 (cntU L i n : Int) ∧ Aside0 (kq + n = l0.length + 1 ∧ n ≤ l0.length) ∧ Aside0 (Kd.R k49 49 w' w.heap.size (fun _ => True) u4 out) ∧ Aside0 (Below w.heap.size w w'))
            case atStart => exact ⟨0, rfl, rfl, by first | rfl | simp [cntU], ⟨rfl, Nat.zero_le _⟩, HO, HB⟩
            case round =>
              clear HO HB
              obtain ⟨n, rfl, rfl, rfl, HK2, HO, HB⟩ := hrel
              obtain ⟨hkq2, hnle⟩ := HK2.out
              cases gk with
              | zero => omega
              | succ k2 =>
              have p0 : ((0 : Int) ≤ (i : Int)) = True := eq_true (by omega)
              have p1 : ((i : Int) < (l0.length : Int)) = True := eq_true (by have := HI.out; omega)
              obtain ⟨ad', ead, hx0, hx1, hx2, hx3⟩ := at_T77 (Kd.C_below HR.out HB.out) (i : Int) (by omega) (by have := HI.out; omega)
              obtain rfl : ad = ad' := by injection ead
              clear ead
              simp only [Int.toNat_natCast] at hx0 hx1 hx2 hx3
              rw [← HPP.out] at hx0 hx1 hx2 hx3
              have hw := wnat n (by omega)
              have hcw := wnat (cntU L i n) (by have := cntU_le L i n; omega)
              by_cases hn : n < l0.length
              · have cn : decide ((n : Int) < (l0.length : Int)) = true := decide_eq_true (by omega)
                have q0 : ((0 : Int) ≤ (n : Int)) = True := eq_true (by omega)
                have q1 : ((n : Int) < (l0.length : Int)) = True := eq_true (by omega)
                obtain ⟨ad', ead, hy0, hy1, hy2, hy3⟩ := at_T77 (Kd.C_below HR.out HB.out) (n : Int) (by omega) (by omega)
                obtain rfl : ad = ad' := by injection ead
                clear ead
                simp only [Int.toNat_natCast] at hy0 hy1 hy2 hy3
                have HQ := hbk.out n hn
                obtain ⟨q, hq⟩ : ∃ q, q = rd_T77 l0 (n : Int) := ⟨_, rfl⟩
                rw [← hq] at hy0 hy1 hy2 hy3 HQ
                clear hq
                have hcs := Aside0.mk (cntU_succ L i n (by rw [hll.out]; exact hn))
                have hpkq : Aside0 (pk (gp L n) = q.f0.f2.data.toList ∧ pk (gp L i) = p.f0.f2.data.toList) := ⟨by rw [HQ, HP.out]; exact ⟨rfl, rfl⟩⟩
                clear HQ
                cases eq : (q.f0.f2.toList == p.f0.f2.toList)
                · have hne : Aside0 (pk (gp L n) ≠ pk (gp L i)) := ⟨by rw [hpkq.out.1, hpkq.out.2]; intro e; rw [ByteArray.toList_eq, ByteArray.toList_eq, e] at eq; simp at eq⟩
                  go_wp2
                  repeat (go_quiet (fail); try go_wp2)
                  go_roundg k2
                  case measure => omega
                  case rel =>
                    refine ⟨n + 1, ?_, ?_, ?_, ⟨by omega, by omega⟩, ?_, ?_⟩
                    · first | rfl | rw [hw] | (simp; done) | (have hw2 := hw; rw [i64_w] at hw2; rw [hw2]) | (have hw2 := hw; rw [i64_w] at hw2; simp [hw2])
                    · rw [oth_no L i n (fun h => hne.out h.2)]
                    · rw [hcs.out]; simp [hne.out]
                    · exact ⟨by repeat (first | exact HO.out | apply Kd.R_drewN | apply Kd.R_drew)⟩
                    · exact ⟨by repeat (first | exact HB.out | apply pw_below_drewN | apply below_drew1)⟩
                · have hye : Aside0 (pk (gp L n) = pk (gp L i)) := ⟨by rw [hpkq.out.1, hpkq.out.2, ← ByteArray.toList_eq, ← ByteArray.toList_eq]; simpa using eq⟩
                  by_cases en : n = i
                  · have hni : ((n : Int) != (i : Int)) = false := by simp [en]
                    have hoo := Aside0.mk (oth_no L i n (fun h => h.1 en))
                    clear en
                    go_wp2
                    repeat (go_quiet (fail); try go_wp2)
                    go_roundg k2
                    case measure => omega
                    case rel =>
                      refine ⟨n + 1, ?_, ?_, ?_, ⟨by omega, by omega⟩, ?_, ?_⟩
                      · first | rfl | rw [hw] | (simp; done) | (have hw2 := hw; rw [i64_w] at hw2; rw [hw2]) | (have hw2 := hw; rw [i64_w] at hw2; simp [hw2])
                      · rw [hoo.out]
                      · rw [hcs.out, hye.out]; simp only [beq_self_eq_true, if_true]; first | rfl | rw [hcw] | (simp; done) | (have hw2 := hcw; rw [i64_w] at hw2; rw [hw2]) | (have hw2 := hcw; rw [i64_w] at hw2; simp [hw2])
                      · exact ⟨by repeat (first | exact HO.out | apply Kd.R_drewN | apply Kd.R_drew)⟩
                      · exact ⟨by repeat (first | exact HB.out | apply pw_below_drewN | apply below_drew1)⟩
                  · have hni : ((n : Int) != (i : Int)) = true := bne_iff_ne.mpr (by omega)
                    have hoo := Aside0.mk (oth_yes L i n en hye.out)
                    clear en
                    go_wp2
                    repeat (go_quiet (fail); try go_wp2)
                    go_roundg k2
                    case measure => omega
                    case rel =>
                      refine ⟨n + 1, ?_, ?_, ?_, ⟨by omega, by omega⟩, ?_, ?_⟩
                      · first | rfl | rw [hw] | (simp; done) | (have hw2 := hw; rw [i64_w] at hw2; rw [hw2]) | (have hw2 := hw; rw [i64_w] at hw2; simp [hw2])
                      · rw [hoo.out]
                      · rw [hcs.out, hye.out]; simp only [beq_self_eq_true, if_true]; first | rfl | rw [hcw] | (simp; done) | (have hw2 := hcw; rw [i64_w] at hw2; rw [hw2]) | (have hw2 := hcw; rw [i64_w] at hw2; simp [hw2])
                      · exact ⟨by repeat (first | exact HO.out | apply Kd.R_drewN | apply Kd.R_drew)⟩
                      · exact ⟨by repeat (first | exact HB.out | apply pw_below_drewN | apply below_drew1)⟩
              · have cn : decide ((n : Int) < (l0.length : Int)) = false := decide_eq_false (by omega)
                have en : n = l0.length := by omega
                subst en
                clear hkq2 hnle HK2 hn hw hcw
                cases ec : ((cntU L i l0.length : Int) != 2)
                · have hc2 : Aside0 (cntU L i L.length = 2) := ⟨by have := bne_eq_false_iff_eq.mp ec; rw [hll.out]; omega⟩
                  have hoth := oth_two L i (by rw [hll.out]; exact HI.out) hc2.out
                  rw [hll.out] at hoth
                  obtain ⟨k, hk, hkl⟩ := hoth
                  have hothP : Aside0 (othP L i = gp L k) := ⟨by unfold othP; rw [hll.out, hk, Int.toNat_natCast]⟩
                  rw [hk]
                  clear hk
                  have q0 : ((0 : Int) ≤ (k : Int)) = True := eq_true (by omega)
                  have q1 : ((k : Int) < (l0.length : Int)) = True := eq_true (by omega)
                  obtain ⟨ad', ead, hy0, hy1, hy2, hy3⟩ := at_T77 (Kd.C_below HR.out HB.out) (k : Int) (by omega) (by omega)
                  obtain rfl : ad = ad' := by injection ead
                  clear ead
                  simp only [Int.toNat_natCast] at hy0 hy1 hy2 hy3
                  have HC := hbk.out k hkl
                  obtain ⟨c, hc⟩ : ∃ c, c = rd_T77 l0 (k : Int) := ⟨_, rfl⟩
                  rw [← hc] at hy0 hy1 hy2 hy3 HC
                  have HCC := Aside0.mk hc
                  clear hc
                  have hfc : Aside0 (fitsC (gp L i) (othP L i) = (c.f1 == wrap64 (-p.f1) && !(c.f0.f0.toList == p.f0.f0.toList))) := ⟨by rw [hothP.out, HC, HP.out]; rfl⟩
                  have hleg : Aside0 (legO L i = ⟨p.f0.f0, c.f0.f0, p.f0.f2, c.f1⟩) := ⟨by unfold legO; rw [hothP.out, HC, HP.out]; rfl⟩
                  have hbad : Aside0 (fitsC (gp L i) (othP L i) = false → r1 = [] ∧ r2 = 3) := ⟨fun e => HBAD.out (by unfold rstep stepOk; rw [if_pos hpk.out, if_neg (Int.not_lt.2 hneg.out), e, Bool.and_false, if_neg Bool.false_ne_true])⟩
                  clear HC hothP HBAD
                  cases e5 : (c.f1 != wrap64 (-p.f1))
                  · cases e6 : (c.f0.f0.toList == p.f0.f0.toList)
                    · have hst : Aside0 (rout L (i + 1) = some (insO (legO L i) out)) := ⟨by
                        rw [rout, HRO.out, Option.bind_some]
                        unfold rstep stepOk
                        have e5' : (c.f1 == wrap64 (-p.f1)) = true := by simpa using e5
                        rw [if_pos hpk.out, if_neg (Int.not_lt.2 hneg.out), hc2.out, hfc.out, e5', e6]
                        rfl⟩
                      clear hbad hfc hc2 HRO
                      go_wp2
                      repeat (go_quiet (fail); try go_wp2)
                      have HO2 : Aside0 (Kd.R k49 49 (wr.drewN nq) w.heap.size (fun _ => True) u4 out) := ⟨by repeat (first | exact HO.out | apply Kd.R_drewN | apply Kd.R_drew)⟩
                      have HB2 : Aside0 (Below w.heap.size w (wr.drewN nq)) := ⟨by repeat (first | exact HB.out | apply pw_below_drewN | apply below_drew1)⟩
                      clear HO HB hx0 hx1 hx2 hx3 hy0 hy1 hy2 hy3
                      generalize wr.drewN nq = w2 at HO2 HB2 ⊢
                      obtain ⟨ad', ead, hx0, hx1, hx2, hx3⟩ := at_T77 (Kd.C_below HR.out HB2.out) (i : Int) (by omega) (by have := HI.out; omega)
                      obtain rfl : ad = ad' := by injection ead
                      clear ead
                      simp only [Int.toNat_natCast] at hx0 hx1 hx2 hx3
                      rw [← HPP.out] at hx0 hx1 hx2 hx3
                      obtain ⟨ad', ead, hy0, hy1, hy2, hy3⟩ := at_T77 (Kd.C_below HR.out HB2.out) (k : Int) (by omega) (by omega)
                      obtain rfl : ad = ad' := by injection ead
                      clear ead
                      simp only [Int.toNat_natCast] at hy0 hy1 hy2 hy3
                      rw [← HCC.out] at hy0 hy1 hy2 hy3
                      clear hx1 hx3 hy1 hy2
                      go_region_held3 (fun w' => w'.cell? (ad.add (i * 4)) = some (.string p.f0.f0) ∧ w'.cell? ⟨(ad.add (i * 4)).block, (ad.add (i * 4)).off + 2, none⟩ = some (.string p.f0.f2) ∧ w'.cell? (ad.add (k * 4)) = some (.string c.f0.f0) ∧ w'.cell? ⟨(ad.add (k * 4)).block, (ad.add (k * 4)).off + 3, none⟩ = some (.int .i64 c.f1))
                        (first | go_keep | skip)
                        (first | fail)
                      have hleg2 := hleg
                      generalize hlg : legO L i = lg at hleg hst
                      obtain ⟨Ao, co, rfl⟩ := Kd.R_slice HO2.out
                      have HO3 := Aside0.mk (Kd.R_mono (ok' := fun k => k ≠ w2.heap.size) (Kd.R_below (Kd.R_bound HO2.out) (below_drew1 (below_alloc (Below.refl _ w2) (.cells #[.string p.f0.f0, .string c.f0.f0, .string p.f0.f2, .int .i64 c.f1] 49)))) (fun k hk => by have := hk.2.2.1; omega))
                      have HB3 := Aside0.mk (below_drew1 (below_alloc HB2.out (.cells #[.string p.f0.f0, .string c.f0.f0, .string p.f0.f2, .int .i64 c.f1] 49)))
                      have BL3 := Aside0.mk (blk_drew (heap_at w2 (.cells #[.string p.f0.f0, .string c.f0.f0, .string p.f0.f2, .int .i64 c.f1] 49) _ rfl))
                      have GL := Aside0.mk (below_size HB2.out)
                      rename_i hHeld_
                      clear hHeld_ HO2 HB2 hx0 hx2 hy0 hy3
                      generalize (w2.alloc (.cells #[.string p.f0.f0, .string c.f0.f0, .string p.f0.f2, .int .i64 c.f1] 49)).drew = w3 at HO3 HB3 BL3 ⊢
                      generalize w2.heap.size = gl at HO3 BL3 GL ⊢
                      go_wp2
                      go_loopg [10] (out.length + 1) (fun kq v10 w' => ∃ m : Nat, v10 = .int .i64 (m : Int) ∧ Aside0 (kq + m = out.length + 1 ∧ m ≤ (out.takeWhile (fun x => decide (rlk x < rlk lg))).length) ∧ Aside0 (Kd.R k49 49 w' w.heap.size (fun k => k ≠ gl) (.slice Ao out.length co) out) ∧ Aside0 (w'.heap[gl]? = some (.cells #[.string p.f0.f0, .string c.f0.f0, .string p.f0.f2, .int .i64 c.f1] 49)) ∧ Aside0 (Below w.heap.size w w'))
                      case atStart => exact ⟨0, rfl, ⟨rfl, Nat.zero_le _⟩, HO3, BL3, HB3⟩
                      case round =>
                        clear HO3 BL3 HB3
                        obtain ⟨m, rfl, HK3, HO, BL, HB⟩ := hrel
                        obtain ⟨hkq3, hmle⟩ := HK3.out
                        have htl := tw_le lg out
                        cases gk with
                        | zero => omega
                        | succ k3 =>
                        have hg2 : wr.cell? ⟨gl, 2, none⟩ = some (.string p.f0.f2) := (blk_cell BL.out 2).trans rfl
                        by_cases hm : m < out.length
                        · have cm : decide ((m : Int) < (out.length : Int)) = true := decide_eq_true (by omega)
                          have m0 : ((0 : Int) ≤ (m : Int)) = True := eq_true (by omega)
                          have m1 : ((m : Int) < (out.length : Int)) = True := eq_true (by omega)
                          obtain ⟨ado, eado, hz0, hz1, hz2, hz3⟩ := at_T49 (Kd.R_reads' HO.out).2.2 (m : Int) (by omega) (by omega)
                          subst eado
                          simp only [Int.toNat_natCast] at hz0 hz1 hz2 hz3
                          rw [rd_rl out m hm] at hz0 hz1 hz2 hz3
                          cases el : Op.bytesLess out[m].f2.toList p.f0.f2.toList
                          · have hmt : Aside0 (m = (out.takeWhile (fun x => decide (rlk x < rlk lg))).length) := ⟨tw_end lg out m hmle hm (by
                              rw [less_rlk out[m] lg p.f0.f2 (by rw [hleg.out])] at el
                              exact of_decide_eq_false el)⟩
                            go_wp2
                            repeat (go_quiet (fail); try go_wp2)
                            have HO5 := Aside0.mk (Kd.R_drewN HO.out nq)
                            have HB5 := Aside0.mk (pw_below_drewN HB.out nq)
                            have BL5 := Aside0.mk (blk_drewN BL.out nq)
                            try clear hz0 hz1 hz2 hz3
                            clear HO HB BL hg2
                            generalize wr.drewN nq = w5 at HO5 HB5 BL5 ⊢
                            have q0 : w5.cell? ⟨gl, 0, none⟩ = some (.string p.f0.f0) := (blk_cell BL5.out 0).trans rfl
                            have q1 : w5.cell? ⟨gl, 1, none⟩ = some (.string c.f0.f0) := (blk_cell BL5.out 1).trans rfl
                            have q2 : w5.cell? ⟨gl, 2, none⟩ = some (.string p.f0.f2) := (blk_cell BL5.out 2).trans rfl
                            have q3 : w5.cell? ⟨gl, 3, none⟩ = some (.int .i64 c.f1) := (blk_cell BL5.out 3).trans rfl
                            obtain ⟨i0q, hi0q, _, hszq, _⟩ := info_parts info49
                            have hco := (Kd.R_reads' HO5.out).2.1
                            have hml : m ≤ out.length := by omega
                            have hcutA := cut_to (P := Tryd.prog) 41 49 .i64 Tryd.underlying41 hi0q (some ado) out.length co (m : Int) (by omega) (by omega) hco
                            have hcutB := cut_from (P := Tryd.prog) 41 49 .i64 Tryd.underlying41 hi0q 4 hszq (some ado) out.length co (m : Int) (by omega) (by omega)
                            simp only [Int.toNat_natCast] at hcutA hcutB
                            obtain ⟨AT, hAT⟩ : ∃ AT, AT = (if co = m then (some ado) else (some ado).map (·.add (m * 4))) := ⟨_, rfl⟩
                            rw [← hAT] at hcutB
                            have HAT := Aside0.mk hAT
                            clear hAT
                            have hCA : Aside0 (∀ W, Kd.C k49 W (some ado) out.length out → Kd.C k49 W (some ado) m (out.take m)) := ⟨fun W h => by
                              have h2 := Kd.C_take (m := m) h hml
                              rwa [show (out.take m).length = m by rw [List.length_take]; omega] at h2⟩
                            have hCB : Aside0 (∀ W, Kd.C k49 W (some ado) out.length out → Kd.C k49 W AT (out.length - m) (out.drop m)) := ⟨fun W h => by
                              rw [HAT.out]
                              have h2 := Kd.C_drop (m := m) (c := co) h hml hco
                              rwa [show (out.drop m).length = out.length - m from List.length_drop] at h2⟩
                            have hm4 : Aside0 (m ≤ 4096 ∧ out.length ≤ 4096) := ⟨by have := HKQ.out; omega⟩
                            have hm4a : (([] : List RL).length + m) * 56 ≤ 140737488355328 := by have := hm4.out; simp only [List.length_nil]; omega
                            have hm4b : (([] ++ out.take m).length + 1) * 56 ≤ 140737488355328 := by have := hm4.out; rw [List.nil_append, List.length_take]; omega
                            have hm4c : (([] ++ out.take m ++ [(⟨p.f0.f0, c.f0.f0, p.f0.f2, c.f1⟩ : RL)]).length + (out.length - m)) * 56 ≤ 140737488355328 := by have := hm4.out; rw [List.nil_append, List.length_append, List.length_take, List.length_singleton]; omega
                            go_region_held3 (fun w' => w'.cell? ⟨gl, 0, none⟩ = some (.string p.f0.f0) ∧ w'.cell? ⟨gl, 1, none⟩ = some (.string c.f0.f0) ∧ w'.cell? ⟨gl, 2, none⟩ = some (.string p.f0.f2) ∧ w'.cell? ⟨gl, 3, none⟩ = some (.int .i64 c.f1))
                              (first | go_keep | (go_split_ands; refine ⟨?_, ?_, ?_, ?_⟩ <;> (refine pw_cell_below hbC ?_; assumption)) | (go_split_ands; refine ⟨?_, ?_, ?_, ?_⟩ <;> (refine pw_cell_below hbB ?_; assumption)) | (go_split_ands; refine ⟨?_, ?_, ?_, ?_⟩ <;> (refine pw_cell_below hbA ?_; assumption)))
                              (first
                                | ((refine Kd.R_append_rows_step k49 (w0 := w5) w5.heap.size (by rfl) (.tmp 149) (.tmp 152) 41 49 (.agg #[(.string ⟨#[]⟩), (.string ⟨#[]⟩), (.string ⟨#[]⟩), (.int .i64 0)]) 56 (by rfl) Tryd.underlying41 info49 rfl (by decide) (by omega) (.slice (some ⟨w5.heap.size, 0, none⟩) 0 0) [] (out.take m) _ _ _ (fun _ => True) (fun _ => False) (by rfl) (by rfl) (by first | exact lit_nil_R _ _ _ _ (Nat.le_refl _) | exact Kd.R_drew (lit_nil_R _ _ _ _ (Nat.le_refl _))) (hCA.out _ (Kd.R_reads' (Kd.R_below HO5.out (by first | exact below_drew1 (below_alloc (Below.refl _ _) _) | exact below_alloc (below_drew1 (Below.refl _ _)) _))).2.2) (fun _ _ h => h) (fun _ h => h.elim) (fun _ _ => trivial) (by first | exact below_drew1 (below_alloc (Below.refl _ _) _) | exact below_alloc (below_drew1 (Below.refl _ _)) _) (below_size (by first | exact below_drew1 (below_alloc (Below.refl _ _) _) | exact below_alloc (below_drew1 (Below.refl _ _)) _)) hm4a ?_); intro vA wA hoA hbA hgA hatA)
                                | ((refine Kd.R_append_rows_step k49 (w0 := w5) w5.heap.size (by rfl) (.tmp 149) (.tmp 152) 41 49 (.agg #[(.string ⟨#[]⟩), (.string ⟨#[]⟩), (.string ⟨#[]⟩), (.int .i64 0)]) 56 (by rfl) Tryd.underlying41 info49 rfl (by decide) (by omega) (.slice (some ⟨w5.heap.size, 0, none⟩) 0 0) [] (out.take m) _ _ _ (fun _ => True) (fun _ => False) (by rfl) (by rfl) (Kd.R_drew (Kd.R_alloc (lit_nil_R _ _ _ _ (Nat.le_refl _)) _)) (hCA.out _ (Kd.R_reads' (Kd.R_below HO5.out (below_drew1 (below_alloc (below_alloc (Below.refl _ _) _) _)))).2.2) (fun _ _ h => h) (fun _ h => h.elim) (fun _ _ => trivial) (below_drew1 (below_alloc (below_alloc (Below.refl _ _) _) _)) (below_size (below_drew1 (below_alloc (below_alloc (Below.refl _ _) _) _))) hm4a ?_); intro vA wA hoA hbA hgA hatA ; have hLA := Aside0.mk (show Kd.R k49 49 wA w5.heap.size (fun k => k = w5.heap.size + 1) (.slice (some ⟨w5.heap.size + 1, 0, none⟩) 1 1) [(⟨p.f0.f0, c.f0.f0, p.f0.f2, c.f1⟩ : RL)] from Kd.R_grown (Kd.R_drew (lit1_R (w5.alloc (.cells #[] 49)) w5.heap.size (w5.heap.size + 1) (sz_alloc _ _).symm (sz_le _ _) (⟨p.f0.f0, c.f0.f0, p.f0.f2, c.f1⟩ : RL))) hgA (fun k hk e => Nat.succ_ne_self w5.heap.size (hk.symm.trans (Option.some.inj e)))))
                                | ((refine Kd.R_append_rows_step k49 (w0 := w5) w5.heap.size (by rfl) (.tmp 149) (.tmp 152) 41 49 (.agg #[(.string ⟨#[]⟩), (.string ⟨#[]⟩), (.string ⟨#[]⟩), (.int .i64 0)]) 56 (by rfl) Tryd.underlying41 info49 rfl (by decide) (by omega) (.slice (some ⟨w5.heap.size + 1, 0, none⟩) 0 0) [] (out.take m) _ _ _ (fun _ => True) (fun _ => False) (by rfl) (by rfl) (Kd.R_drew (lit_nil_R' _ _ _ _ _ (sz_alloc _ _).symm (sz_le _ _))) (hCA.out _ (Kd.R_reads' (Kd.R_below HO5.out (below_drew1 (below_alloc (below_alloc (Below.refl _ _) _) _)))).2.2) (fun _ _ h => h) (fun _ h => h.elim) (fun _ _ => trivial) (below_drew1 (below_alloc (below_alloc (Below.refl _ _) _) _)) (below_size (below_drew1 (below_alloc (below_alloc (Below.refl _ _) _) _))) hm4a ?_); intro vA wA hoA hbA hgA hatA ; have hLA := Aside0.mk (show Kd.R k49 49 wA w5.heap.size (fun k => k = w5.heap.size) (.slice (some ⟨w5.heap.size, 0, none⟩) 1 1) [(⟨p.f0.f0, c.f0.f0, p.f0.f2, c.f1⟩ : RL)] from Kd.R_grown (Kd.R_drew (Kd.R_alloc (lit1_R w5 w5.heap.size w5.heap.size rfl (Nat.le_refl _) (⟨p.f0.f0, c.f0.f0, p.f0.f2, c.f1⟩ : RL)) _)) hgA (fun k hk e => Nat.succ_ne_self w5.heap.size ((Option.some.inj e).symm.trans hk))))
                                | ((refine Kd.R_append_step k49 (w0 := w5) w5.heap.size (by rfl) (.tmp 153) (.tmp 155) 41 49 (.agg #[(.string ⟨#[]⟩), (.string ⟨#[]⟩), (.string ⟨#[]⟩), (.int .i64 0)]) 56 (by rfl) Tryd.underlying41 info49 rfl (by decide) (by omega) vA ([] ++ out.take m) (⟨p.f0.f0, c.f0.f0, p.f0.f2, c.f1⟩ : RL) [.string p.f0.f0, .string c.f0.f0, .string p.f0.f2, .int .i64 c.f1] (fun _ => True) (fun _ => False) (by rfl) (by rfl) (k49_mkM _ _ _ (⟨p.f0.f0, c.f0.f0, p.f0.f2, c.f1⟩ : RL)) (fun _ h => h.elim) (fun _ _ => trivial) (by first | exact hoA | exact Kd.R_drew hoA) (by first | exact hbA | exact below_drew1 hbA) (below_size (by first | exact hbA | exact below_drew1 hbA)) hm4b ?_); intro vB wB hoB hbB hgB hatB)
                                | ((refine Kd.R_append_rows_step k49 (w0 := w5) w5.heap.size (by rfl) (.tmp 153) (.tmp 155) 41 49 (.agg #[(.string ⟨#[]⟩), (.string ⟨#[]⟩), (.string ⟨#[]⟩), (.int .i64 0)]) 56 (by rfl) Tryd.underlying41 info49 rfl (by decide) (by omega) vA ([] ++ out.take m) [(⟨p.f0.f0, c.f0.f0, p.f0.f2, c.f1⟩ : RL)] _ _ _ (fun _ => True) (fun _ => False) (by rfl) (by rfl) (by first | exact hoA | exact Kd.R_drew hoA) (by first | exact (Kd.R_reads' hLA.out).2.2 | exact (Kd.R_reads' (Kd.R_drew hLA.out)).2.2) (fun _ _ h => h) (fun _ h => h.elim) (fun _ _ => trivial) (by first | exact hbA | exact below_drew1 hbA) (below_size (by first | exact hbA | exact below_drew1 hbA)) hm4b ?_); intro vB wB hoB hbB hgB hatB)
                                | ((refine Kd.R_append_rows_step k49 (w0 := w5) w5.heap.size (by rfl) (.tmp 156) (.tmp 159) 41 49 (.agg #[(.string ⟨#[]⟩), (.string ⟨#[]⟩), (.string ⟨#[]⟩), (.int .i64 0)]) 56 (by rfl) Tryd.underlying41 info49 rfl (by decide) (by omega) vB ([] ++ out.take m ++ [(⟨p.f0.f0, c.f0.f0, p.f0.f2, c.f1⟩ : RL)]) (out.drop m) _ _ _ (fun _ => True) (fun _ => False) (by rfl) (by rfl) (by first | exact hoB | exact Kd.R_drew hoB) (hCB.out _ (Kd.R_reads' (Kd.R_below HO5.out (by first | exact hbB | exact below_drew1 hbB))).2.2) (fun _ _ h => h) (fun _ h => h.elim) (fun _ _ => trivial) (by first | exact hbB | exact below_drew1 hbB) (below_size (by first | exact hbB | exact below_drew1 hbB)) hm4c ?_); intro vC wC hoC hbC hgC hatC) | fail)
                            all_goals
                              have hins : Aside0 ([] ++ out.take m ++ [(⟨p.f0.f0, c.f0.f0, p.f0.f2, c.f1⟩ : RL)] ++ out.drop m = insO lg out) := ⟨by rw [List.nil_append, ← hleg.out]; exact tw_take lg out m hmt.out⟩
                              have HO6 := Aside0.mk (Kd.R_lower hoC (below_size HB5.out))
                              have HB6 := Aside0.mk (below_step HB5.out hbC)
                              have hw := wnat i (by have := HKQ.out; omega)
                              rename_i hHx_
                              clear hHx_ hoA hbA hgA hatA hoB hbB hgB hatB hoC hbC hgC hatC q0 q1 q2 q3 HO5 HB5 BL5 hcutA hcutB hCA hCB hm4a hm4b hm4c hco hml
                              go_wp2
                              go_roundg k1
                              case measure => omega
                              case rel =>
                                refine ⟨i + 1, insO lg out, ?_, ⟨by have := HKQ.out; omega, by have := HI.out; omega, by rw [(insO_perm _ _).length_eq, List.length_cons]; have := HKQ.out; omega⟩, hst, ⟨?_⟩, HB6⟩
                                · first | rfl | rw [hw] | (simp; done) | (have hw2 := hw; rw [i64_w] at hw2; rw [hw2]) | (have hw2 := hw; rw [i64_w] at hw2; simp [hw2])
                                · rw [← hins.out]; exact HO6.out
                          · have hmn := Aside0.mk (tw_step lg out m hmle hm (by
                              rw [less_rlk out[m] lg p.f0.f2 (by rw [hleg.out])] at el
                              exact of_decide_eq_true el))
                            have hw := wnat m (by have := HKQ.out; omega)
                            go_wp2
                            repeat (go_quiet (fail); try go_wp2)
                            go_roundg k3
                            case measure => omega
                            case rel =>
                              refine ⟨m + 1, ?_, ⟨by omega, hmn.out⟩, ?_, ?_, ?_⟩
                              · first | rfl | rw [hw] | (simp; done) | (have hw2 := hw; rw [i64_w] at hw2; rw [hw2]) | (have hw2 := hw; rw [i64_w] at hw2; simp [hw2])
                              · exact ⟨by repeat (first | exact HO.out | apply Kd.R_drewN | apply Kd.R_drew)⟩
                              · exact ⟨by repeat (first | exact BL.out | apply blk_drewN)⟩
                              · exact ⟨by repeat (first | exact HB.out | apply pw_below_drewN | apply below_drew1)⟩
                        · have cm : decide ((m : Int) < (out.length : Int)) = false := decide_eq_false (by omega)
                          have hmt : Aside0 (m = (out.takeWhile (fun x => decide (rlk x < rlk lg))).length) := ⟨by omega⟩
                          go_wp2
                          repeat (go_quiet (fail); try go_wp2)
                          have HO5 := Aside0.mk (Kd.R_drewN HO.out nq)
                          have HB5 := Aside0.mk (pw_below_drewN HB.out nq)
                          have BL5 := Aside0.mk (blk_drewN BL.out nq)
                          try clear hz0 hz1 hz2 hz3
                          clear HO HB BL hg2
                          generalize wr.drewN nq = w5 at HO5 HB5 BL5 ⊢
                          have q0 : w5.cell? ⟨gl, 0, none⟩ = some (.string p.f0.f0) := (blk_cell BL5.out 0).trans rfl
                          have q1 : w5.cell? ⟨gl, 1, none⟩ = some (.string c.f0.f0) := (blk_cell BL5.out 1).trans rfl
                          have q2 : w5.cell? ⟨gl, 2, none⟩ = some (.string p.f0.f2) := (blk_cell BL5.out 2).trans rfl
                          have q3 : w5.cell? ⟨gl, 3, none⟩ = some (.int .i64 c.f1) := (blk_cell BL5.out 3).trans rfl
                          obtain ⟨i0q, hi0q, _, hszq, _⟩ := info_parts info49
                          have hco := (Kd.R_reads' HO5.out).2.1
                          have hml : m ≤ out.length := by omega
                          have hcutA := cut_to (P := Tryd.prog) 41 49 .i64 Tryd.underlying41 hi0q Ao out.length co (m : Int) (by omega) (by omega) hco
                          have hcutB := cut_from (P := Tryd.prog) 41 49 .i64 Tryd.underlying41 hi0q 4 hszq Ao out.length co (m : Int) (by omega) (by omega)
                          simp only [Int.toNat_natCast] at hcutA hcutB
                          obtain ⟨AT, hAT⟩ : ∃ AT, AT = (if co = m then Ao else Ao.map (·.add (m * 4))) := ⟨_, rfl⟩
                          rw [← hAT] at hcutB
                          have HAT := Aside0.mk hAT
                          clear hAT
                          have hCA : Aside0 (∀ W, Kd.C k49 W Ao out.length out → Kd.C k49 W Ao m (out.take m)) := ⟨fun W h => by
                            have h2 := Kd.C_take (m := m) h hml
                            rwa [show (out.take m).length = m by rw [List.length_take]; omega] at h2⟩
                          have hCB : Aside0 (∀ W, Kd.C k49 W Ao out.length out → Kd.C k49 W AT (out.length - m) (out.drop m)) := ⟨fun W h => by
                            rw [HAT.out]
                            have h2 := Kd.C_drop (m := m) (c := co) h hml hco
                            rwa [show (out.drop m).length = out.length - m from List.length_drop] at h2⟩
                          have hm4 : Aside0 (m ≤ 4096 ∧ out.length ≤ 4096) := ⟨by have := HKQ.out; omega⟩
                          have hm4a : (([] : List RL).length + m) * 56 ≤ 140737488355328 := by have := hm4.out; simp only [List.length_nil]; omega
                          have hm4b : (([] ++ out.take m).length + 1) * 56 ≤ 140737488355328 := by have := hm4.out; rw [List.nil_append, List.length_take]; omega
                          have hm4c : (([] ++ out.take m ++ [(⟨p.f0.f0, c.f0.f0, p.f0.f2, c.f1⟩ : RL)]).length + (out.length - m)) * 56 ≤ 140737488355328 := by have := hm4.out; rw [List.nil_append, List.length_append, List.length_take, List.length_singleton]; omega
                          go_region_held3 (fun w' => w'.cell? ⟨gl, 0, none⟩ = some (.string p.f0.f0) ∧ w'.cell? ⟨gl, 1, none⟩ = some (.string c.f0.f0) ∧ w'.cell? ⟨gl, 2, none⟩ = some (.string p.f0.f2) ∧ w'.cell? ⟨gl, 3, none⟩ = some (.int .i64 c.f1))
                            (first | go_keep | (go_split_ands; refine ⟨?_, ?_, ?_, ?_⟩ <;> (refine pw_cell_below hbC ?_; assumption)) | (go_split_ands; refine ⟨?_, ?_, ?_, ?_⟩ <;> (refine pw_cell_below hbB ?_; assumption)) | (go_split_ands; refine ⟨?_, ?_, ?_, ?_⟩ <;> (refine pw_cell_below hbA ?_; assumption)))
                            (first
                              | ((refine Kd.R_append_rows_step k49 (w0 := w5) w5.heap.size (by rfl) (.tmp 149) (.tmp 152) 41 49 (.agg #[(.string ⟨#[]⟩), (.string ⟨#[]⟩), (.string ⟨#[]⟩), (.int .i64 0)]) 56 (by rfl) Tryd.underlying41 info49 rfl (by decide) (by omega) (.slice (some ⟨w5.heap.size, 0, none⟩) 0 0) [] (out.take m) _ _ _ (fun _ => True) (fun _ => False) (by rfl) (by rfl) (by first | exact lit_nil_R _ _ _ _ (Nat.le_refl _) | exact Kd.R_drew (lit_nil_R _ _ _ _ (Nat.le_refl _))) (hCA.out _ (Kd.R_reads' (Kd.R_below HO5.out (by first | exact below_drew1 (below_alloc (Below.refl _ _) _) | exact below_alloc (below_drew1 (Below.refl _ _)) _))).2.2) (fun _ _ h => h) (fun _ h => h.elim) (fun _ _ => trivial) (by first | exact below_drew1 (below_alloc (Below.refl _ _) _) | exact below_alloc (below_drew1 (Below.refl _ _)) _) (below_size (by first | exact below_drew1 (below_alloc (Below.refl _ _) _) | exact below_alloc (below_drew1 (Below.refl _ _)) _)) hm4a ?_); intro vA wA hoA hbA hgA hatA)
                              | ((refine Kd.R_append_rows_step k49 (w0 := w5) w5.heap.size (by rfl) (.tmp 149) (.tmp 152) 41 49 (.agg #[(.string ⟨#[]⟩), (.string ⟨#[]⟩), (.string ⟨#[]⟩), (.int .i64 0)]) 56 (by rfl) Tryd.underlying41 info49 rfl (by decide) (by omega) (.slice (some ⟨w5.heap.size, 0, none⟩) 0 0) [] (out.take m) _ _ _ (fun _ => True) (fun _ => False) (by rfl) (by rfl) (Kd.R_drew (Kd.R_alloc (lit_nil_R _ _ _ _ (Nat.le_refl _)) _)) (hCA.out _ (Kd.R_reads' (Kd.R_below HO5.out (below_drew1 (below_alloc (below_alloc (Below.refl _ _) _) _)))).2.2) (fun _ _ h => h) (fun _ h => h.elim) (fun _ _ => trivial) (below_drew1 (below_alloc (below_alloc (Below.refl _ _) _) _)) (below_size (below_drew1 (below_alloc (below_alloc (Below.refl _ _) _) _))) hm4a ?_); intro vA wA hoA hbA hgA hatA ; have hLA := Aside0.mk (show Kd.R k49 49 wA w5.heap.size (fun k => k = w5.heap.size + 1) (.slice (some ⟨w5.heap.size + 1, 0, none⟩) 1 1) [(⟨p.f0.f0, c.f0.f0, p.f0.f2, c.f1⟩ : RL)] from Kd.R_grown (Kd.R_drew (lit1_R (w5.alloc (.cells #[] 49)) w5.heap.size (w5.heap.size + 1) (sz_alloc _ _).symm (sz_le _ _) (⟨p.f0.f0, c.f0.f0, p.f0.f2, c.f1⟩ : RL))) hgA (fun k hk e => Nat.succ_ne_self w5.heap.size (hk.symm.trans (Option.some.inj e)))))
                              | ((refine Kd.R_append_rows_step k49 (w0 := w5) w5.heap.size (by rfl) (.tmp 149) (.tmp 152) 41 49 (.agg #[(.string ⟨#[]⟩), (.string ⟨#[]⟩), (.string ⟨#[]⟩), (.int .i64 0)]) 56 (by rfl) Tryd.underlying41 info49 rfl (by decide) (by omega) (.slice (some ⟨w5.heap.size + 1, 0, none⟩) 0 0) [] (out.take m) _ _ _ (fun _ => True) (fun _ => False) (by rfl) (by rfl) (Kd.R_drew (lit_nil_R' _ _ _ _ _ (sz_alloc _ _).symm (sz_le _ _))) (hCA.out _ (Kd.R_reads' (Kd.R_below HO5.out (below_drew1 (below_alloc (below_alloc (Below.refl _ _) _) _)))).2.2) (fun _ _ h => h) (fun _ h => h.elim) (fun _ _ => trivial) (below_drew1 (below_alloc (below_alloc (Below.refl _ _) _) _)) (below_size (below_drew1 (below_alloc (below_alloc (Below.refl _ _) _) _))) hm4a ?_); intro vA wA hoA hbA hgA hatA ; have hLA := Aside0.mk (show Kd.R k49 49 wA w5.heap.size (fun k => k = w5.heap.size) (.slice (some ⟨w5.heap.size, 0, none⟩) 1 1) [(⟨p.f0.f0, c.f0.f0, p.f0.f2, c.f1⟩ : RL)] from Kd.R_grown (Kd.R_drew (Kd.R_alloc (lit1_R w5 w5.heap.size w5.heap.size rfl (Nat.le_refl _) (⟨p.f0.f0, c.f0.f0, p.f0.f2, c.f1⟩ : RL)) _)) hgA (fun k hk e => Nat.succ_ne_self w5.heap.size ((Option.some.inj e).symm.trans hk))))
                              | ((refine Kd.R_append_step k49 (w0 := w5) w5.heap.size (by rfl) (.tmp 153) (.tmp 155) 41 49 (.agg #[(.string ⟨#[]⟩), (.string ⟨#[]⟩), (.string ⟨#[]⟩), (.int .i64 0)]) 56 (by rfl) Tryd.underlying41 info49 rfl (by decide) (by omega) vA ([] ++ out.take m) (⟨p.f0.f0, c.f0.f0, p.f0.f2, c.f1⟩ : RL) [.string p.f0.f0, .string c.f0.f0, .string p.f0.f2, .int .i64 c.f1] (fun _ => True) (fun _ => False) (by rfl) (by rfl) (k49_mkM _ _ _ (⟨p.f0.f0, c.f0.f0, p.f0.f2, c.f1⟩ : RL)) (fun _ h => h.elim) (fun _ _ => trivial) (by first | exact hoA | exact Kd.R_drew hoA) (by first | exact hbA | exact below_drew1 hbA) (below_size (by first | exact hbA | exact below_drew1 hbA)) hm4b ?_); intro vB wB hoB hbB hgB hatB)
                              | ((refine Kd.R_append_rows_step k49 (w0 := w5) w5.heap.size (by rfl) (.tmp 153) (.tmp 155) 41 49 (.agg #[(.string ⟨#[]⟩), (.string ⟨#[]⟩), (.string ⟨#[]⟩), (.int .i64 0)]) 56 (by rfl) Tryd.underlying41 info49 rfl (by decide) (by omega) vA ([] ++ out.take m) [(⟨p.f0.f0, c.f0.f0, p.f0.f2, c.f1⟩ : RL)] _ _ _ (fun _ => True) (fun _ => False) (by rfl) (by rfl) (by first | exact hoA | exact Kd.R_drew hoA) (by first | exact (Kd.R_reads' hLA.out).2.2 | exact (Kd.R_reads' (Kd.R_drew hLA.out)).2.2) (fun _ _ h => h) (fun _ h => h.elim) (fun _ _ => trivial) (by first | exact hbA | exact below_drew1 hbA) (below_size (by first | exact hbA | exact below_drew1 hbA)) hm4b ?_); intro vB wB hoB hbB hgB hatB)
                              | ((refine Kd.R_append_rows_step k49 (w0 := w5) w5.heap.size (by rfl) (.tmp 156) (.tmp 159) 41 49 (.agg #[(.string ⟨#[]⟩), (.string ⟨#[]⟩), (.string ⟨#[]⟩), (.int .i64 0)]) 56 (by rfl) Tryd.underlying41 info49 rfl (by decide) (by omega) vB ([] ++ out.take m ++ [(⟨p.f0.f0, c.f0.f0, p.f0.f2, c.f1⟩ : RL)]) (out.drop m) _ _ _ (fun _ => True) (fun _ => False) (by rfl) (by rfl) (by first | exact hoB | exact Kd.R_drew hoB) (hCB.out _ (Kd.R_reads' (Kd.R_below HO5.out (by first | exact hbB | exact below_drew1 hbB))).2.2) (fun _ _ h => h) (fun _ h => h.elim) (fun _ _ => trivial) (by first | exact hbB | exact below_drew1 hbB) (below_size (by first | exact hbB | exact below_drew1 hbB)) hm4c ?_); intro vC wC hoC hbC hgC hatC) | fail)
                          all_goals
                            have hins : Aside0 ([] ++ out.take m ++ [(⟨p.f0.f0, c.f0.f0, p.f0.f2, c.f1⟩ : RL)] ++ out.drop m = insO lg out) := ⟨by rw [List.nil_append, ← hleg.out]; exact tw_take lg out m hmt.out⟩
                            have HO6 := Aside0.mk (Kd.R_lower hoC (below_size HB5.out))
                            have HB6 := Aside0.mk (below_step HB5.out hbC)
                            have hw := wnat i (by have := HKQ.out; omega)
                            rename_i hHx_
                            clear hHx_ hoA hbA hgA hatA hoB hbB hgB hatB hoC hbC hgC hatC q0 q1 q2 q3 HO5 HB5 BL5 hcutA hcutB hCA hCB hm4a hm4b hm4c hco hml
                            go_wp2
                            go_roundg k1
                            case measure => omega
                            case rel =>
                              refine ⟨i + 1, insO lg out, ?_, ⟨by have := HKQ.out; omega, by have := HI.out; omega, by rw [(insO_perm _ _).length_eq, List.length_cons]; have := HKQ.out; omega⟩, hst, ⟨?_⟩, HB6⟩
                              · first | rfl | rw [hw] | (simp; done) | (have hw2 := hw; rw [i64_w] at hw2; rw [hw2]) | (have hw2 := hw; rw [i64_w] at hw2; simp [hw2])
                              · rw [← hins.out]; exact HO6.out
                    · have HFf := hbad.out (by rw [hfc.out, e6, Bool.not_true, Bool.and_false])
                      clear HF hbad hfc
                      go_wp2
                      repeat (go_quiet (fail); try go_wp2)
                      exact bodyPost_ret (v := .tuple #[.slice none 0 0, .int .i64 3]) (by simp [results, Tryd.results16, go_sem]) rfl ⟨_, by first | rfl | rw [HFf.2], by first | exact Kd.R_nil _ _ _ _ _ | (rw [HFf.1]; exact Kd.R_nil _ _ _ _ _), by repeat (first | exact HB.out | apply pw_below_drewN | apply below_drew1)⟩
                  · have HFf := hbad.out (by rw [hfc.out]; have : (c.f1 == wrap64 (-p.f1)) = false := (by simpa using e5); rw [this, Bool.false_and])
                    clear HF hbad hfc
                    go_wp2
                    repeat (go_quiet (fail); try go_wp2)
                    exact bodyPost_ret (v := .tuple #[.slice none 0 0, .int .i64 3]) (by simp [results, Tryd.results16, go_sem]) rfl ⟨_, by first | rfl | rw [HFf.2], by first | exact Kd.R_nil _ _ _ _ _ | (rw [HFf.1]; exact Kd.R_nil _ _ _ _ _), by repeat (first | exact HB.out | apply pw_below_drewN | apply below_drew1)⟩
                · have HFf := HBAD.out (by
                    unfold rstep stepOk
                    rw [if_pos hpk.out, if_neg (Int.not_lt.2 hneg.out), if_neg]
                    rw [hll.out, Bool.and_eq_true, beq_iff_eq]
                    intro e
                    have := bne_iff_ne.mp ec
                    omega)
                  clear HF HBAD
                  go_wp2
                  repeat (go_quiet (fail); try go_wp2)
                  exact bodyPost_ret (v := .tuple #[.slice none 0 0, .int .i64 3]) (by simp [results, Tryd.results16, go_sem]) rfl ⟨_, by first | rfl | rw [HFf.2], by first | exact Kd.R_nil _ _ _ _ _ | (rw [HFf.1]; exact Kd.R_nil _ _ _ _ _), by repeat (first | exact HB.out | apply pw_below_drewN | apply below_drew1)⟩
          · have HFf := HBAD.out (by unfold rstep; rw [hpok.out, e1, e2]; have : (p.f0.f1 == 0) = false := (by simpa using e3); rw [this]; rfl)
            clear HF
            go_wp2_with (first | (go_at_call 35; refine (rwithin_c _ _).mono ?_; rintro e w6 ⟨rfl, rfl⟩))
            exact bodyPost_ret (v := .tuple #[.slice none 0 0, .int .i64 3]) (by simp [results, Tryd.results16, go_sem]) rfl ⟨_, by first | rfl | rw [HFf.2], by first | exact Kd.R_nil _ _ _ _ _ | (rw [HFf.1]; exact Kd.R_nil _ _ _ _ _), HB.out⟩
        · have HFf := HBAD.out (by unfold rstep; rw [hpok.out, e1, e2]; rfl)
          clear HF
          go_wp2_with (first | (go_at_call 35; refine (rwithin_c _ _).mono ?_; rintro e w6 ⟨rfl, rfl⟩))
          exact bodyPost_ret (v := .tuple #[.slice none 0 0, .int .i64 3]) (by simp [results, Tryd.results16, go_sem]) rfl ⟨_, by first | rfl | rw [HFf.2], by first | exact Kd.R_nil _ _ _ _ _ | (rw [HFf.1]; exact Kd.R_nil _ _ _ _ _), HB.out⟩
    · have ci : decide ((i : Int) < (l0.length : Int)) = false := decide_eq_false (by omega)
      have ei : i = l0.length := by omega
      subst ei
      have hend : Aside0 ((if 2 * out.length = l0.length then (out, (0 : Int)) else ([], 3)) = (r1, r2)) := ⟨by
        have h := HF.out
        unfold endR at h
        rw [hll.out, HRO.out] at h
        exact h⟩
      obtain ⟨Ao, co, rfl⟩ := Kd.R_slice HO.out
      have hwm : wrap64 (2 * (out.length : Int)) = ((2 * out.length : Nat) : Int) := by unfold wrap64; omega
      clear hkq hile hol HK hi HF HRO
      by_cases hz : 2 * out.length = l0.length
      · have hzb : (((2 * out.length : Nat) : Int) != (l0.length : Int)) = false := by simp [hz]
        have hrr := hend.out
        rw [if_pos hz] at hrr
        obtain ⟨rfl, rfl⟩ := Prod.mk.inj hrr
        clear hend hrr hz
        go_wp2
        exact bodyPost_ret (v := .tuple #[_, .int .i64 0]) (by simp [results, Tryd.results16, go_sem]) rfl ⟨_, rfl, HO.out, HB.out⟩
      · have hzb : (((2 * out.length : Nat) : Int) != (l0.length : Int)) = true := bne_iff_ne.mpr (by omega)
        have hrr := hend.out
        rw [if_neg hz] at hrr
        obtain ⟨rfl, rfl⟩ := Prod.mk.inj hrr
        clear hend hrr hz
        go_wp2
        exact bodyPost_ret (v := .tuple #[.slice none 0 0, .int .i64 3]) (by simp [results, Tryd.results16, go_sem]) rfl ⟨_, rfl, Kd.R_nil _ _ _ _ _, HB.out⟩
end Go.Proofs.YtpclapnmiacfpaaDoor.Q
end
