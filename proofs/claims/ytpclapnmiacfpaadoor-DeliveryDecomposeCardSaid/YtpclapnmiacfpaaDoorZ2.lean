/- Lemmas for the card of DeliveryDecompose: contracts of the functions that the law reaches. Conditions: each lemma's own. Laid together out of this session's texts. -/
import Derived.Test.YtpclapnmiacfpaaDoorZ1
import Derived.Deep.LoopGhost
import Derived.Shelf.SlIter.Nil
import Derived.Shelf.SortM.Plain
import Derived.Shelf.SortM.SortNone
import Derived.Ground.GgzProg
import Derived.Ground.SlgmProg
import Derived.Test.YtpclapnmiacfpaaDoorProg
set_option linter.unusedVariables false
set_option linter.unusedSimpArgs false
section
namespace Go.Proofs.YtpclapnmiacfpaaDoor.Q
open Go.RowKit Go.Proofs.YtpclapnmiacfpaaDoorW.PrintWords Go.Proofs.YtpclapnmiacfpaaDoorW.PrintLast Go.Proofs.YtpclapnmiacfpaaDoorW.PrintMore
attribute [local go_sem] max2_int min2_int max_two min_two max_three min_three max_four min_four
set_option linter.unusedVariables false
set_option linter.unusedSimpArgs false
mutual
def matching_Trade_Check.j0 : Nat → Bool → Int → ByteArray → ByteArray → ByteArray → Int → Int → Int → Int → Int → Bool → Int → ByteArray → ByteArray → Option (Int)
 | 0, _, _, _, _, _, _, _, _, _, _, _, _, _, _ => none
 | k + 1, x5, x319000, x319001, x319002, x319003, x319004, x319005, x319006, x319007, x319008, x319009, x319010, x319011, x319012 => if x5 = true then (some 11) else ((matching_Trade_Check_1.f x319001).bind fun t319 => (if t319 = true then ((matching_Trade_Check_1.f x319002).bind fun t320 => (matching_Trade_Check.j1 k (!t320) x319000 x319001 x319002 x319003 x319004 x319005 x319006 x319007 x319008 x319009 x319010 x319011 x319012)) else (matching_Trade_Check.j1 k true x319000 x319001 x319002 x319003 x319004 x319005 x319006 x319007 x319008 x319009 x319010 x319011 x319012)))
def matching_Trade_Check.j1 : Nat → Bool → Int → ByteArray → ByteArray → ByteArray → Int → Int → Int → Int → Int → Bool → Int → ByteArray → ByteArray → Option (Int)
 | 0, _, _, _, _, _, _, _, _, _, _, _, _, _, _ => none
 | k + 1, x14, x319000, x319001, x319002, x319003, x319004, x319005, x319006, x319007, x319008, x319009, x319010, x319011, x319012 => if x14 = true then (some 6) else (if x319001.toList = x319002.toList then (some 1) else ((ident_Valid.f 0 x319003).bind fun t321 => (if t321 = true then ((matching_within.f x319004 1 1000000000000000).bind fun t322 => (if t322 = true then (if x319000 = 1 then ((matching_within.f x319005 1 1000000000000000).bind fun t323 => (matching_Trade_Check.j2 k (!t323) x319000 x319001 x319002 x319003 x319004 x319005 x319006 x319007 x319008 x319009 x319010 x319011 x319012)) else (matching_Trade_Check.j2 k false x319000 x319001 x319002 x319003 x319004 x319005 x319006 x319007 x319008 x319009 x319010 x319011 x319012)) else (some 2))) else (some 6))))
def matching_Trade_Check.j2 : Nat → Bool → Int → ByteArray → ByteArray → ByteArray → Int → Int → Int → Int → Int → Bool → Int → ByteArray → ByteArray → Option (Int)
 | 0, _, _, _, _, _, _, _, _, _, _, _, _, _, _ => none
 | k + 1, x43, x319000, x319001, x319002, x319003, x319004, x319005, x319006, x319007, x319008, x319009, x319010, x319011, x319012 => if x43 = true then (matching_Trade_Check.j3 k x43 x319000 x319001 x319002 x319003 x319004 x319005 x319006 x319007 x319008 x319009 x319010 x319011 x319012) else (if x319000 = 2 then (matching_Trade_Check.j3 k (x319005 != 0) x319000 x319001 x319002 x319003 x319004 x319005 x319006 x319007 x319008 x319009 x319010 x319011 x319012) else (matching_Trade_Check.j3 k false x319000 x319001 x319002 x319003 x319004 x319005 x319006 x319007 x319008 x319009 x319010 x319011 x319012))
def matching_Trade_Check.j3 : Nat → Bool → Int → ByteArray → ByteArray → ByteArray → Int → Int → Int → Int → Int → Bool → Int → ByteArray → ByteArray → Option (Int)
 | 0, _, _, _, _, _, _, _, _, _, _, _, _, _, _ => none
 | k + 1, x43, x319000, x319001, x319002, x319003, x319004, x319005, x319006, x319007, x319008, x319009, x319010, x319011, x319012 => if x43 = true then (some 2) else (if x319007 < 0 then (matching_Trade_Check.j4 k true x319000 x319001 x319002 x319003 x319004 x319005 x319006 x319007 x319008 x319009 x319010 x319011 x319012) else (if x319007 > 73048 then (matching_Trade_Check.j4 k true x319000 x319001 x319002 x319003 x319004 x319005 x319006 x319007 x319008 x319009 x319010 x319011 x319012) else (if x319006 < 0 then (matching_Trade_Check.j4 k true x319000 x319001 x319002 x319003 x319004 x319005 x319006 x319007 x319008 x319009 x319010 x319011 x319012) else (matching_Trade_Check.j4 k (decide (x319006 > x319007)) x319000 x319001 x319002 x319003 x319004 x319005 x319006 x319007 x319008 x319009 x319010 x319011 x319012))))
def matching_Trade_Check.j4 : Nat → Bool → Int → ByteArray → ByteArray → ByteArray → Int → Int → Int → Int → Int → Bool → Int → ByteArray → ByteArray → Option (Int)
 | 0, _, _, _, _, _, _, _, _, _, _, _, _, _, _ => none
 | k + 1, x61, x319000, x319001, x319002, x319003, x319004, x319005, x319006, x319007, x319008, x319009, x319010, x319011, x319012 => if x61 = true then (some 28) else (if x319008 < 0 then (matching_Trade_Check.j5 k true x319000 x319001 x319002 x319003 x319004 x319005 x319006 x319007 x319008 x319009 x319010 x319011 x319012) else (matching_Trade_Check.j5 k (decide (x319008 > 2)) x319000 x319001 x319002 x319003 x319004 x319005 x319006 x319007 x319008 x319009 x319010 x319011 x319012))
def matching_Trade_Check.j5 : Nat → Bool → Int → ByteArray → ByteArray → ByteArray → Int → Int → Int → Int → Int → Bool → Int → ByteArray → ByteArray → Option (Int)
 | 0, _, _, _, _, _, _, _, _, _, _, _, _, _, _ => none
 | k + 1, x82, x319000, x319001, x319002, x319003, x319004, x319005, x319006, x319007, x319008, x319009, x319010, x319011, x319012 => if x82 = true then (some 2) else (if x319009 = true then ((matching_within.f x319010 1 x319004).bind fun t324 => (matching_Trade_Check.j6 k (!t324) x319000 x319001 x319002 x319003 x319004 x319005 x319006 x319007 x319008 x319009 x319010 x319011 x319012)) else (matching_Trade_Check.j6 k false x319000 x319001 x319002 x319003 x319004 x319005 x319006 x319007 x319008 x319009 x319010 x319011 x319012))
def matching_Trade_Check.j6 : Nat → Bool → Int → ByteArray → ByteArray → ByteArray → Int → Int → Int → Int → Int → Bool → Int → ByteArray → ByteArray → Option (Int)
 | 0, _, _, _, _, _, _, _, _, _, _, _, _, _, _ => none
 | k + 1, x91, x319000, x319001, x319002, x319003, x319004, x319005, x319006, x319007, x319008, x319009, x319010, x319011, x319012 => if x91 = true then (matching_Trade_Check.j7 k x91 x319000 x319001 x319002 x319003 x319004 x319005 x319006 x319007 x319008 x319009 x319010 x319011 x319012) else (if x319009 = true then (matching_Trade_Check.j7 k false x319000 x319001 x319002 x319003 x319004 x319005 x319006 x319007 x319008 x319009 x319010 x319011 x319012) else (matching_Trade_Check.j7 k (x319010 != 0) x319000 x319001 x319002 x319003 x319004 x319005 x319006 x319007 x319008 x319009 x319010 x319011 x319012))
def matching_Trade_Check.j7 : Nat → Bool → Int → ByteArray → ByteArray → ByteArray → Int → Int → Int → Int → Int → Bool → Int → ByteArray → ByteArray → Option (Int)
 | 0, _, _, _, _, _, _, _, _, _, _, _, _, _, _ => none
 | k + 1, x91, x319000, x319001, x319002, x319003, x319004, x319005, x319006, x319007, x319008, x319009, x319010, x319011, x319012 => if x91 = true then (some 2) else ((matching_Trade_Check_2.f x319011).bind fun t325 => (if t325 = true then ((matching_Trade_Check_2.f x319012).bind fun t326 => (if t326 = true then (some 0) else (some 6))) else (some 6)))
end
def matching_Trade_Check.f (k : Nat) (a0_0 : Int) (a0_1 : ByteArray) (a0_2 : ByteArray) (a0_3 : ByteArray) (a0_4 : Int) (a0_5 : Int) (a0_6 : Int) (a0_7 : Int) (a0_8 : Int) (a0_9 : Bool) (a0_10 : Int) (a0_11 : ByteArray) (a0_12 : ByteArray) : Option (Int) := if a0_0 = 1 then (matching_Trade_Check.j0 k false a0_0 a0_1 a0_2 a0_3 a0_4 a0_5 a0_6 a0_7 a0_8 a0_9 a0_10 a0_11 a0_12) else (matching_Trade_Check.j0 k (a0_0 != 2) a0_0 a0_1 a0_2 a0_3 a0_4 a0_5 a0_6 a0_7 a0_8 a0_9 a0_10 a0_11 a0_12)
theorem matching_Trade_Check.mono_l : ∀ k, (∀ y0 y1 y2 y3 y4 y5 y6 y7 y8 y9 y10 y11 y12 y13, LeO (matching_Trade_Check.j0 k y0 y1 y2 y3 y4 y5 y6 y7 y8 y9 y10 y11 y12 y13) (matching_Trade_Check.j0 (k + 1) y0 y1 y2 y3 y4 y5 y6 y7 y8 y9 y10 y11 y12 y13)) ∧ (∀ y0 y1 y2 y3 y4 y5 y6 y7 y8 y9 y10 y11 y12 y13, LeO (matching_Trade_Check.j1 k y0 y1 y2 y3 y4 y5 y6 y7 y8 y9 y10 y11 y12 y13) (matching_Trade_Check.j1 (k + 1) y0 y1 y2 y3 y4 y5 y6 y7 y8 y9 y10 y11 y12 y13)) ∧ (∀ y0 y1 y2 y3 y4 y5 y6 y7 y8 y9 y10 y11 y12 y13, LeO (matching_Trade_Check.j2 k y0 y1 y2 y3 y4 y5 y6 y7 y8 y9 y10 y11 y12 y13) (matching_Trade_Check.j2 (k + 1) y0 y1 y2 y3 y4 y5 y6 y7 y8 y9 y10 y11 y12 y13)) ∧ (∀ y0 y1 y2 y3 y4 y5 y6 y7 y8 y9 y10 y11 y12 y13, LeO (matching_Trade_Check.j3 k y0 y1 y2 y3 y4 y5 y6 y7 y8 y9 y10 y11 y12 y13) (matching_Trade_Check.j3 (k + 1) y0 y1 y2 y3 y4 y5 y6 y7 y8 y9 y10 y11 y12 y13)) ∧ (∀ y0 y1 y2 y3 y4 y5 y6 y7 y8 y9 y10 y11 y12 y13, LeO (matching_Trade_Check.j4 k y0 y1 y2 y3 y4 y5 y6 y7 y8 y9 y10 y11 y12 y13) (matching_Trade_Check.j4 (k + 1) y0 y1 y2 y3 y4 y5 y6 y7 y8 y9 y10 y11 y12 y13)) ∧ (∀ y0 y1 y2 y3 y4 y5 y6 y7 y8 y9 y10 y11 y12 y13, LeO (matching_Trade_Check.j5 k y0 y1 y2 y3 y4 y5 y6 y7 y8 y9 y10 y11 y12 y13) (matching_Trade_Check.j5 (k + 1) y0 y1 y2 y3 y4 y5 y6 y7 y8 y9 y10 y11 y12 y13)) ∧ (∀ y0 y1 y2 y3 y4 y5 y6 y7 y8 y9 y10 y11 y12 y13, LeO (matching_Trade_Check.j6 k y0 y1 y2 y3 y4 y5 y6 y7 y8 y9 y10 y11 y12 y13) (matching_Trade_Check.j6 (k + 1) y0 y1 y2 y3 y4 y5 y6 y7 y8 y9 y10 y11 y12 y13)) ∧ (∀ y0 y1 y2 y3 y4 y5 y6 y7 y8 y9 y10 y11 y12 y13, LeO (matching_Trade_Check.j7 k y0 y1 y2 y3 y4 y5 y6 y7 y8 y9 y10 y11 y12 y13) (matching_Trade_Check.j7 (k + 1) y0 y1 y2 y3 y4 y5 y6 y7 y8 y9 y10 y11 y12 y13))
 | 0 => ⟨fun _ _ _ _ _ _ _ _ _ _ _ _ _ _ r h => by simp [matching_Trade_Check.j0] at h, fun _ _ _ _ _ _ _ _ _ _ _ _ _ _ r h => by simp [matching_Trade_Check.j1] at h, fun _ _ _ _ _ _ _ _ _ _ _ _ _ _ r h => by simp [matching_Trade_Check.j2] at h, fun _ _ _ _ _ _ _ _ _ _ _ _ _ _ r h => by simp [matching_Trade_Check.j3] at h, fun _ _ _ _ _ _ _ _ _ _ _ _ _ _ r h => by simp [matching_Trade_Check.j4] at h, fun _ _ _ _ _ _ _ _ _ _ _ _ _ _ r h => by simp [matching_Trade_Check.j5] at h, fun _ _ _ _ _ _ _ _ _ _ _ _ _ _ r h => by simp [matching_Trade_Check.j6] at h, fun _ _ _ _ _ _ _ _ _ _ _ _ _ _ r h => by simp [matching_Trade_Check.j7] at h⟩
 | k + 1 => by
  obtain ⟨ih0, ih1, ih2, ih3, ih4, ih5, ih6, ih7⟩ := matching_Trade_Check.mono_l k
  refine ⟨?_, ?_, ?_, ?_, ?_, ?_, ?_, ?_⟩
  ·intro y0 y1 y2 y3 y4 y5 y6 y7 y8 y9 y10 y11 y12 y13
   unfold matching_Trade_Check.j0
   repeat' first
   | (with_reducible exact ih0 _ _ _ _ _ _ _ _ _ _ _ _ _ _)
   | (with_reducible exact ih1 _ _ _ _ _ _ _ _ _ _ _ _ _ _)
   | (with_reducible exact ih2 _ _ _ _ _ _ _ _ _ _ _ _ _ _)
   | (with_reducible exact ih3 _ _ _ _ _ _ _ _ _ _ _ _ _ _)
   | (with_reducible exact ih4 _ _ _ _ _ _ _ _ _ _ _ _ _ _)
   | (with_reducible exact ih5 _ _ _ _ _ _ _ _ _ _ _ _ _ _)
   | (with_reducible exact ih6 _ _ _ _ _ _ _ _ _ _ _ _ _ _)
   | (with_reducible exact ih7 _ _ _ _ _ _ _ _ _ _ _ _ _ _)
   | (with_reducible exact LeO.refl _)
   | (with_reducible exact LeO.none _)
   | (with_reducible refine LeO.ite ?_ ?_)
   | (with_reducible refine LeO.bind ?_ (fun _ => ?_))
   | exact ih0 _ _ _ _ _ _ _ _ _ _ _ _ _ _
   | exact ih1 _ _ _ _ _ _ _ _ _ _ _ _ _ _
   | exact ih2 _ _ _ _ _ _ _ _ _ _ _ _ _ _
   | exact ih3 _ _ _ _ _ _ _ _ _ _ _ _ _ _
   | exact ih4 _ _ _ _ _ _ _ _ _ _ _ _ _ _
   | exact ih5 _ _ _ _ _ _ _ _ _ _ _ _ _ _
   | exact ih6 _ _ _ _ _ _ _ _ _ _ _ _ _ _
   | exact ih7 _ _ _ _ _ _ _ _ _ _ _ _ _ _
   | exact LeO.none _
   | refine LeO.ite ?_ ?_
   | refine LeO.bind ?_ (fun _ => ?_)
  ·intro y0 y1 y2 y3 y4 y5 y6 y7 y8 y9 y10 y11 y12 y13
   unfold matching_Trade_Check.j1
   repeat' first
   | (with_reducible exact ih0 _ _ _ _ _ _ _ _ _ _ _ _ _ _)
   | (with_reducible exact ih1 _ _ _ _ _ _ _ _ _ _ _ _ _ _)
   | (with_reducible exact ih2 _ _ _ _ _ _ _ _ _ _ _ _ _ _)
   | (with_reducible exact ih3 _ _ _ _ _ _ _ _ _ _ _ _ _ _)
   | (with_reducible exact ih4 _ _ _ _ _ _ _ _ _ _ _ _ _ _)
   | (with_reducible exact ih5 _ _ _ _ _ _ _ _ _ _ _ _ _ _)
   | (with_reducible exact ih6 _ _ _ _ _ _ _ _ _ _ _ _ _ _)
   | (with_reducible exact ih7 _ _ _ _ _ _ _ _ _ _ _ _ _ _)
   | (with_reducible exact LeO.refl _)
   | (with_reducible exact LeO.none _)
   | (with_reducible refine LeO.ite ?_ ?_)
   | (with_reducible refine LeO.bind ?_ (fun _ => ?_))
   | exact ih0 _ _ _ _ _ _ _ _ _ _ _ _ _ _
   | exact ih1 _ _ _ _ _ _ _ _ _ _ _ _ _ _
   | exact ih2 _ _ _ _ _ _ _ _ _ _ _ _ _ _
   | exact ih3 _ _ _ _ _ _ _ _ _ _ _ _ _ _
   | exact ih4 _ _ _ _ _ _ _ _ _ _ _ _ _ _
   | exact ih5 _ _ _ _ _ _ _ _ _ _ _ _ _ _
   | exact ih6 _ _ _ _ _ _ _ _ _ _ _ _ _ _
   | exact ih7 _ _ _ _ _ _ _ _ _ _ _ _ _ _
   | exact LeO.none _
   | refine LeO.ite ?_ ?_
   | refine LeO.bind ?_ (fun _ => ?_)
  ·intro y0 y1 y2 y3 y4 y5 y6 y7 y8 y9 y10 y11 y12 y13
   unfold matching_Trade_Check.j2
   repeat' first
   | (with_reducible exact ih0 _ _ _ _ _ _ _ _ _ _ _ _ _ _)
   | (with_reducible exact ih1 _ _ _ _ _ _ _ _ _ _ _ _ _ _)
   | (with_reducible exact ih2 _ _ _ _ _ _ _ _ _ _ _ _ _ _)
   | (with_reducible exact ih3 _ _ _ _ _ _ _ _ _ _ _ _ _ _)
   | (with_reducible exact ih4 _ _ _ _ _ _ _ _ _ _ _ _ _ _)
   | (with_reducible exact ih5 _ _ _ _ _ _ _ _ _ _ _ _ _ _)
   | (with_reducible exact ih6 _ _ _ _ _ _ _ _ _ _ _ _ _ _)
   | (with_reducible exact ih7 _ _ _ _ _ _ _ _ _ _ _ _ _ _)
   | (with_reducible exact LeO.refl _)
   | (with_reducible exact LeO.none _)
   | (with_reducible refine LeO.ite ?_ ?_)
   | (with_reducible refine LeO.bind ?_ (fun _ => ?_))
   | exact ih0 _ _ _ _ _ _ _ _ _ _ _ _ _ _
   | exact ih1 _ _ _ _ _ _ _ _ _ _ _ _ _ _
   | exact ih2 _ _ _ _ _ _ _ _ _ _ _ _ _ _
   | exact ih3 _ _ _ _ _ _ _ _ _ _ _ _ _ _
   | exact ih4 _ _ _ _ _ _ _ _ _ _ _ _ _ _
   | exact ih5 _ _ _ _ _ _ _ _ _ _ _ _ _ _
   | exact ih6 _ _ _ _ _ _ _ _ _ _ _ _ _ _
   | exact ih7 _ _ _ _ _ _ _ _ _ _ _ _ _ _
   | exact LeO.none _
   | refine LeO.ite ?_ ?_
   | refine LeO.bind ?_ (fun _ => ?_)
  ·intro y0 y1 y2 y3 y4 y5 y6 y7 y8 y9 y10 y11 y12 y13
   unfold matching_Trade_Check.j3
   repeat' first
   | (with_reducible exact ih0 _ _ _ _ _ _ _ _ _ _ _ _ _ _)
   | (with_reducible exact ih1 _ _ _ _ _ _ _ _ _ _ _ _ _ _)
   | (with_reducible exact ih2 _ _ _ _ _ _ _ _ _ _ _ _ _ _)
   | (with_reducible exact ih3 _ _ _ _ _ _ _ _ _ _ _ _ _ _)
   | (with_reducible exact ih4 _ _ _ _ _ _ _ _ _ _ _ _ _ _)
   | (with_reducible exact ih5 _ _ _ _ _ _ _ _ _ _ _ _ _ _)
   | (with_reducible exact ih6 _ _ _ _ _ _ _ _ _ _ _ _ _ _)
   | (with_reducible exact ih7 _ _ _ _ _ _ _ _ _ _ _ _ _ _)
   | (with_reducible exact LeO.refl _)
   | (with_reducible exact LeO.none _)
   | (with_reducible refine LeO.ite ?_ ?_)
   | (with_reducible refine LeO.bind ?_ (fun _ => ?_))
   | exact ih0 _ _ _ _ _ _ _ _ _ _ _ _ _ _
   | exact ih1 _ _ _ _ _ _ _ _ _ _ _ _ _ _
   | exact ih2 _ _ _ _ _ _ _ _ _ _ _ _ _ _
   | exact ih3 _ _ _ _ _ _ _ _ _ _ _ _ _ _
   | exact ih4 _ _ _ _ _ _ _ _ _ _ _ _ _ _
   | exact ih5 _ _ _ _ _ _ _ _ _ _ _ _ _ _
   | exact ih6 _ _ _ _ _ _ _ _ _ _ _ _ _ _
   | exact ih7 _ _ _ _ _ _ _ _ _ _ _ _ _ _
   | exact LeO.none _
   | refine LeO.ite ?_ ?_
   | refine LeO.bind ?_ (fun _ => ?_)
  ·intro y0 y1 y2 y3 y4 y5 y6 y7 y8 y9 y10 y11 y12 y13
   unfold matching_Trade_Check.j4
   repeat' first
   | (with_reducible exact ih0 _ _ _ _ _ _ _ _ _ _ _ _ _ _)
   | (with_reducible exact ih1 _ _ _ _ _ _ _ _ _ _ _ _ _ _)
   | (with_reducible exact ih2 _ _ _ _ _ _ _ _ _ _ _ _ _ _)
   | (with_reducible exact ih3 _ _ _ _ _ _ _ _ _ _ _ _ _ _)
   | (with_reducible exact ih4 _ _ _ _ _ _ _ _ _ _ _ _ _ _)
   | (with_reducible exact ih5 _ _ _ _ _ _ _ _ _ _ _ _ _ _)
   | (with_reducible exact ih6 _ _ _ _ _ _ _ _ _ _ _ _ _ _)
   | (with_reducible exact ih7 _ _ _ _ _ _ _ _ _ _ _ _ _ _)
   | (with_reducible exact LeO.refl _)
   | (with_reducible exact LeO.none _)
   | (with_reducible refine LeO.ite ?_ ?_)
   | (with_reducible refine LeO.bind ?_ (fun _ => ?_))
   | exact ih0 _ _ _ _ _ _ _ _ _ _ _ _ _ _
   | exact ih1 _ _ _ _ _ _ _ _ _ _ _ _ _ _
   | exact ih2 _ _ _ _ _ _ _ _ _ _ _ _ _ _
   | exact ih3 _ _ _ _ _ _ _ _ _ _ _ _ _ _
   | exact ih4 _ _ _ _ _ _ _ _ _ _ _ _ _ _
   | exact ih5 _ _ _ _ _ _ _ _ _ _ _ _ _ _
   | exact ih6 _ _ _ _ _ _ _ _ _ _ _ _ _ _
   | exact ih7 _ _ _ _ _ _ _ _ _ _ _ _ _ _
   | exact LeO.none _
   | refine LeO.ite ?_ ?_
   | refine LeO.bind ?_ (fun _ => ?_)
  ·intro y0 y1 y2 y3 y4 y5 y6 y7 y8 y9 y10 y11 y12 y13
   unfold matching_Trade_Check.j5
   repeat' first
   | (with_reducible exact ih0 _ _ _ _ _ _ _ _ _ _ _ _ _ _)
   | (with_reducible exact ih1 _ _ _ _ _ _ _ _ _ _ _ _ _ _)
   | (with_reducible exact ih2 _ _ _ _ _ _ _ _ _ _ _ _ _ _)
   | (with_reducible exact ih3 _ _ _ _ _ _ _ _ _ _ _ _ _ _)
   | (with_reducible exact ih4 _ _ _ _ _ _ _ _ _ _ _ _ _ _)
   | (with_reducible exact ih5 _ _ _ _ _ _ _ _ _ _ _ _ _ _)
   | (with_reducible exact ih6 _ _ _ _ _ _ _ _ _ _ _ _ _ _)
   | (with_reducible exact ih7 _ _ _ _ _ _ _ _ _ _ _ _ _ _)
   | (with_reducible exact LeO.refl _)
   | (with_reducible exact LeO.none _)
   | (with_reducible refine LeO.ite ?_ ?_)
   | (with_reducible refine LeO.bind ?_ (fun _ => ?_))
   | exact ih0 _ _ _ _ _ _ _ _ _ _ _ _ _ _
   | exact ih1 _ _ _ _ _ _ _ _ _ _ _ _ _ _
   | exact ih2 _ _ _ _ _ _ _ _ _ _ _ _ _ _
   | exact ih3 _ _ _ _ _ _ _ _ _ _ _ _ _ _
   | exact ih4 _ _ _ _ _ _ _ _ _ _ _ _ _ _
   | exact ih5 _ _ _ _ _ _ _ _ _ _ _ _ _ _
   | exact ih6 _ _ _ _ _ _ _ _ _ _ _ _ _ _
   | exact ih7 _ _ _ _ _ _ _ _ _ _ _ _ _ _
   | exact LeO.none _
   | refine LeO.ite ?_ ?_
   | refine LeO.bind ?_ (fun _ => ?_)
  ·intro y0 y1 y2 y3 y4 y5 y6 y7 y8 y9 y10 y11 y12 y13
   unfold matching_Trade_Check.j6
   repeat' first
   | (with_reducible exact ih0 _ _ _ _ _ _ _ _ _ _ _ _ _ _)
   | (with_reducible exact ih1 _ _ _ _ _ _ _ _ _ _ _ _ _ _)
   | (with_reducible exact ih2 _ _ _ _ _ _ _ _ _ _ _ _ _ _)
   | (with_reducible exact ih3 _ _ _ _ _ _ _ _ _ _ _ _ _ _)
   | (with_reducible exact ih4 _ _ _ _ _ _ _ _ _ _ _ _ _ _)
   | (with_reducible exact ih5 _ _ _ _ _ _ _ _ _ _ _ _ _ _)
   | (with_reducible exact ih6 _ _ _ _ _ _ _ _ _ _ _ _ _ _)
   | (with_reducible exact ih7 _ _ _ _ _ _ _ _ _ _ _ _ _ _)
   | (with_reducible exact LeO.refl _)
   | (with_reducible exact LeO.none _)
   | (with_reducible refine LeO.ite ?_ ?_)
   | (with_reducible refine LeO.bind ?_ (fun _ => ?_))
   | exact ih0 _ _ _ _ _ _ _ _ _ _ _ _ _ _
   | exact ih1 _ _ _ _ _ _ _ _ _ _ _ _ _ _
   | exact ih2 _ _ _ _ _ _ _ _ _ _ _ _ _ _
   | exact ih3 _ _ _ _ _ _ _ _ _ _ _ _ _ _
   | exact ih4 _ _ _ _ _ _ _ _ _ _ _ _ _ _
   | exact ih5 _ _ _ _ _ _ _ _ _ _ _ _ _ _
   | exact ih6 _ _ _ _ _ _ _ _ _ _ _ _ _ _
   | exact ih7 _ _ _ _ _ _ _ _ _ _ _ _ _ _
   | exact LeO.none _
   | refine LeO.ite ?_ ?_
   | refine LeO.bind ?_ (fun _ => ?_)
  ·intro y0 y1 y2 y3 y4 y5 y6 y7 y8 y9 y10 y11 y12 y13
   unfold matching_Trade_Check.j7
   repeat' first
   | (with_reducible exact ih0 _ _ _ _ _ _ _ _ _ _ _ _ _ _)
   | (with_reducible exact ih1 _ _ _ _ _ _ _ _ _ _ _ _ _ _)
   | (with_reducible exact ih2 _ _ _ _ _ _ _ _ _ _ _ _ _ _)
   | (with_reducible exact ih3 _ _ _ _ _ _ _ _ _ _ _ _ _ _)
   | (with_reducible exact ih4 _ _ _ _ _ _ _ _ _ _ _ _ _ _)
   | (with_reducible exact ih5 _ _ _ _ _ _ _ _ _ _ _ _ _ _)
   | (with_reducible exact ih6 _ _ _ _ _ _ _ _ _ _ _ _ _ _)
   | (with_reducible exact ih7 _ _ _ _ _ _ _ _ _ _ _ _ _ _)
   | (with_reducible exact LeO.refl _)
   | (with_reducible exact LeO.none _)
   | (with_reducible refine LeO.ite ?_ ?_)
   | (with_reducible refine LeO.bind ?_ (fun _ => ?_))
   | exact ih0 _ _ _ _ _ _ _ _ _ _ _ _ _ _
   | exact ih1 _ _ _ _ _ _ _ _ _ _ _ _ _ _
   | exact ih2 _ _ _ _ _ _ _ _ _ _ _ _ _ _
   | exact ih3 _ _ _ _ _ _ _ _ _ _ _ _ _ _
   | exact ih4 _ _ _ _ _ _ _ _ _ _ _ _ _ _
   | exact ih5 _ _ _ _ _ _ _ _ _ _ _ _ _ _
   | exact ih6 _ _ _ _ _ _ _ _ _ _ _ _ _ _
   | exact ih7 _ _ _ _ _ _ _ _ _ _ _ _ _ _
   | exact LeO.none _
   | refine LeO.ite ?_ ?_
   | refine LeO.bind ?_ (fun _ => ?_)
theorem matching_Trade_Check.mono : ∀ a0 a1 a2 a3 a4 a5 a6 a7 a8 a9 a10 a11 a12 k, LeO (matching_Trade_Check.f k a0 a1 a2 a3 a4 a5 a6 a7 a8 a9 a10 a11 a12) (matching_Trade_Check.f (k + 1) a0 a1 a2 a3 a4 a5 a6 a7 a8 a9 a10 a11 a12) := by
 intro a0 a1 a2 a3 a4 a5 a6 a7 a8 a9 a10 a11 a12 k
 obtain ⟨ih0, ih1, ih2, ih3, ih4, ih5, ih6, ih7⟩ := matching_Trade_Check.mono_l k
 unfold matching_Trade_Check.f
 repeat' first
   | (with_reducible exact ih0 _ _ _ _ _ _ _ _ _ _ _ _ _ _)
   | (with_reducible exact ih1 _ _ _ _ _ _ _ _ _ _ _ _ _ _)
   | (with_reducible exact ih2 _ _ _ _ _ _ _ _ _ _ _ _ _ _)
   | (with_reducible exact ih3 _ _ _ _ _ _ _ _ _ _ _ _ _ _)
   | (with_reducible exact ih4 _ _ _ _ _ _ _ _ _ _ _ _ _ _)
   | (with_reducible exact ih5 _ _ _ _ _ _ _ _ _ _ _ _ _ _)
   | (with_reducible exact ih6 _ _ _ _ _ _ _ _ _ _ _ _ _ _)
   | (with_reducible exact ih7 _ _ _ _ _ _ _ _ _ _ _ _ _ _)
   | (with_reducible exact LeO.refl _)
   | (with_reducible exact LeO.none _)
   | (with_reducible refine LeO.ite ?_ ?_)
   | (with_reducible refine LeO.bind ?_ (fun _ => ?_))
   | exact ih0 _ _ _ _ _ _ _ _ _ _ _ _ _ _
   | exact ih1 _ _ _ _ _ _ _ _ _ _ _ _ _ _
   | exact ih2 _ _ _ _ _ _ _ _ _ _ _ _ _ _
   | exact ih3 _ _ _ _ _ _ _ _ _ _ _ _ _ _
   | exact ih4 _ _ _ _ _ _ _ _ _ _ _ _ _ _
   | exact ih5 _ _ _ _ _ _ _ _ _ _ _ _ _ _
   | exact ih6 _ _ _ _ _ _ _ _ _ _ _ _ _ _
   | exact ih7 _ _ _ _ _ _ _ _ _ _ _ _ _ _
   | exact LeO.none _
   | refine LeO.ite ?_ ?_
   | refine LeO.bind ?_ (fun _ => ?_)
set_option maxHeartbeats 8000000 in
set_option maxRecDepth 100000 in
theorem matching_Trade_Check.calls (k : Nat) (a0_0 : Int) (a0_1 : ByteArray) (a0_2 : ByteArray) (a0_3 : ByteArray) (a0_4 : Int) (a0_5 : Int) (a0_6 : Int) (a0_7 : Int) (a0_8 : Int) (a0_9 : Bool) (a0_10 : Int) (a0_11 : ByteArray) (a0_12 : ByteArray) (r : Int) (w : World) (h : matching_Trade_Check.f k a0_0 a0_1 a0_2 a0_3 a0_4 a0_5 a0_6 a0_7 a0_8 a0_9 a0_10 a0_11 a0_12 = some r) :
  Calls Tryd.prog 26 #[.agg #[.int .i64 a0_0, .string a0_1, .string a0_2, .string a0_3, .int .i64 a0_4, .int .i64 a0_5, .int .i64 a0_6, .int .i64 a0_7, .int .i64 a0_8, .bool a0_9, .int .i64 a0_10, .string a0_11, .string a0_12]] w fun e w' => e = .returned (.int .i64 r) ∧ Below w.heap.size w w' := by
 have hu31 := Tryd.underlying31
 have HB := Aside0.mk (Below.refl w.heap.size w)
 have H : (if a0_0 = 1 then (matching_Trade_Check.j0 k false a0_0 a0_1 a0_2 a0_3 a0_4 a0_5 a0_6 a0_7 a0_8 a0_9 a0_10 a0_11 a0_12) else (matching_Trade_Check.j0 k (a0_0 != 2) a0_0 a0_1 a0_2 a0_3 a0_4 a0_5 a0_6 a0_7 a0_8 a0_9 a0_10 a0_11 a0_12)) = some r := h
 clear h
 have HC2 := Aside0.mk H
 clear H
 go_enter Tryd.func26, Tryd.ntmps26
 go_upto_region 3 with (first | ((with_reducible refine gate_dst (N := 1) rfl ?_); refine box_event ?hg (N := 1) ?hd (cs := #[.int .i64 a0_0, .string a0_1, .string a0_2, .string a0_3, .int .i64 a0_4, .int .i64 a0_5, .int .i64 a0_6, .int .i64 a0_7, .int .i64 a0_8, .bool a0_9, .int .i64 a0_10, .string a0_11, .string a0_12]) (t := 31) ?hr ?_; (case hd => rfl); (case hg => rfl); (case hr => first | (go_simp; done) | (go_simp; rfl)); intro gb318 hg w3 hbox hb; have n0_ := Aside0.mk (below_step (by repeat (first | (with_reducible first | exact HB.out | apply below_alloc | apply pw_below_drewN | apply below_drew1) | exact HB.out)) hb); have n1_ := Aside0.mk (hbox); have n2_ := Aside0.mk ((by rw [hg]; exact (below_size (by repeat (first | (with_reducible first | exact HB.out | apply below_alloc | apply pw_below_drewN | apply below_drew1) | exact HB.out))) : w.heap.size ≤ gb318)); have n3_ := Aside0.mk ((by rw [hg]; exact (below_size (by repeat (first | (with_reducible first | exact HB.out | apply below_alloc | apply pw_below_drewN | apply below_drew1) | exact HB.out))) : w.heap.size ≤ gb318)); clear HB; have HB := n0_; have BK318 := n1_; have GW318 := n2_; have GE318 := n3_; clear n0_ n1_ n2_ n3_; clear hb hbox hg))
 (try simp only [Act.put, List.setIfInBounds_toArray, List.set_cons_zero, List.set_cons_succ])
 go_cut [5] (fun v5 wc => ∃ (kq : Nat) (x5_1 : Bool), v5 = .bool x5_1 ∧ Aside0 (matching_Trade_Check.j0 kq x5_1 a0_0 a0_1 a0_2 a0_3 a0_4 a0_5 a0_6 a0_7 a0_8 a0_9 a0_10 a0_11 a0_12 = some r) ∧ Aside0 (kq ≤ k) ∧ Aside0 (wc.heap[gb318]? = some (.cells #[.int .i64 a0_0, .string a0_1, .string a0_2, .string a0_3, .int .i64 a0_4, .int .i64 a0_5, .int .i64 a0_6, .int .i64 a0_7, .int .i64 a0_8, .bool a0_9, .int .i64 a0_10, .string a0_11, .string a0_12] 31 (0, 0))) ∧ Aside0 (Below w.heap.size w wc))
 case first =>
  have H := HC2.out
  clear HC2
  by_cases c4 : a0_0 = 1
  ·rw [if_pos c4] at H
   have c4b0 : (a0_0 == 1) = true := beq_iff_eq.mpr c4
   have c4b1 : (a0_0 != 1) = false := bne_eq_false_iff_eq.mpr c4
   clear c4
   (first | rw [c4b0] | (simp only [i64_w, i32_w]; rw [c4b0]) | skip)
   have H' := Aside0.mk H
   clear H
   have hcz5_0 : w3.cell? ⟨gb318, 0, none⟩ = some (.int .i64 a0_0) := (blk_cell BK318.out 0).trans rfl
   have hcz5_1 : w3.cell? ⟨gb318, 1, none⟩ = some (.string a0_1) := (blk_cell BK318.out 1).trans rfl
   have hcz5_2 : w3.cell? ⟨gb318, 2, none⟩ = some (.string a0_2) := (blk_cell BK318.out 2).trans rfl
   have hcz5_3 : w3.cell? ⟨gb318, 3, none⟩ = some (.string a0_3) := (blk_cell BK318.out 3).trans rfl
   have hcz5_4 : w3.cell? ⟨gb318, 4, none⟩ = some (.int .i64 a0_4) := (blk_cell BK318.out 4).trans rfl
   have hcz5_5 : w3.cell? ⟨gb318, 5, none⟩ = some (.int .i64 a0_5) := (blk_cell BK318.out 5).trans rfl
   have hcz5_6 : w3.cell? ⟨gb318, 6, none⟩ = some (.int .i64 a0_6) := (blk_cell BK318.out 6).trans rfl
   have hcz5_7 : w3.cell? ⟨gb318, 7, none⟩ = some (.int .i64 a0_7) := (blk_cell BK318.out 7).trans rfl
   have hcz5_8 : w3.cell? ⟨gb318, 8, none⟩ = some (.int .i64 a0_8) := (blk_cell BK318.out 8).trans rfl
   have hcz5_9 : w3.cell? ⟨gb318, 9, none⟩ = some (.bool a0_9) := (blk_cell BK318.out 9).trans rfl
   have hcz5_10 : w3.cell? ⟨gb318, 10, none⟩ = some (.int .i64 a0_10) := (blk_cell BK318.out 10).trans rfl
   have hcz5_11 : w3.cell? ⟨gb318, 11, none⟩ = some (.string a0_11) := (blk_cell BK318.out 11).trans rfl
   have hcz5_12 : w3.cell? ⟨gb318, 12, none⟩ = some (.string a0_12) := (blk_cell BK318.out 12).trans rfl
   have hfz5_0 := blk_frozen BK318.out 0
   have hfz5_1 := blk_frozen BK318.out 1
   have hfz5_2 := blk_frozen BK318.out 2
   have hfz5_3 := blk_frozen BK318.out 3
   have hfz5_4 := blk_frozen BK318.out 4
   have hfz5_5 := blk_frozen BK318.out 5
   have hfz5_6 := blk_frozen BK318.out 6
   have hfz5_7 := blk_frozen BK318.out 7
   have hfz5_8 := blk_frozen BK318.out 8
   have hfz5_9 := blk_frozen BK318.out 9
   have hfz5_10 := blk_frozen BK318.out 10
   have hfz5_11 := blk_frozen BK318.out 11
   have hfz5_12 := blk_frozen BK318.out 12
   go_wp2
   go_meet
   case rel => exact ⟨_, (false), (by first | rfl | (simp; done) | (simp [*]; done)), H', ⟨by first | omega | exact Nat.le_refl _⟩, ⟨by (with_reducible repeat (first | refine blk_drewN ?_ _ | refine blk_drew ?_ | refine blk_alloc ?_ _)); exact BK318.out⟩, ⟨by repeat (first | (with_reducible first | exact HB.out | apply below_alloc | apply pw_below_drewN | apply below_drew1 | refine below_set ?_ GE318.out) | exact HB.out)⟩⟩
  ·rw [if_neg c4] at H
   have c4b0 : (a0_0 == 1) = false := beq_eq_false_iff_ne.mpr c4
   have c4b1 : (a0_0 != 1) = true := bne_iff_ne.mpr c4
   (first | rw [c4b0] | (simp only [i64_w, i32_w]; rw [c4b0]) | skip)
   have H' := Aside0.mk H
   clear H
   have hcz6_0 : w3.cell? ⟨gb318, 0, none⟩ = some (.int .i64 a0_0) := (blk_cell BK318.out 0).trans rfl
   have hcz6_1 : w3.cell? ⟨gb318, 1, none⟩ = some (.string a0_1) := (blk_cell BK318.out 1).trans rfl
   have hcz6_2 : w3.cell? ⟨gb318, 2, none⟩ = some (.string a0_2) := (blk_cell BK318.out 2).trans rfl
   have hcz6_3 : w3.cell? ⟨gb318, 3, none⟩ = some (.string a0_3) := (blk_cell BK318.out 3).trans rfl
   have hcz6_4 : w3.cell? ⟨gb318, 4, none⟩ = some (.int .i64 a0_4) := (blk_cell BK318.out 4).trans rfl
   have hcz6_5 : w3.cell? ⟨gb318, 5, none⟩ = some (.int .i64 a0_5) := (blk_cell BK318.out 5).trans rfl
   have hcz6_6 : w3.cell? ⟨gb318, 6, none⟩ = some (.int .i64 a0_6) := (blk_cell BK318.out 6).trans rfl
   have hcz6_7 : w3.cell? ⟨gb318, 7, none⟩ = some (.int .i64 a0_7) := (blk_cell BK318.out 7).trans rfl
   have hcz6_8 : w3.cell? ⟨gb318, 8, none⟩ = some (.int .i64 a0_8) := (blk_cell BK318.out 8).trans rfl
   have hcz6_9 : w3.cell? ⟨gb318, 9, none⟩ = some (.bool a0_9) := (blk_cell BK318.out 9).trans rfl
   have hcz6_10 : w3.cell? ⟨gb318, 10, none⟩ = some (.int .i64 a0_10) := (blk_cell BK318.out 10).trans rfl
   have hcz6_11 : w3.cell? ⟨gb318, 11, none⟩ = some (.string a0_11) := (blk_cell BK318.out 11).trans rfl
   have hcz6_12 : w3.cell? ⟨gb318, 12, none⟩ = some (.string a0_12) := (blk_cell BK318.out 12).trans rfl
   have hfz6_0 := blk_frozen BK318.out 0
   have hfz6_1 := blk_frozen BK318.out 1
   have hfz6_2 := blk_frozen BK318.out 2
   have hfz6_3 := blk_frozen BK318.out 3
   have hfz6_4 := blk_frozen BK318.out 4
   have hfz6_5 := blk_frozen BK318.out 5
   have hfz6_6 := blk_frozen BK318.out 6
   have hfz6_7 := blk_frozen BK318.out 7
   have hfz6_8 := blk_frozen BK318.out 8
   have hfz6_9 := blk_frozen BK318.out 9
   have hfz6_10 := blk_frozen BK318.out 10
   have hfz6_11 := blk_frozen BK318.out 11
   have hfz6_12 := blk_frozen BK318.out 12
   go_wp2
   go_meet
   case rel => exact ⟨_, ((a0_0 != 2)), (by first | rfl | (simp; done) | (simp [*]; done)), H', ⟨by first | omega | exact Nat.le_refl _⟩, ⟨by (with_reducible repeat (first | refine blk_drewN ?_ _ | refine blk_drew ?_ | refine blk_alloc ?_ _)); exact BK318.out⟩, ⟨by repeat (first | (with_reducible first | exact HB.out | apply below_alloc | apply pw_below_drewN | apply below_drew1 | refine below_set ?_ GE318.out) | exact HB.out)⟩⟩
 case rest =>
  clear HC2
  try clear c2
  try clear p2
  try clear c4
  try clear c4b0
  try clear c4b1
  try clear hcz5_0 hcz5_1 hcz5_10 hcz5_11 hcz5_12 hcz5_2 hcz5_3 hcz5_4 hcz5_5 hcz5_6 hcz5_7 hcz5_8 hcz5_9
  try clear hcz6_0 hcz6_1 hcz6_10 hcz6_11 hcz6_12 hcz6_2 hcz6_3 hcz6_4 hcz6_5 hcz6_6 hcz6_7 hcz6_8 hcz6_9
  try clear hfz5_0 hfz5_1 hfz5_10 hfz5_11 hfz5_12 hfz5_2 hfz5_3 hfz5_4 hfz5_5 hfz5_6 hfz5_7 hfz5_8 hfz5_9
  try clear hfz6_0 hfz6_1 hfz6_10 hfz6_11 hfz6_12 hfz6_2 hfz6_3 hfz6_4 hfz6_5 hfz6_6 hfz6_7 hfz6_8 hfz6_9
  obtain ⟨kq, x5_1, rfl, HA, HJ1, BK318, HB⟩ := hcut
  cases kq with
  | zero => exact absurd HA.out (by simp [matching_Trade_Check.j0])
  | succ kj1 =>
   have H := HA.out
   clear HA
   simp only [matching_Trade_Check.j0] at H
   by_cases c7 : x5_1 = true
   ·subst c7
    have H1 : (some 11) = some r := by rw [if_pos rfl] at H; exact H
    clear H
    have H := H1
    clear H1
    obtain rfl := Option.some.inj H
    go_wp2
    go_ret
    exact ⟨by first | rfl | (simp [errW_none, errW_some] <;> rfl) | (simp [*, errW_none, errW_some] <;> rfl), by repeat (first | (with_reducible first | exact HB.out | apply below_alloc | apply pw_below_drewN | apply below_drew1 | refine below_set ?_ GE318.out) | exact HB.out)⟩
   ·replace c7 := Bool.eq_false_iff.mpr c7
    subst c7
    have H1 : ((matching_Trade_Check_1.f a0_1).bind fun t319 => (if t319 = true then ((matching_Trade_Check_1.f a0_2).bind fun t320 => (matching_Trade_Check.j1 kj1 (!t320) a0_0 a0_1 a0_2 a0_3 a0_4 a0_5 a0_6 a0_7 a0_8 a0_9 a0_10 a0_11 a0_12)) else (matching_Trade_Check.j1 kj1 true a0_0 a0_1 a0_2 a0_3 a0_4 a0_5 a0_6 a0_7 a0_8 a0_9 a0_10 a0_11 a0_12))) = some r := by rw [if_neg (show ¬ (false = true) by decide)] at H; exact H
    clear H
    have H := H1
    clear H1
    have HC8 := Aside0.mk H
    clear H
    go_upto_region 5 with (fail)
    go_cut [14] (fun v14 wc => ∃ (kq : Nat) (x14_7 : Bool), v14 = .bool x14_7 ∧ Aside0 (matching_Trade_Check.j1 kq x14_7 a0_0 a0_1 a0_2 a0_3 a0_4 a0_5 a0_6 a0_7 a0_8 a0_9 a0_10 a0_11 a0_12 = some r) ∧ Aside0 (kq ≤ kj1) ∧ Aside0 (wc.heap[gb318]? = some (.cells #[.int .i64 a0_0, .string a0_1, .string a0_2, .string a0_3, .int .i64 a0_4, .int .i64 a0_5, .int .i64 a0_6, .int .i64 a0_7, .int .i64 a0_8, .bool a0_9, .int .i64 a0_10, .string a0_11, .string a0_12] 31 (0, 0))) ∧ Aside0 (Below w.heap.size w wc))
    case first =>
     have H := HC8.out
     clear HC8
     replace H := Option.bind_eq_some_iff.mp H
     obtain ⟨t319, A90, H⟩ := H
     replace H : (if t319 = true then ((matching_Trade_Check_1.f a0_2).bind fun t320 => (matching_Trade_Check.j1 kj1 (!t320) a0_0 a0_1 a0_2 a0_3 a0_4 a0_5 a0_6 a0_7 a0_8 a0_9 a0_10 a0_11 a0_12)) else (matching_Trade_Check.j1 kj1 true a0_0 a0_1 a0_2 a0_3 a0_4 a0_5 a0_6 a0_7 a0_8 a0_9 a0_10 a0_11 a0_12)) = some r := H
     have A9 := Aside0.mk A90
     clear A90
     by_cases c10 : t319 = true
     ·subst c10
      have H1 : ((matching_Trade_Check_1.f a0_2).bind fun t320 => (matching_Trade_Check.j1 kj1 (!t320) a0_0 a0_1 a0_2 a0_3 a0_4 a0_5 a0_6 a0_7 a0_8 a0_9 a0_10 a0_11 a0_12)) = some r := by rw [if_pos rfl] at H; exact H
      clear H
      have H := H1
      clear H1
      replace H := Option.bind_eq_some_iff.mp H
      obtain ⟨t320, A110, H⟩ := H
      replace H : (matching_Trade_Check.j1 kj1 (!t320) a0_0 a0_1 a0_2 a0_3 a0_4 a0_5 a0_6 a0_7 a0_8 a0_9 a0_10 a0_11 a0_12) = some r := H
      have A11 := Aside0.mk A110
      clear A110
      have H' := Aside0.mk H
      clear H
      have hcz12_0 : wc.cell? ⟨gb318, 0, none⟩ = some (.int .i64 a0_0) := (blk_cell BK318.out 0).trans rfl
      have hcz12_1 : wc.cell? ⟨gb318, 1, none⟩ = some (.string a0_1) := (blk_cell BK318.out 1).trans rfl
      have hcz12_2 : wc.cell? ⟨gb318, 2, none⟩ = some (.string a0_2) := (blk_cell BK318.out 2).trans rfl
      have hcz12_3 : wc.cell? ⟨gb318, 3, none⟩ = some (.string a0_3) := (blk_cell BK318.out 3).trans rfl
      have hcz12_4 : wc.cell? ⟨gb318, 4, none⟩ = some (.int .i64 a0_4) := (blk_cell BK318.out 4).trans rfl
      have hcz12_5 : wc.cell? ⟨gb318, 5, none⟩ = some (.int .i64 a0_5) := (blk_cell BK318.out 5).trans rfl
      have hcz12_6 : wc.cell? ⟨gb318, 6, none⟩ = some (.int .i64 a0_6) := (blk_cell BK318.out 6).trans rfl
      have hcz12_7 : wc.cell? ⟨gb318, 7, none⟩ = some (.int .i64 a0_7) := (blk_cell BK318.out 7).trans rfl
      have hcz12_8 : wc.cell? ⟨gb318, 8, none⟩ = some (.int .i64 a0_8) := (blk_cell BK318.out 8).trans rfl
      have hcz12_9 : wc.cell? ⟨gb318, 9, none⟩ = some (.bool a0_9) := (blk_cell BK318.out 9).trans rfl
      have hcz12_10 : wc.cell? ⟨gb318, 10, none⟩ = some (.int .i64 a0_10) := (blk_cell BK318.out 10).trans rfl
      have hcz12_11 : wc.cell? ⟨gb318, 11, none⟩ = some (.string a0_11) := (blk_cell BK318.out 11).trans rfl
      have hcz12_12 : wc.cell? ⟨gb318, 12, none⟩ = some (.string a0_12) := (blk_cell BK318.out 12).trans rfl
      have hfz12_0 := blk_frozen BK318.out 0
      have hfz12_1 := blk_frozen BK318.out 1
      have hfz12_2 := blk_frozen BK318.out 2
      have hfz12_3 := blk_frozen BK318.out 3
      have hfz12_4 := blk_frozen BK318.out 4
      have hfz12_5 := blk_frozen BK318.out 5
      have hfz12_6 := blk_frozen BK318.out 6
      have hfz12_7 := blk_frozen BK318.out 7
      have hfz12_8 := blk_frozen BK318.out 8
      have hfz12_9 := blk_frozen BK318.out 9
      have hfz12_10 := blk_frozen BK318.out 10
      have hfz12_11 := blk_frozen BK318.out 11
      have hfz12_12 := blk_frozen BK318.out 12
      go_wp2_with (first | (go_at_call 44; (with_reducible refine (matching_Trade_Check_1.calls a0_1 true _ A9.out).mono ?_); rintro e w13 ⟨rfl, hb⟩; have n0_ := Aside0.mk (blk_below (g := gb318) (o := .cells #[.int .i64 a0_0, .string a0_1, .string a0_2, .string a0_3, .int .i64 a0_4, .int .i64 a0_5, .int .i64 a0_6, .int .i64 a0_7, .int .i64 a0_8, .bool a0_9, .int .i64 a0_10, .string a0_11, .string a0_12] 31 (0, 0)) (by (with_reducible repeat (first | refine blk_drewN ?_ _ | refine blk_drew ?_ | refine blk_alloc ?_ _)); exact BK318.out) hb); have n1_ := Aside0.mk (below_step (by repeat (first | (with_reducible first | exact HB.out | apply below_alloc | apply pw_below_drewN | apply below_drew1 | refine below_set ?_ GE318.out) | exact HB.out)) hb); clear BK318; clear HB; have BK318 := n0_; have HB := n1_; clear n0_ n1_; (try clear hb); (try clear hb2); (try clear hk); (try clear hi); have hcz14_0 : w13.cell? ⟨gb318, 0, none⟩ = some (.int .i64 a0_0) := (blk_cell BK318.out 0).trans rfl; have hcz14_1 : w13.cell? ⟨gb318, 1, none⟩ = some (.string a0_1) := (blk_cell BK318.out 1).trans rfl; have hcz14_2 : w13.cell? ⟨gb318, 2, none⟩ = some (.string a0_2) := (blk_cell BK318.out 2).trans rfl; have hcz14_3 : w13.cell? ⟨gb318, 3, none⟩ = some (.string a0_3) := (blk_cell BK318.out 3).trans rfl; have hcz14_4 : w13.cell? ⟨gb318, 4, none⟩ = some (.int .i64 a0_4) := (blk_cell BK318.out 4).trans rfl; have hcz14_5 : w13.cell? ⟨gb318, 5, none⟩ = some (.int .i64 a0_5) := (blk_cell BK318.out 5).trans rfl; have hcz14_6 : w13.cell? ⟨gb318, 6, none⟩ = some (.int .i64 a0_6) := (blk_cell BK318.out 6).trans rfl; have hcz14_7 : w13.cell? ⟨gb318, 7, none⟩ = some (.int .i64 a0_7) := (blk_cell BK318.out 7).trans rfl; have hcz14_8 : w13.cell? ⟨gb318, 8, none⟩ = some (.int .i64 a0_8) := (blk_cell BK318.out 8).trans rfl; have hcz14_9 : w13.cell? ⟨gb318, 9, none⟩ = some (.bool a0_9) := (blk_cell BK318.out 9).trans rfl; have hcz14_10 : w13.cell? ⟨gb318, 10, none⟩ = some (.int .i64 a0_10) := (blk_cell BK318.out 10).trans rfl; have hcz14_11 : w13.cell? ⟨gb318, 11, none⟩ = some (.string a0_11) := (blk_cell BK318.out 11).trans rfl; have hcz14_12 : w13.cell? ⟨gb318, 12, none⟩ = some (.string a0_12) := (blk_cell BK318.out 12).trans rfl; have hfz14_0 := blk_frozen BK318.out 0; have hfz14_1 := blk_frozen BK318.out 1; have hfz14_2 := blk_frozen BK318.out 2; have hfz14_3 := blk_frozen BK318.out 3; have hfz14_4 := blk_frozen BK318.out 4; have hfz14_5 := blk_frozen BK318.out 5; have hfz14_6 := blk_frozen BK318.out 6; have hfz14_7 := blk_frozen BK318.out 7; have hfz14_8 := blk_frozen BK318.out 8; have hfz14_9 := blk_frozen BK318.out 9; have hfz14_10 := blk_frozen BK318.out 10; have hfz14_11 := blk_frozen BK318.out 11; have hfz14_12 := blk_frozen BK318.out 12) | (go_at_call 44; (with_reducible refine (matching_Trade_Check_1.calls a0_2 t320 _ A11.out).mono ?_); rintro e w15 ⟨rfl, hb⟩; have n0_ := Aside0.mk (blk_below (g := gb318) (o := .cells #[.int .i64 a0_0, .string a0_1, .string a0_2, .string a0_3, .int .i64 a0_4, .int .i64 a0_5, .int .i64 a0_6, .int .i64 a0_7, .int .i64 a0_8, .bool a0_9, .int .i64 a0_10, .string a0_11, .string a0_12] 31 (0, 0)) (by (with_reducible repeat (first | refine blk_drewN ?_ _ | refine blk_drew ?_ | refine blk_alloc ?_ _)); exact BK318.out) hb); have n1_ := Aside0.mk (below_step (by repeat (first | (with_reducible first | exact HB.out | apply below_alloc | apply pw_below_drewN | apply below_drew1 | refine below_set ?_ GE318.out) | exact HB.out)) hb); clear BK318; clear HB; have BK318 := n0_; have HB := n1_; clear n0_ n1_; (try clear hb); (try clear hb2); (try clear hk); (try clear hi)))
      go_meet
      case rel => exact ⟨_, (!t320), (by first | rfl | (simp; done) | (simp [*]; done)), H', ⟨by have := HJ1.out; first | omega | exact Nat.le_refl _⟩, ⟨by (with_reducible repeat (first | refine blk_drewN ?_ _ | refine blk_drew ?_ | refine blk_alloc ?_ _)); exact BK318.out⟩, ⟨by repeat (first | (with_reducible first | exact HB.out | apply below_alloc | apply pw_below_drewN | apply below_drew1 | refine below_set ?_ GE318.out) | exact HB.out)⟩⟩
     ·replace c10 := Bool.eq_false_iff.mpr c10
      subst c10
      have H1 : (matching_Trade_Check.j1 kj1 true a0_0 a0_1 a0_2 a0_3 a0_4 a0_5 a0_6 a0_7 a0_8 a0_9 a0_10 a0_11 a0_12) = some r := by rw [if_neg (show ¬ (false = true) by decide)] at H; exact H
      clear H
      have H := H1
      clear H1
      have H' := Aside0.mk H
      clear H
      have hcz16_0 : wc.cell? ⟨gb318, 0, none⟩ = some (.int .i64 a0_0) := (blk_cell BK318.out 0).trans rfl
      have hcz16_1 : wc.cell? ⟨gb318, 1, none⟩ = some (.string a0_1) := (blk_cell BK318.out 1).trans rfl
      have hcz16_2 : wc.cell? ⟨gb318, 2, none⟩ = some (.string a0_2) := (blk_cell BK318.out 2).trans rfl
      have hcz16_3 : wc.cell? ⟨gb318, 3, none⟩ = some (.string a0_3) := (blk_cell BK318.out 3).trans rfl
      have hcz16_4 : wc.cell? ⟨gb318, 4, none⟩ = some (.int .i64 a0_4) := (blk_cell BK318.out 4).trans rfl
      have hcz16_5 : wc.cell? ⟨gb318, 5, none⟩ = some (.int .i64 a0_5) := (blk_cell BK318.out 5).trans rfl
      have hcz16_6 : wc.cell? ⟨gb318, 6, none⟩ = some (.int .i64 a0_6) := (blk_cell BK318.out 6).trans rfl
      have hcz16_7 : wc.cell? ⟨gb318, 7, none⟩ = some (.int .i64 a0_7) := (blk_cell BK318.out 7).trans rfl
      have hcz16_8 : wc.cell? ⟨gb318, 8, none⟩ = some (.int .i64 a0_8) := (blk_cell BK318.out 8).trans rfl
      have hcz16_9 : wc.cell? ⟨gb318, 9, none⟩ = some (.bool a0_9) := (blk_cell BK318.out 9).trans rfl
      have hcz16_10 : wc.cell? ⟨gb318, 10, none⟩ = some (.int .i64 a0_10) := (blk_cell BK318.out 10).trans rfl
      have hcz16_11 : wc.cell? ⟨gb318, 11, none⟩ = some (.string a0_11) := (blk_cell BK318.out 11).trans rfl
      have hcz16_12 : wc.cell? ⟨gb318, 12, none⟩ = some (.string a0_12) := (blk_cell BK318.out 12).trans rfl
      have hfz16_0 := blk_frozen BK318.out 0
      have hfz16_1 := blk_frozen BK318.out 1
      have hfz16_2 := blk_frozen BK318.out 2
      have hfz16_3 := blk_frozen BK318.out 3
      have hfz16_4 := blk_frozen BK318.out 4
      have hfz16_5 := blk_frozen BK318.out 5
      have hfz16_6 := blk_frozen BK318.out 6
      have hfz16_7 := blk_frozen BK318.out 7
      have hfz16_8 := blk_frozen BK318.out 8
      have hfz16_9 := blk_frozen BK318.out 9
      have hfz16_10 := blk_frozen BK318.out 10
      have hfz16_11 := blk_frozen BK318.out 11
      have hfz16_12 := blk_frozen BK318.out 12
      go_wp2_with (first | (go_at_call 44; (with_reducible refine (matching_Trade_Check_1.calls a0_1 false _ A9.out).mono ?_); rintro e w17 ⟨rfl, hb⟩; have n0_ := Aside0.mk (blk_below (g := gb318) (o := .cells #[.int .i64 a0_0, .string a0_1, .string a0_2, .string a0_3, .int .i64 a0_4, .int .i64 a0_5, .int .i64 a0_6, .int .i64 a0_7, .int .i64 a0_8, .bool a0_9, .int .i64 a0_10, .string a0_11, .string a0_12] 31 (0, 0)) (by (with_reducible repeat (first | refine blk_drewN ?_ _ | refine blk_drew ?_ | refine blk_alloc ?_ _)); exact BK318.out) hb); have n1_ := Aside0.mk (below_step (by repeat (first | (with_reducible first | exact HB.out | apply below_alloc | apply pw_below_drewN | apply below_drew1 | refine below_set ?_ GE318.out) | exact HB.out)) hb); clear BK318; clear HB; have BK318 := n0_; have HB := n1_; clear n0_ n1_; (try clear hb); (try clear hb2); (try clear hk); (try clear hi)))
      go_meet
      case rel => exact ⟨_, (true), (by first | rfl | (simp; done) | (simp [*]; done)), H', ⟨by have := HJ1.out; first | omega | exact Nat.le_refl _⟩, ⟨by (with_reducible repeat (first | refine blk_drewN ?_ _ | refine blk_drew ?_ | refine blk_alloc ?_ _)); exact BK318.out⟩, ⟨by repeat (first | (with_reducible first | exact HB.out | apply below_alloc | apply pw_below_drewN | apply below_drew1 | refine below_set ?_ GE318.out) | exact HB.out)⟩⟩
    case rest =>
     clear HC8
     try clear c1
     try clear c2
     try clear p2
     try clear c4
     try clear c4b0
     try clear c4b1
     try clear c7
     try clear c10
     try clear hcz12_0 hcz12_1 hcz12_10 hcz12_11 hcz12_12 hcz12_2 hcz12_3 hcz12_4 hcz12_5 hcz12_6 hcz12_7 hcz12_8 hcz12_9
     try clear hcz14_0 hcz14_1 hcz14_10 hcz14_11 hcz14_12 hcz14_2 hcz14_3 hcz14_4 hcz14_5 hcz14_6 hcz14_7 hcz14_8 hcz14_9
     try clear hcz16_0 hcz16_1 hcz16_10 hcz16_11 hcz16_12 hcz16_2 hcz16_3 hcz16_4 hcz16_5 hcz16_6 hcz16_7 hcz16_8 hcz16_9
     try clear hcz5_0 hcz5_1 hcz5_10 hcz5_11 hcz5_12 hcz5_2 hcz5_3 hcz5_4 hcz5_5 hcz5_6 hcz5_7 hcz5_8 hcz5_9
     try clear hcz6_0 hcz6_1 hcz6_10 hcz6_11 hcz6_12 hcz6_2 hcz6_3 hcz6_4 hcz6_5 hcz6_6 hcz6_7 hcz6_8 hcz6_9
     try clear hfz12_0 hfz12_1 hfz12_10 hfz12_11 hfz12_12 hfz12_2 hfz12_3 hfz12_4 hfz12_5 hfz12_6 hfz12_7 hfz12_8 hfz12_9
     try clear hfz14_0 hfz14_1 hfz14_10 hfz14_11 hfz14_12 hfz14_2 hfz14_3 hfz14_4 hfz14_5 hfz14_6 hfz14_7 hfz14_8 hfz14_9
     try clear hfz16_0 hfz16_1 hfz16_10 hfz16_11 hfz16_12 hfz16_2 hfz16_3 hfz16_4 hfz16_5 hfz16_6 hfz16_7 hfz16_8 hfz16_9
     try clear hfz5_0 hfz5_1 hfz5_10 hfz5_11 hfz5_12 hfz5_2 hfz5_3 hfz5_4 hfz5_5 hfz5_6 hfz5_7 hfz5_8 hfz5_9
     try clear hfz6_0 hfz6_1 hfz6_10 hfz6_11 hfz6_12 hfz6_2 hfz6_3 hfz6_4 hfz6_5 hfz6_6 hfz6_7 hfz6_8 hfz6_9
     try clear p2
     obtain ⟨kq, x14_7, rfl, HA, HJ7, BK318, HB⟩ := hcut
     cases kq with
     | zero => exact absurd HA.out (by simp [matching_Trade_Check.j1])
     | succ kj7 =>
      have H := HA.out
      clear HA
      simp only [matching_Trade_Check.j1] at H
      by_cases c18 : x14_7 = true
      ·subst c18
       have H1 : (some 6) = some r := by rw [if_pos rfl] at H; exact H
       clear H
       have H := H1
       clear H1
       obtain rfl := Option.some.inj H
       go_wp2
       go_ret
       exact ⟨by first | rfl | (simp [errW_none, errW_some] <;> rfl) | (simp [*, errW_none, errW_some] <;> rfl), by repeat (first | (with_reducible first | exact HB.out | apply below_alloc | apply pw_below_drewN | apply below_drew1 | refine below_set ?_ GE318.out) | exact HB.out)⟩
      ·replace c18 := Bool.eq_false_iff.mpr c18
       subst c18
       have H1 : (if a0_1.toList = a0_2.toList then (some 1) else ((ident_Valid.f 0 a0_3).bind fun t321 => (if t321 = true then ((matching_within.f a0_4 1 1000000000000000).bind fun t322 => (if t322 = true then (if a0_0 = 1 then ((matching_within.f a0_5 1 1000000000000000).bind fun t323 => (matching_Trade_Check.j2 kj7 (!t323) a0_0 a0_1 a0_2 a0_3 a0_4 a0_5 a0_6 a0_7 a0_8 a0_9 a0_10 a0_11 a0_12)) else (matching_Trade_Check.j2 kj7 false a0_0 a0_1 a0_2 a0_3 a0_4 a0_5 a0_6 a0_7 a0_8 a0_9 a0_10 a0_11 a0_12)) else (some 2))) else (some 6)))) = some r := by rw [if_neg (show ¬ (false = true) by decide)] at H; exact H
       clear H
       have H := H1
       clear H1
       by_cases c19 : a0_1.toList = a0_2.toList
       ·rw [if_pos c19] at H
        have c19b0 : (a0_1.toList == a0_2.toList) = true := beq_iff_eq.mpr c19
        have c19b1 : (a0_1.toList != a0_2.toList) = false := bne_eq_false_iff_eq.mpr c19
        clear c19
        obtain rfl := Option.some.inj H
        have hcz20_0 : wc.cell? ⟨gb318, 0, none⟩ = some (.int .i64 a0_0) := (blk_cell BK318.out 0).trans rfl
        have hcz20_1 : wc.cell? ⟨gb318, 1, none⟩ = some (.string a0_1) := (blk_cell BK318.out 1).trans rfl
        have hcz20_2 : wc.cell? ⟨gb318, 2, none⟩ = some (.string a0_2) := (blk_cell BK318.out 2).trans rfl
        have hcz20_3 : wc.cell? ⟨gb318, 3, none⟩ = some (.string a0_3) := (blk_cell BK318.out 3).trans rfl
        have hcz20_4 : wc.cell? ⟨gb318, 4, none⟩ = some (.int .i64 a0_4) := (blk_cell BK318.out 4).trans rfl
        have hcz20_5 : wc.cell? ⟨gb318, 5, none⟩ = some (.int .i64 a0_5) := (blk_cell BK318.out 5).trans rfl
        have hcz20_6 : wc.cell? ⟨gb318, 6, none⟩ = some (.int .i64 a0_6) := (blk_cell BK318.out 6).trans rfl
        have hcz20_7 : wc.cell? ⟨gb318, 7, none⟩ = some (.int .i64 a0_7) := (blk_cell BK318.out 7).trans rfl
        have hcz20_8 : wc.cell? ⟨gb318, 8, none⟩ = some (.int .i64 a0_8) := (blk_cell BK318.out 8).trans rfl
        have hcz20_9 : wc.cell? ⟨gb318, 9, none⟩ = some (.bool a0_9) := (blk_cell BK318.out 9).trans rfl
        have hcz20_10 : wc.cell? ⟨gb318, 10, none⟩ = some (.int .i64 a0_10) := (blk_cell BK318.out 10).trans rfl
        have hcz20_11 : wc.cell? ⟨gb318, 11, none⟩ = some (.string a0_11) := (blk_cell BK318.out 11).trans rfl
        have hcz20_12 : wc.cell? ⟨gb318, 12, none⟩ = some (.string a0_12) := (blk_cell BK318.out 12).trans rfl
        have hfz20_0 := blk_frozen BK318.out 0
        have hfz20_1 := blk_frozen BK318.out 1
        have hfz20_2 := blk_frozen BK318.out 2
        have hfz20_3 := blk_frozen BK318.out 3
        have hfz20_4 := blk_frozen BK318.out 4
        have hfz20_5 := blk_frozen BK318.out 5
        have hfz20_6 := blk_frozen BK318.out 6
        have hfz20_7 := blk_frozen BK318.out 7
        have hfz20_8 := blk_frozen BK318.out 8
        have hfz20_9 := blk_frozen BK318.out 9
        have hfz20_10 := blk_frozen BK318.out 10
        have hfz20_11 := blk_frozen BK318.out 11
        have hfz20_12 := blk_frozen BK318.out 12
        go_wp2
        go_ret
        exact ⟨by first | rfl | (simp [errW_none, errW_some] <;> rfl) | (simp [*, errW_none, errW_some] <;> rfl), by repeat (first | (with_reducible first | exact HB.out | apply below_alloc | apply pw_below_drewN | apply below_drew1 | refine below_set ?_ GE318.out) | exact HB.out)⟩
       ·rw [if_neg c19] at H
        have c19b0 : (a0_1.toList == a0_2.toList) = false := beq_eq_false_iff_ne.mpr c19
        have c19b1 : (a0_1.toList != a0_2.toList) = true := bne_iff_ne.mpr c19
        replace H := Option.bind_eq_some_iff.mp H
        obtain ⟨t321, A210, H⟩ := H
        replace H : (if t321 = true then ((matching_within.f a0_4 1 1000000000000000).bind fun t322 => (if t322 = true then (if a0_0 = 1 then ((matching_within.f a0_5 1 1000000000000000).bind fun t323 => (matching_Trade_Check.j2 kj7 (!t323) a0_0 a0_1 a0_2 a0_3 a0_4 a0_5 a0_6 a0_7 a0_8 a0_9 a0_10 a0_11 a0_12)) else (matching_Trade_Check.j2 kj7 false a0_0 a0_1 a0_2 a0_3 a0_4 a0_5 a0_6 a0_7 a0_8 a0_9 a0_10 a0_11 a0_12)) else (some 2))) else (some 6)) = some r := H
        have A21 := Aside0.mk A210
        clear A210
        by_cases c22 : t321 = true
        ·subst c22
         have H1 : ((matching_within.f a0_4 1 1000000000000000).bind fun t322 => (if t322 = true then (if a0_0 = 1 then ((matching_within.f a0_5 1 1000000000000000).bind fun t323 => (matching_Trade_Check.j2 kj7 (!t323) a0_0 a0_1 a0_2 a0_3 a0_4 a0_5 a0_6 a0_7 a0_8 a0_9 a0_10 a0_11 a0_12)) else (matching_Trade_Check.j2 kj7 false a0_0 a0_1 a0_2 a0_3 a0_4 a0_5 a0_6 a0_7 a0_8 a0_9 a0_10 a0_11 a0_12)) else (some 2))) = some r := by rw [if_pos rfl] at H; exact H
         clear H
         have H := H1
         clear H1
         replace H := Option.bind_eq_some_iff.mp H
         obtain ⟨t322, A230, H⟩ := H
         replace H : (if t322 = true then (if a0_0 = 1 then ((matching_within.f a0_5 1 1000000000000000).bind fun t323 => (matching_Trade_Check.j2 kj7 (!t323) a0_0 a0_1 a0_2 a0_3 a0_4 a0_5 a0_6 a0_7 a0_8 a0_9 a0_10 a0_11 a0_12)) else (matching_Trade_Check.j2 kj7 false a0_0 a0_1 a0_2 a0_3 a0_4 a0_5 a0_6 a0_7 a0_8 a0_9 a0_10 a0_11 a0_12)) else (some 2)) = some r := H
         have A23 := Aside0.mk A230
         clear A230
         by_cases c24 : t322 = true
         ·subst c24
          have H1 : (if a0_0 = 1 then ((matching_within.f a0_5 1 1000000000000000).bind fun t323 => (matching_Trade_Check.j2 kj7 (!t323) a0_0 a0_1 a0_2 a0_3 a0_4 a0_5 a0_6 a0_7 a0_8 a0_9 a0_10 a0_11 a0_12)) else (matching_Trade_Check.j2 kj7 false a0_0 a0_1 a0_2 a0_3 a0_4 a0_5 a0_6 a0_7 a0_8 a0_9 a0_10 a0_11 a0_12)) = some r := by rw [if_pos rfl] at H; exact H
          clear H
          have H := H1
          clear H1
          have HC25 := Aside0.mk H
          clear H
          have hcz26_0 : wc.cell? ⟨gb318, 0, none⟩ = some (.int .i64 a0_0) := (blk_cell BK318.out 0).trans rfl
          have hcz26_1 : wc.cell? ⟨gb318, 1, none⟩ = some (.string a0_1) := (blk_cell BK318.out 1).trans rfl
          have hcz26_2 : wc.cell? ⟨gb318, 2, none⟩ = some (.string a0_2) := (blk_cell BK318.out 2).trans rfl
          have hcz26_3 : wc.cell? ⟨gb318, 3, none⟩ = some (.string a0_3) := (blk_cell BK318.out 3).trans rfl
          have hcz26_4 : wc.cell? ⟨gb318, 4, none⟩ = some (.int .i64 a0_4) := (blk_cell BK318.out 4).trans rfl
          have hcz26_5 : wc.cell? ⟨gb318, 5, none⟩ = some (.int .i64 a0_5) := (blk_cell BK318.out 5).trans rfl
          have hcz26_6 : wc.cell? ⟨gb318, 6, none⟩ = some (.int .i64 a0_6) := (blk_cell BK318.out 6).trans rfl
          have hcz26_7 : wc.cell? ⟨gb318, 7, none⟩ = some (.int .i64 a0_7) := (blk_cell BK318.out 7).trans rfl
          have hcz26_8 : wc.cell? ⟨gb318, 8, none⟩ = some (.int .i64 a0_8) := (blk_cell BK318.out 8).trans rfl
          have hcz26_9 : wc.cell? ⟨gb318, 9, none⟩ = some (.bool a0_9) := (blk_cell BK318.out 9).trans rfl
          have hcz26_10 : wc.cell? ⟨gb318, 10, none⟩ = some (.int .i64 a0_10) := (blk_cell BK318.out 10).trans rfl
          have hcz26_11 : wc.cell? ⟨gb318, 11, none⟩ = some (.string a0_11) := (blk_cell BK318.out 11).trans rfl
          have hcz26_12 : wc.cell? ⟨gb318, 12, none⟩ = some (.string a0_12) := (blk_cell BK318.out 12).trans rfl
          have hfz26_0 := blk_frozen BK318.out 0
          have hfz26_1 := blk_frozen BK318.out 1
          have hfz26_2 := blk_frozen BK318.out 2
          have hfz26_3 := blk_frozen BK318.out 3
          have hfz26_4 := blk_frozen BK318.out 4
          have hfz26_5 := blk_frozen BK318.out 5
          have hfz26_6 := blk_frozen BK318.out 6
          have hfz26_7 := blk_frozen BK318.out 7
          have hfz26_8 := blk_frozen BK318.out 8
          have hfz26_9 := blk_frozen BK318.out 9
          have hfz26_10 := blk_frozen BK318.out 10
          have hfz26_11 := blk_frozen BK318.out 11
          have hfz26_12 := blk_frozen BK318.out 12
          go_upto_region 13 with (first | ((with_reducible refine gate_callee (f := 45) rfl ?_); refine goesL_ (some 36) rfl rfl Tryd.func45 (by kernel_rfl) rfl #[.int .i64 0, .string a0_3] rfl (by (try simp only [List.map_toArray, List.map_cons, List.map_nil]); first | done | rfl | (simp only [List.length_drop, List.length_take]; rfl)) ?_; (with_reducible refine (ident_Valid.calls 0 a0_3 true _ A21.out).mono ?_); rintro e w27 ⟨rfl, hb⟩; refine ⟨_, rfl, ?_⟩; have n0_ := Aside0.mk (blk_below (g := gb318) (o := .cells #[.int .i64 a0_0, .string a0_1, .string a0_2, .string a0_3, .int .i64 a0_4, .int .i64 a0_5, .int .i64 a0_6, .int .i64 a0_7, .int .i64 a0_8, .bool a0_9, .int .i64 a0_10, .string a0_11, .string a0_12] 31 (0, 0)) (by (with_reducible repeat (first | refine blk_drewN ?_ _ | refine blk_drew ?_ | refine blk_alloc ?_ _)); exact BK318.out) hb); have n1_ := Aside0.mk (below_step (by repeat (first | (with_reducible first | exact HB.out | apply below_alloc | apply pw_below_drewN | apply below_drew1 | refine below_set ?_ GE318.out) | exact HB.out)) hb); clear BK318; clear HB; have BK318 := n0_; have HB := n1_; clear n0_ n1_; (try clear hb); (try clear hb2); (try clear hk); (try clear hi); have hcz28_0 : w27.cell? ⟨gb318, 0, none⟩ = some (.int .i64 a0_0) := (blk_cell BK318.out 0).trans rfl; have hcz28_1 : w27.cell? ⟨gb318, 1, none⟩ = some (.string a0_1) := (blk_cell BK318.out 1).trans rfl; have hcz28_2 : w27.cell? ⟨gb318, 2, none⟩ = some (.string a0_2) := (blk_cell BK318.out 2).trans rfl; have hcz28_3 : w27.cell? ⟨gb318, 3, none⟩ = some (.string a0_3) := (blk_cell BK318.out 3).trans rfl; have hcz28_4 : w27.cell? ⟨gb318, 4, none⟩ = some (.int .i64 a0_4) := (blk_cell BK318.out 4).trans rfl; have hcz28_5 : w27.cell? ⟨gb318, 5, none⟩ = some (.int .i64 a0_5) := (blk_cell BK318.out 5).trans rfl; have hcz28_6 : w27.cell? ⟨gb318, 6, none⟩ = some (.int .i64 a0_6) := (blk_cell BK318.out 6).trans rfl; have hcz28_7 : w27.cell? ⟨gb318, 7, none⟩ = some (.int .i64 a0_7) := (blk_cell BK318.out 7).trans rfl; have hcz28_8 : w27.cell? ⟨gb318, 8, none⟩ = some (.int .i64 a0_8) := (blk_cell BK318.out 8).trans rfl; have hcz28_9 : w27.cell? ⟨gb318, 9, none⟩ = some (.bool a0_9) := (blk_cell BK318.out 9).trans rfl; have hcz28_10 : w27.cell? ⟨gb318, 10, none⟩ = some (.int .i64 a0_10) := (blk_cell BK318.out 10).trans rfl; have hcz28_11 : w27.cell? ⟨gb318, 11, none⟩ = some (.string a0_11) := (blk_cell BK318.out 11).trans rfl; have hcz28_12 : w27.cell? ⟨gb318, 12, none⟩ = some (.string a0_12) := (blk_cell BK318.out 12).trans rfl; have hfz28_0 := blk_frozen BK318.out 0; have hfz28_1 := blk_frozen BK318.out 1; have hfz28_2 := blk_frozen BK318.out 2; have hfz28_3 := blk_frozen BK318.out 3; have hfz28_4 := blk_frozen BK318.out 4; have hfz28_5 := blk_frozen BK318.out 5; have hfz28_6 := blk_frozen BK318.out 6; have hfz28_7 := blk_frozen BK318.out 7; have hfz28_8 := blk_frozen BK318.out 8; have hfz28_9 := blk_frozen BK318.out 9; have hfz28_10 := blk_frozen BK318.out 10; have hfz28_11 := blk_frozen BK318.out 11; have hfz28_12 := blk_frozen BK318.out 12) | ((with_reducible refine gate_callee (f := 47) rfl ?_); refine goesL_ (some 41) rfl rfl Tryd.func47 (by kernel_rfl) rfl #[.int .i64 a0_4, .int .i64 1, .int .i64 1000000000000000] rfl (by (try simp only [List.map_toArray, List.map_cons, List.map_nil]); first | done | rfl | (simp only [List.length_drop, List.length_take]; rfl)) ?_; (with_reducible refine (matching_within.calls a0_4 1 1000000000000000 true _ A23.out).mono ?_); rintro e w' ⟨rfl, ⟨nd, rfl⟩⟩; refine ⟨_, rfl, ?_⟩))
          (try simp only [Act.put, List.setIfInBounds_toArray, List.set_cons_zero, List.set_cons_succ])
          go_cut [43] (fun v43 wc => ∃ (kq : Nat) (x43_24 : Bool), v43 = .bool x43_24 ∧ Aside0 (matching_Trade_Check.j2 kq x43_24 a0_0 a0_1 a0_2 a0_3 a0_4 a0_5 a0_6 a0_7 a0_8 a0_9 a0_10 a0_11 a0_12 = some r) ∧ Aside0 (kq ≤ kj7) ∧ Aside0 (wc.heap[gb318]? = some (.cells #[.int .i64 a0_0, .string a0_1, .string a0_2, .string a0_3, .int .i64 a0_4, .int .i64 a0_5, .int .i64 a0_6, .int .i64 a0_7, .int .i64 a0_8, .bool a0_9, .int .i64 a0_10, .string a0_11, .string a0_12] 31 (0, 0))) ∧ Aside0 (Below w.heap.size w wc))
          case first =>
           have H := HC25.out
           clear HC25
           by_cases c29 : a0_0 = 1
           ·rw [if_pos c29] at H
            have c29b0 : (a0_0 == 1) = true := beq_iff_eq.mpr c29
            have c29b1 : (a0_0 != 1) = false := bne_eq_false_iff_eq.mpr c29
            clear c29
            (first | rw [c29b0] | (simp only [i64_w, i32_w]; rw [c29b0]) | skip)
            replace H := Option.bind_eq_some_iff.mp H
            obtain ⟨t323, A300, H⟩ := H
            replace H : (matching_Trade_Check.j2 kj7 (!t323) a0_0 a0_1 a0_2 a0_3 a0_4 a0_5 a0_6 a0_7 a0_8 a0_9 a0_10 a0_11 a0_12) = some r := H
            have A30 := Aside0.mk A300
            clear A300
            have H' := Aside0.mk H
            clear H
            have hcz31_0 : w27.cell? ⟨gb318, 0, none⟩ = some (.int .i64 a0_0) := (blk_cell BK318.out 0).trans rfl
            have hcz31_1 : w27.cell? ⟨gb318, 1, none⟩ = some (.string a0_1) := (blk_cell BK318.out 1).trans rfl
            have hcz31_2 : w27.cell? ⟨gb318, 2, none⟩ = some (.string a0_2) := (blk_cell BK318.out 2).trans rfl
            have hcz31_3 : w27.cell? ⟨gb318, 3, none⟩ = some (.string a0_3) := (blk_cell BK318.out 3).trans rfl
            have hcz31_4 : w27.cell? ⟨gb318, 4, none⟩ = some (.int .i64 a0_4) := (blk_cell BK318.out 4).trans rfl
            have hcz31_5 : w27.cell? ⟨gb318, 5, none⟩ = some (.int .i64 a0_5) := (blk_cell BK318.out 5).trans rfl
            have hcz31_6 : w27.cell? ⟨gb318, 6, none⟩ = some (.int .i64 a0_6) := (blk_cell BK318.out 6).trans rfl
            have hcz31_7 : w27.cell? ⟨gb318, 7, none⟩ = some (.int .i64 a0_7) := (blk_cell BK318.out 7).trans rfl
            have hcz31_8 : w27.cell? ⟨gb318, 8, none⟩ = some (.int .i64 a0_8) := (blk_cell BK318.out 8).trans rfl
            have hcz31_9 : w27.cell? ⟨gb318, 9, none⟩ = some (.bool a0_9) := (blk_cell BK318.out 9).trans rfl
            have hcz31_10 : w27.cell? ⟨gb318, 10, none⟩ = some (.int .i64 a0_10) := (blk_cell BK318.out 10).trans rfl
            have hcz31_11 : w27.cell? ⟨gb318, 11, none⟩ = some (.string a0_11) := (blk_cell BK318.out 11).trans rfl
            have hcz31_12 : w27.cell? ⟨gb318, 12, none⟩ = some (.string a0_12) := (blk_cell BK318.out 12).trans rfl
            have hfz31_0 := blk_frozen BK318.out 0
            have hfz31_1 := blk_frozen BK318.out 1
            have hfz31_2 := blk_frozen BK318.out 2
            have hfz31_3 := blk_frozen BK318.out 3
            have hfz31_4 := blk_frozen BK318.out 4
            have hfz31_5 := blk_frozen BK318.out 5
            have hfz31_6 := blk_frozen BK318.out 6
            have hfz31_7 := blk_frozen BK318.out 7
            have hfz31_8 := blk_frozen BK318.out 8
            have hfz31_9 := blk_frozen BK318.out 9
            have hfz31_10 := blk_frozen BK318.out 10
            have hfz31_11 := blk_frozen BK318.out 11
            have hfz31_12 := blk_frozen BK318.out 12
            go_wp2_with (first | (go_at_call 47; (with_reducible refine (matching_within.calls a0_5 1 1000000000000000 t323 _ A30.out).mono ?_); rintro e w' ⟨rfl, ⟨nd, rfl⟩⟩))
            go_meet
            case rel => exact ⟨_, (!t323), (by first | rfl | (simp; done) | (simp [*]; done)), H', ⟨by have := HJ1.out; have := HJ7.out; first | omega | exact Nat.le_refl _⟩, ⟨by (with_reducible repeat (first | refine blk_drewN ?_ _ | refine blk_drew ?_ | refine blk_alloc ?_ _)); exact BK318.out⟩, ⟨by repeat (first | (with_reducible first | exact HB.out | apply below_alloc | apply pw_below_drewN | apply below_drew1 | refine below_set ?_ GE318.out) | exact HB.out)⟩⟩
           ·rw [if_neg c29] at H
            have c29b0 : (a0_0 == 1) = false := beq_eq_false_iff_ne.mpr c29
            have c29b1 : (a0_0 != 1) = true := bne_iff_ne.mpr c29
            (first | rw [c29b0] | (simp only [i64_w, i32_w]; rw [c29b0]) | skip)
            have H' := Aside0.mk H
            clear H
            have hcz32_0 : w27.cell? ⟨gb318, 0, none⟩ = some (.int .i64 a0_0) := (blk_cell BK318.out 0).trans rfl
            have hcz32_1 : w27.cell? ⟨gb318, 1, none⟩ = some (.string a0_1) := (blk_cell BK318.out 1).trans rfl
            have hcz32_2 : w27.cell? ⟨gb318, 2, none⟩ = some (.string a0_2) := (blk_cell BK318.out 2).trans rfl
            have hcz32_3 : w27.cell? ⟨gb318, 3, none⟩ = some (.string a0_3) := (blk_cell BK318.out 3).trans rfl
            have hcz32_4 : w27.cell? ⟨gb318, 4, none⟩ = some (.int .i64 a0_4) := (blk_cell BK318.out 4).trans rfl
            have hcz32_5 : w27.cell? ⟨gb318, 5, none⟩ = some (.int .i64 a0_5) := (blk_cell BK318.out 5).trans rfl
            have hcz32_6 : w27.cell? ⟨gb318, 6, none⟩ = some (.int .i64 a0_6) := (blk_cell BK318.out 6).trans rfl
            have hcz32_7 : w27.cell? ⟨gb318, 7, none⟩ = some (.int .i64 a0_7) := (blk_cell BK318.out 7).trans rfl
            have hcz32_8 : w27.cell? ⟨gb318, 8, none⟩ = some (.int .i64 a0_8) := (blk_cell BK318.out 8).trans rfl
            have hcz32_9 : w27.cell? ⟨gb318, 9, none⟩ = some (.bool a0_9) := (blk_cell BK318.out 9).trans rfl
            have hcz32_10 : w27.cell? ⟨gb318, 10, none⟩ = some (.int .i64 a0_10) := (blk_cell BK318.out 10).trans rfl
            have hcz32_11 : w27.cell? ⟨gb318, 11, none⟩ = some (.string a0_11) := (blk_cell BK318.out 11).trans rfl
            have hcz32_12 : w27.cell? ⟨gb318, 12, none⟩ = some (.string a0_12) := (blk_cell BK318.out 12).trans rfl
            have hfz32_0 := blk_frozen BK318.out 0
            have hfz32_1 := blk_frozen BK318.out 1
            have hfz32_2 := blk_frozen BK318.out 2
            have hfz32_3 := blk_frozen BK318.out 3
            have hfz32_4 := blk_frozen BK318.out 4
            have hfz32_5 := blk_frozen BK318.out 5
            have hfz32_6 := blk_frozen BK318.out 6
            have hfz32_7 := blk_frozen BK318.out 7
            have hfz32_8 := blk_frozen BK318.out 8
            have hfz32_9 := blk_frozen BK318.out 9
            have hfz32_10 := blk_frozen BK318.out 10
            have hfz32_11 := blk_frozen BK318.out 11
            have hfz32_12 := blk_frozen BK318.out 12
            go_wp2
            go_meet
            case rel => exact ⟨_, (false), (by first | rfl | (simp; done) | (simp [*]; done)), H', ⟨by have := HJ1.out; have := HJ7.out; first | omega | exact Nat.le_refl _⟩, ⟨by (with_reducible repeat (first | refine blk_drewN ?_ _ | refine blk_drew ?_ | refine blk_alloc ?_ _)); exact BK318.out⟩, ⟨by repeat (first | (with_reducible first | exact HB.out | apply below_alloc | apply pw_below_drewN | apply below_drew1 | refine below_set ?_ GE318.out) | exact HB.out)⟩⟩
          case rest =>
           clear HC25
           try clear c1
           try clear c2
           try clear p2
           try clear c4
           try clear c4b0
           try clear c4b1
           try clear c7
           try clear c10
           try clear c18
           try clear c19
           try clear c19b0
           try clear c19b1
           try clear c22
           try clear c24
           try clear c26
           try clear c29
           try clear c29b0
           try clear c29b1
           try clear hcz12_0 hcz12_1 hcz12_10 hcz12_11 hcz12_12 hcz12_2 hcz12_3 hcz12_4 hcz12_5 hcz12_6 hcz12_7 hcz12_8 hcz12_9
           try clear hcz14_0 hcz14_1 hcz14_10 hcz14_11 hcz14_12 hcz14_2 hcz14_3 hcz14_4 hcz14_5 hcz14_6 hcz14_7 hcz14_8 hcz14_9
           try clear hcz16_0 hcz16_1 hcz16_10 hcz16_11 hcz16_12 hcz16_2 hcz16_3 hcz16_4 hcz16_5 hcz16_6 hcz16_7 hcz16_8 hcz16_9
           try clear hcz20_0 hcz20_1 hcz20_10 hcz20_11 hcz20_12 hcz20_2 hcz20_3 hcz20_4 hcz20_5 hcz20_6 hcz20_7 hcz20_8 hcz20_9
           try clear hcz26_0 hcz26_1 hcz26_10 hcz26_11 hcz26_12 hcz26_2 hcz26_3 hcz26_4 hcz26_5 hcz26_6 hcz26_7 hcz26_8 hcz26_9
           try clear hcz28_0 hcz28_1 hcz28_10 hcz28_11 hcz28_12 hcz28_2 hcz28_3 hcz28_4 hcz28_5 hcz28_6 hcz28_7 hcz28_8 hcz28_9
           try clear hcz31_0 hcz31_1 hcz31_10 hcz31_11 hcz31_12 hcz31_2 hcz31_3 hcz31_4 hcz31_5 hcz31_6 hcz31_7 hcz31_8 hcz31_9
           try clear hcz32_0 hcz32_1 hcz32_10 hcz32_11 hcz32_12 hcz32_2 hcz32_3 hcz32_4 hcz32_5 hcz32_6 hcz32_7 hcz32_8 hcz32_9
           try clear hcz5_0 hcz5_1 hcz5_10 hcz5_11 hcz5_12 hcz5_2 hcz5_3 hcz5_4 hcz5_5 hcz5_6 hcz5_7 hcz5_8 hcz5_9
           try clear hcz6_0 hcz6_1 hcz6_10 hcz6_11 hcz6_12 hcz6_2 hcz6_3 hcz6_4 hcz6_5 hcz6_6 hcz6_7 hcz6_8 hcz6_9
           try clear hfz12_0 hfz12_1 hfz12_10 hfz12_11 hfz12_12 hfz12_2 hfz12_3 hfz12_4 hfz12_5 hfz12_6 hfz12_7 hfz12_8 hfz12_9
           try clear hfz14_0 hfz14_1 hfz14_10 hfz14_11 hfz14_12 hfz14_2 hfz14_3 hfz14_4 hfz14_5 hfz14_6 hfz14_7 hfz14_8 hfz14_9
           try clear hfz16_0 hfz16_1 hfz16_10 hfz16_11 hfz16_12 hfz16_2 hfz16_3 hfz16_4 hfz16_5 hfz16_6 hfz16_7 hfz16_8 hfz16_9
           try clear hfz20_0 hfz20_1 hfz20_10 hfz20_11 hfz20_12 hfz20_2 hfz20_3 hfz20_4 hfz20_5 hfz20_6 hfz20_7 hfz20_8 hfz20_9
           try clear hfz26_0 hfz26_1 hfz26_10 hfz26_11 hfz26_12 hfz26_2 hfz26_3 hfz26_4 hfz26_5 hfz26_6 hfz26_7 hfz26_8 hfz26_9
           try clear hfz28_0 hfz28_1 hfz28_10 hfz28_11 hfz28_12 hfz28_2 hfz28_3 hfz28_4 hfz28_5 hfz28_6 hfz28_7 hfz28_8 hfz28_9
           try clear hfz31_0 hfz31_1 hfz31_10 hfz31_11 hfz31_12 hfz31_2 hfz31_3 hfz31_4 hfz31_5 hfz31_6 hfz31_7 hfz31_8 hfz31_9
           try clear hfz32_0 hfz32_1 hfz32_10 hfz32_11 hfz32_12 hfz32_2 hfz32_3 hfz32_4 hfz32_5 hfz32_6 hfz32_7 hfz32_8 hfz32_9
           try clear hfz5_0 hfz5_1 hfz5_10 hfz5_11 hfz5_12 hfz5_2 hfz5_3 hfz5_4 hfz5_5 hfz5_6 hfz5_7 hfz5_8 hfz5_9
           try clear hfz6_0 hfz6_1 hfz6_10 hfz6_11 hfz6_12 hfz6_2 hfz6_3 hfz6_4 hfz6_5 hfz6_6 hfz6_7 hfz6_8 hfz6_9
           try clear p2
           obtain ⟨kq, x43_24, rfl, HA, HJ24, BK318, HB⟩ := hcut
           cases kq with
           | zero => exact absurd HA.out (by simp [matching_Trade_Check.j2])
           | succ kj24 =>
            have H := HA.out
            clear HA
            simp only [matching_Trade_Check.j2] at H
            have HC33 := Aside0.mk H
            clear H
            go_upto_if 43 with (fail)
            go_cut [43] (fun v43 wc => ∃ (kq : Nat) (x43_32 : Bool), v43 = .bool x43_32 ∧ Aside0 (matching_Trade_Check.j3 kq x43_32 a0_0 a0_1 a0_2 a0_3 a0_4 a0_5 a0_6 a0_7 a0_8 a0_9 a0_10 a0_11 a0_12 = some r) ∧ Aside0 (kq ≤ kj24) ∧ Aside0 (wc.heap[gb318]? = some (.cells #[.int .i64 a0_0, .string a0_1, .string a0_2, .string a0_3, .int .i64 a0_4, .int .i64 a0_5, .int .i64 a0_6, .int .i64 a0_7, .int .i64 a0_8, .bool a0_9, .int .i64 a0_10, .string a0_11, .string a0_12] 31 (0, 0))) ∧ Aside0 (Below w.heap.size w wc))
            case first =>
             have H := HC33.out
             clear HC33
             by_cases c34 : x43_24 = true
             ·subst c34
              have H1 : (matching_Trade_Check.j3 kj24 true a0_0 a0_1 a0_2 a0_3 a0_4 a0_5 a0_6 a0_7 a0_8 a0_9 a0_10 a0_11 a0_12) = some r := by rw [if_pos rfl] at H; exact H
              clear H
              have H := H1
              clear H1
              have H' := Aside0.mk H
              clear H
              go_wp2
              go_meet
              case rel => exact ⟨_, (true), (by first | rfl | (simp; done) | (simp [*]; done)), H', ⟨by have := HJ1.out; have := HJ7.out; have := HJ24.out; first | omega | exact Nat.le_refl _⟩, ⟨by (with_reducible repeat (first | refine blk_drewN ?_ _ | refine blk_drew ?_ | refine blk_alloc ?_ _)); exact BK318.out⟩, ⟨by repeat (first | (with_reducible first | exact HB.out | apply below_alloc | apply pw_below_drewN | apply below_drew1 | refine below_set ?_ GE318.out) | exact HB.out)⟩⟩
             ·replace c34 := Bool.eq_false_iff.mpr c34
              subst c34
              have H1 : (if a0_0 = 2 then (matching_Trade_Check.j3 kj24 (a0_5 != 0) a0_0 a0_1 a0_2 a0_3 a0_4 a0_5 a0_6 a0_7 a0_8 a0_9 a0_10 a0_11 a0_12) else (matching_Trade_Check.j3 kj24 false a0_0 a0_1 a0_2 a0_3 a0_4 a0_5 a0_6 a0_7 a0_8 a0_9 a0_10 a0_11 a0_12)) = some r := by rw [if_neg (show ¬ (false = true) by decide)] at H; exact H
              clear H
              have H := H1
              clear H1
              by_cases c35 : a0_0 = 2
              ·rw [if_pos c35] at H
               have c35b0 : (a0_0 == 2) = true := beq_iff_eq.mpr c35
               have c35b1 : (a0_0 != 2) = false := bne_eq_false_iff_eq.mpr c35
               clear c35
               (first | rw [c35b0] | (simp only [i64_w, i32_w]; rw [c35b0]) | skip)
               have H' := Aside0.mk H
               clear H
               have hcz36_0 : wc.cell? ⟨gb318, 0, none⟩ = some (.int .i64 a0_0) := (blk_cell BK318.out 0).trans rfl
               have hcz36_1 : wc.cell? ⟨gb318, 1, none⟩ = some (.string a0_1) := (blk_cell BK318.out 1).trans rfl
               have hcz36_2 : wc.cell? ⟨gb318, 2, none⟩ = some (.string a0_2) := (blk_cell BK318.out 2).trans rfl
               have hcz36_3 : wc.cell? ⟨gb318, 3, none⟩ = some (.string a0_3) := (blk_cell BK318.out 3).trans rfl
               have hcz36_4 : wc.cell? ⟨gb318, 4, none⟩ = some (.int .i64 a0_4) := (blk_cell BK318.out 4).trans rfl
               have hcz36_5 : wc.cell? ⟨gb318, 5, none⟩ = some (.int .i64 a0_5) := (blk_cell BK318.out 5).trans rfl
               have hcz36_6 : wc.cell? ⟨gb318, 6, none⟩ = some (.int .i64 a0_6) := (blk_cell BK318.out 6).trans rfl
               have hcz36_7 : wc.cell? ⟨gb318, 7, none⟩ = some (.int .i64 a0_7) := (blk_cell BK318.out 7).trans rfl
               have hcz36_8 : wc.cell? ⟨gb318, 8, none⟩ = some (.int .i64 a0_8) := (blk_cell BK318.out 8).trans rfl
               have hcz36_9 : wc.cell? ⟨gb318, 9, none⟩ = some (.bool a0_9) := (blk_cell BK318.out 9).trans rfl
               have hcz36_10 : wc.cell? ⟨gb318, 10, none⟩ = some (.int .i64 a0_10) := (blk_cell BK318.out 10).trans rfl
               have hcz36_11 : wc.cell? ⟨gb318, 11, none⟩ = some (.string a0_11) := (blk_cell BK318.out 11).trans rfl
               have hcz36_12 : wc.cell? ⟨gb318, 12, none⟩ = some (.string a0_12) := (blk_cell BK318.out 12).trans rfl
               have hfz36_0 := blk_frozen BK318.out 0
               have hfz36_1 := blk_frozen BK318.out 1
               have hfz36_2 := blk_frozen BK318.out 2
               have hfz36_3 := blk_frozen BK318.out 3
               have hfz36_4 := blk_frozen BK318.out 4
               have hfz36_5 := blk_frozen BK318.out 5
               have hfz36_6 := blk_frozen BK318.out 6
               have hfz36_7 := blk_frozen BK318.out 7
               have hfz36_8 := blk_frozen BK318.out 8
               have hfz36_9 := blk_frozen BK318.out 9
               have hfz36_10 := blk_frozen BK318.out 10
               have hfz36_11 := blk_frozen BK318.out 11
               have hfz36_12 := blk_frozen BK318.out 12
               go_wp2
               go_meet
               case rel => exact ⟨_, ((a0_5 != 0)), (by first | rfl | (simp; done) | (simp [*]; done)), H', ⟨by have := HJ1.out; have := HJ7.out; have := HJ24.out; first | omega | exact Nat.le_refl _⟩, ⟨by (with_reducible repeat (first | refine blk_drewN ?_ _ | refine blk_drew ?_ | refine blk_alloc ?_ _)); exact BK318.out⟩, ⟨by repeat (first | (with_reducible first | exact HB.out | apply below_alloc | apply pw_below_drewN | apply below_drew1 | refine below_set ?_ GE318.out) | exact HB.out)⟩⟩
              ·rw [if_neg c35] at H
               have c35b0 : (a0_0 == 2) = false := beq_eq_false_iff_ne.mpr c35
               have c35b1 : (a0_0 != 2) = true := bne_iff_ne.mpr c35
               (first | rw [c35b0] | (simp only [i64_w, i32_w]; rw [c35b0]) | skip)
               have H' := Aside0.mk H
               clear H
               have hcz37_0 : wc.cell? ⟨gb318, 0, none⟩ = some (.int .i64 a0_0) := (blk_cell BK318.out 0).trans rfl
               have hcz37_1 : wc.cell? ⟨gb318, 1, none⟩ = some (.string a0_1) := (blk_cell BK318.out 1).trans rfl
               have hcz37_2 : wc.cell? ⟨gb318, 2, none⟩ = some (.string a0_2) := (blk_cell BK318.out 2).trans rfl
               have hcz37_3 : wc.cell? ⟨gb318, 3, none⟩ = some (.string a0_3) := (blk_cell BK318.out 3).trans rfl
               have hcz37_4 : wc.cell? ⟨gb318, 4, none⟩ = some (.int .i64 a0_4) := (blk_cell BK318.out 4).trans rfl
               have hcz37_5 : wc.cell? ⟨gb318, 5, none⟩ = some (.int .i64 a0_5) := (blk_cell BK318.out 5).trans rfl
               have hcz37_6 : wc.cell? ⟨gb318, 6, none⟩ = some (.int .i64 a0_6) := (blk_cell BK318.out 6).trans rfl
               have hcz37_7 : wc.cell? ⟨gb318, 7, none⟩ = some (.int .i64 a0_7) := (blk_cell BK318.out 7).trans rfl
               have hcz37_8 : wc.cell? ⟨gb318, 8, none⟩ = some (.int .i64 a0_8) := (blk_cell BK318.out 8).trans rfl
               have hcz37_9 : wc.cell? ⟨gb318, 9, none⟩ = some (.bool a0_9) := (blk_cell BK318.out 9).trans rfl
               have hcz37_10 : wc.cell? ⟨gb318, 10, none⟩ = some (.int .i64 a0_10) := (blk_cell BK318.out 10).trans rfl
               have hcz37_11 : wc.cell? ⟨gb318, 11, none⟩ = some (.string a0_11) := (blk_cell BK318.out 11).trans rfl
               have hcz37_12 : wc.cell? ⟨gb318, 12, none⟩ = some (.string a0_12) := (blk_cell BK318.out 12).trans rfl
               have hfz37_0 := blk_frozen BK318.out 0
               have hfz37_1 := blk_frozen BK318.out 1
               have hfz37_2 := blk_frozen BK318.out 2
               have hfz37_3 := blk_frozen BK318.out 3
               have hfz37_4 := blk_frozen BK318.out 4
               have hfz37_5 := blk_frozen BK318.out 5
               have hfz37_6 := blk_frozen BK318.out 6
               have hfz37_7 := blk_frozen BK318.out 7
               have hfz37_8 := blk_frozen BK318.out 8
               have hfz37_9 := blk_frozen BK318.out 9
               have hfz37_10 := blk_frozen BK318.out 10
               have hfz37_11 := blk_frozen BK318.out 11
               have hfz37_12 := blk_frozen BK318.out 12
               go_wp2
               go_meet
               case rel => exact ⟨_, (false), (by first | rfl | (simp; done) | (simp [*]; done)), H', ⟨by have := HJ1.out; have := HJ7.out; have := HJ24.out; first | omega | exact Nat.le_refl _⟩, ⟨by (with_reducible repeat (first | refine blk_drewN ?_ _ | refine blk_drew ?_ | refine blk_alloc ?_ _)); exact BK318.out⟩, ⟨by repeat (first | (with_reducible first | exact HB.out | apply below_alloc | apply pw_below_drewN | apply below_drew1 | refine below_set ?_ GE318.out) | exact HB.out)⟩⟩
            case rest =>
             clear HC33
             try clear c1
             try clear c2
             try clear p2
             try clear c3
             try clear c4
             try clear c4b0
             try clear c4b1
             try clear c7
             try clear c10
             try clear c18
             try clear c19
             try clear c19b0
             try clear c19b1
             try clear c22
             try clear c24
             try clear c26
             try clear c29
             try clear c29b0
             try clear c29b1
             try clear c34
             try clear c35
             try clear c35b0
             try clear c35b1
             try clear hcz12_0 hcz12_1 hcz12_10 hcz12_11 hcz12_12 hcz12_2 hcz12_3 hcz12_4 hcz12_5 hcz12_6 hcz12_7 hcz12_8 hcz12_9
             try clear hcz14_0 hcz14_1 hcz14_10 hcz14_11 hcz14_12 hcz14_2 hcz14_3 hcz14_4 hcz14_5 hcz14_6 hcz14_7 hcz14_8 hcz14_9
             try clear hcz16_0 hcz16_1 hcz16_10 hcz16_11 hcz16_12 hcz16_2 hcz16_3 hcz16_4 hcz16_5 hcz16_6 hcz16_7 hcz16_8 hcz16_9
             try clear hcz20_0 hcz20_1 hcz20_10 hcz20_11 hcz20_12 hcz20_2 hcz20_3 hcz20_4 hcz20_5 hcz20_6 hcz20_7 hcz20_8 hcz20_9
             try clear hcz26_0 hcz26_1 hcz26_10 hcz26_11 hcz26_12 hcz26_2 hcz26_3 hcz26_4 hcz26_5 hcz26_6 hcz26_7 hcz26_8 hcz26_9
             try clear hcz28_0 hcz28_1 hcz28_10 hcz28_11 hcz28_12 hcz28_2 hcz28_3 hcz28_4 hcz28_5 hcz28_6 hcz28_7 hcz28_8 hcz28_9
             try clear hcz31_0 hcz31_1 hcz31_10 hcz31_11 hcz31_12 hcz31_2 hcz31_3 hcz31_4 hcz31_5 hcz31_6 hcz31_7 hcz31_8 hcz31_9
             try clear hcz32_0 hcz32_1 hcz32_10 hcz32_11 hcz32_12 hcz32_2 hcz32_3 hcz32_4 hcz32_5 hcz32_6 hcz32_7 hcz32_8 hcz32_9
             try clear hcz36_0 hcz36_1 hcz36_10 hcz36_11 hcz36_12 hcz36_2 hcz36_3 hcz36_4 hcz36_5 hcz36_6 hcz36_7 hcz36_8 hcz36_9
             try clear hcz37_0 hcz37_1 hcz37_10 hcz37_11 hcz37_12 hcz37_2 hcz37_3 hcz37_4 hcz37_5 hcz37_6 hcz37_7 hcz37_8 hcz37_9
             try clear hcz5_0 hcz5_1 hcz5_10 hcz5_11 hcz5_12 hcz5_2 hcz5_3 hcz5_4 hcz5_5 hcz5_6 hcz5_7 hcz5_8 hcz5_9
             try clear hcz6_0 hcz6_1 hcz6_10 hcz6_11 hcz6_12 hcz6_2 hcz6_3 hcz6_4 hcz6_5 hcz6_6 hcz6_7 hcz6_8 hcz6_9
             try clear hfz12_0 hfz12_1 hfz12_10 hfz12_11 hfz12_12 hfz12_2 hfz12_3 hfz12_4 hfz12_5 hfz12_6 hfz12_7 hfz12_8 hfz12_9
             try clear hfz14_0 hfz14_1 hfz14_10 hfz14_11 hfz14_12 hfz14_2 hfz14_3 hfz14_4 hfz14_5 hfz14_6 hfz14_7 hfz14_8 hfz14_9
             try clear hfz16_0 hfz16_1 hfz16_10 hfz16_11 hfz16_12 hfz16_2 hfz16_3 hfz16_4 hfz16_5 hfz16_6 hfz16_7 hfz16_8 hfz16_9
             try clear hfz20_0 hfz20_1 hfz20_10 hfz20_11 hfz20_12 hfz20_2 hfz20_3 hfz20_4 hfz20_5 hfz20_6 hfz20_7 hfz20_8 hfz20_9
             try clear hfz26_0 hfz26_1 hfz26_10 hfz26_11 hfz26_12 hfz26_2 hfz26_3 hfz26_4 hfz26_5 hfz26_6 hfz26_7 hfz26_8 hfz26_9
             try clear hfz28_0 hfz28_1 hfz28_10 hfz28_11 hfz28_12 hfz28_2 hfz28_3 hfz28_4 hfz28_5 hfz28_6 hfz28_7 hfz28_8 hfz28_9
             try clear hfz31_0 hfz31_1 hfz31_10 hfz31_11 hfz31_12 hfz31_2 hfz31_3 hfz31_4 hfz31_5 hfz31_6 hfz31_7 hfz31_8 hfz31_9
             try clear hfz32_0 hfz32_1 hfz32_10 hfz32_11 hfz32_12 hfz32_2 hfz32_3 hfz32_4 hfz32_5 hfz32_6 hfz32_7 hfz32_8 hfz32_9
             try clear hfz36_0 hfz36_1 hfz36_10 hfz36_11 hfz36_12 hfz36_2 hfz36_3 hfz36_4 hfz36_5 hfz36_6 hfz36_7 hfz36_8 hfz36_9
             try clear hfz37_0 hfz37_1 hfz37_10 hfz37_11 hfz37_12 hfz37_2 hfz37_3 hfz37_4 hfz37_5 hfz37_6 hfz37_7 hfz37_8 hfz37_9
             try clear hfz5_0 hfz5_1 hfz5_10 hfz5_11 hfz5_12 hfz5_2 hfz5_3 hfz5_4 hfz5_5 hfz5_6 hfz5_7 hfz5_8 hfz5_9
             try clear hfz6_0 hfz6_1 hfz6_10 hfz6_11 hfz6_12 hfz6_2 hfz6_3 hfz6_4 hfz6_5 hfz6_6 hfz6_7 hfz6_8 hfz6_9
             try clear p2
             obtain ⟨kq, x43_32, rfl, HA, HJ32, BK318, HB⟩ := hcut
             cases kq with
             | zero => exact absurd HA.out (by simp [matching_Trade_Check.j3])
             | succ kj32 =>
              have H := HA.out
              clear HA
              simp only [matching_Trade_Check.j3] at H
              by_cases c38 : x43_32 = true
              ·subst c38
               have H1 : (some 2) = some r := by rw [if_pos rfl] at H; exact H
               clear H
               have H := H1
               clear H1
               obtain rfl := Option.some.inj H
               go_wp2
               go_ret
               exact ⟨by first | rfl | (simp [errW_none, errW_some] <;> rfl) | (simp [*, errW_none, errW_some] <;> rfl), by repeat (first | (with_reducible first | exact HB.out | apply below_alloc | apply pw_below_drewN | apply below_drew1 | refine below_set ?_ GE318.out) | exact HB.out)⟩
              ·replace c38 := Bool.eq_false_iff.mpr c38
               subst c38
               have H1 : (if a0_7 < 0 then (matching_Trade_Check.j4 kj32 true a0_0 a0_1 a0_2 a0_3 a0_4 a0_5 a0_6 a0_7 a0_8 a0_9 a0_10 a0_11 a0_12) else (if a0_7 > 73048 then (matching_Trade_Check.j4 kj32 true a0_0 a0_1 a0_2 a0_3 a0_4 a0_5 a0_6 a0_7 a0_8 a0_9 a0_10 a0_11 a0_12) else (if a0_6 < 0 then (matching_Trade_Check.j4 kj32 true a0_0 a0_1 a0_2 a0_3 a0_4 a0_5 a0_6 a0_7 a0_8 a0_9 a0_10 a0_11 a0_12) else (matching_Trade_Check.j4 kj32 (decide (a0_6 > a0_7)) a0_0 a0_1 a0_2 a0_3 a0_4 a0_5 a0_6 a0_7 a0_8 a0_9 a0_10 a0_11 a0_12)))) = some r := by rw [if_neg (show ¬ (false = true) by decide)] at H; exact H
               clear H
               have H := H1
               clear H1
               have HC39 := Aside0.mk H
               clear H
               go_upto_region 16 with (fail)
               go_cut [61] (fun v61 wc => ∃ (kq : Nat) (x61_38 : Bool), v61 = .bool x61_38 ∧ Aside0 (matching_Trade_Check.j4 kq x61_38 a0_0 a0_1 a0_2 a0_3 a0_4 a0_5 a0_6 a0_7 a0_8 a0_9 a0_10 a0_11 a0_12 = some r) ∧ Aside0 (kq ≤ kj32) ∧ Aside0 (wc.heap[gb318]? = some (.cells #[.int .i64 a0_0, .string a0_1, .string a0_2, .string a0_3, .int .i64 a0_4, .int .i64 a0_5, .int .i64 a0_6, .int .i64 a0_7, .int .i64 a0_8, .bool a0_9, .int .i64 a0_10, .string a0_11, .string a0_12] 31 (0, 0))) ∧ Aside0 (Below w.heap.size w wc))
               case first =>
                have H := HC39.out
                clear HC39
                by_cases c40 : a0_7 < 0
                ·rw [if_pos c40] at H
                 have c40b0 : decide (a0_7 < 0) = true := decide_eq_true c40
                 clear c40
                 (first | rw [c40b0] | (simp only [i64_w, i32_w]; rw [c40b0]) | skip)
                 have H' := Aside0.mk H
                 clear H
                 have hcz41_0 : wc.cell? ⟨gb318, 0, none⟩ = some (.int .i64 a0_0) := (blk_cell BK318.out 0).trans rfl
                 have hcz41_1 : wc.cell? ⟨gb318, 1, none⟩ = some (.string a0_1) := (blk_cell BK318.out 1).trans rfl
                 have hcz41_2 : wc.cell? ⟨gb318, 2, none⟩ = some (.string a0_2) := (blk_cell BK318.out 2).trans rfl
                 have hcz41_3 : wc.cell? ⟨gb318, 3, none⟩ = some (.string a0_3) := (blk_cell BK318.out 3).trans rfl
                 have hcz41_4 : wc.cell? ⟨gb318, 4, none⟩ = some (.int .i64 a0_4) := (blk_cell BK318.out 4).trans rfl
                 have hcz41_5 : wc.cell? ⟨gb318, 5, none⟩ = some (.int .i64 a0_5) := (blk_cell BK318.out 5).trans rfl
                 have hcz41_6 : wc.cell? ⟨gb318, 6, none⟩ = some (.int .i64 a0_6) := (blk_cell BK318.out 6).trans rfl
                 have hcz41_7 : wc.cell? ⟨gb318, 7, none⟩ = some (.int .i64 a0_7) := (blk_cell BK318.out 7).trans rfl
                 have hcz41_8 : wc.cell? ⟨gb318, 8, none⟩ = some (.int .i64 a0_8) := (blk_cell BK318.out 8).trans rfl
                 have hcz41_9 : wc.cell? ⟨gb318, 9, none⟩ = some (.bool a0_9) := (blk_cell BK318.out 9).trans rfl
                 have hcz41_10 : wc.cell? ⟨gb318, 10, none⟩ = some (.int .i64 a0_10) := (blk_cell BK318.out 10).trans rfl
                 have hcz41_11 : wc.cell? ⟨gb318, 11, none⟩ = some (.string a0_11) := (blk_cell BK318.out 11).trans rfl
                 have hcz41_12 : wc.cell? ⟨gb318, 12, none⟩ = some (.string a0_12) := (blk_cell BK318.out 12).trans rfl
                 have hfz41_0 := blk_frozen BK318.out 0
                 have hfz41_1 := blk_frozen BK318.out 1
                 have hfz41_2 := blk_frozen BK318.out 2
                 have hfz41_3 := blk_frozen BK318.out 3
                 have hfz41_4 := blk_frozen BK318.out 4
                 have hfz41_5 := blk_frozen BK318.out 5
                 have hfz41_6 := blk_frozen BK318.out 6
                 have hfz41_7 := blk_frozen BK318.out 7
                 have hfz41_8 := blk_frozen BK318.out 8
                 have hfz41_9 := blk_frozen BK318.out 9
                 have hfz41_10 := blk_frozen BK318.out 10
                 have hfz41_11 := blk_frozen BK318.out 11
                 have hfz41_12 := blk_frozen BK318.out 12
                 go_wp2
                 go_meet
                 case rel => exact ⟨_, (true), (by first | rfl | (simp; done) | (simp [*]; done)), H', ⟨by have := HJ1.out; have := HJ7.out; have := HJ24.out; have := HJ32.out; first | omega | exact Nat.le_refl _⟩, ⟨by (with_reducible repeat (first | refine blk_drewN ?_ _ | refine blk_drew ?_ | refine blk_alloc ?_ _)); exact BK318.out⟩, ⟨by repeat (first | (with_reducible first | exact HB.out | apply below_alloc | apply pw_below_drewN | apply below_drew1 | refine below_set ?_ GE318.out) | exact HB.out)⟩⟩
                ·rw [if_neg c40] at H
                 have c40b0 : decide (a0_7 < 0) = false := decide_eq_false c40
                 clear c40
                 (first | rw [c40b0] | (simp only [i64_w, i32_w]; rw [c40b0]) | skip)
                 by_cases c42 : a0_7 > 73048
                 ·rw [if_pos c42] at H
                  have c42b0 : decide (73048 < a0_7) = true := decide_eq_true c42
                  clear c42
                  have H' := Aside0.mk H
                  clear H
                  have hcz43_0 : wc.cell? ⟨gb318, 0, none⟩ = some (.int .i64 a0_0) := (blk_cell BK318.out 0).trans rfl
                  have hcz43_1 : wc.cell? ⟨gb318, 1, none⟩ = some (.string a0_1) := (blk_cell BK318.out 1).trans rfl
                  have hcz43_2 : wc.cell? ⟨gb318, 2, none⟩ = some (.string a0_2) := (blk_cell BK318.out 2).trans rfl
                  have hcz43_3 : wc.cell? ⟨gb318, 3, none⟩ = some (.string a0_3) := (blk_cell BK318.out 3).trans rfl
                  have hcz43_4 : wc.cell? ⟨gb318, 4, none⟩ = some (.int .i64 a0_4) := (blk_cell BK318.out 4).trans rfl
                  have hcz43_5 : wc.cell? ⟨gb318, 5, none⟩ = some (.int .i64 a0_5) := (blk_cell BK318.out 5).trans rfl
                  have hcz43_6 : wc.cell? ⟨gb318, 6, none⟩ = some (.int .i64 a0_6) := (blk_cell BK318.out 6).trans rfl
                  have hcz43_7 : wc.cell? ⟨gb318, 7, none⟩ = some (.int .i64 a0_7) := (blk_cell BK318.out 7).trans rfl
                  have hcz43_8 : wc.cell? ⟨gb318, 8, none⟩ = some (.int .i64 a0_8) := (blk_cell BK318.out 8).trans rfl
                  have hcz43_9 : wc.cell? ⟨gb318, 9, none⟩ = some (.bool a0_9) := (blk_cell BK318.out 9).trans rfl
                  have hcz43_10 : wc.cell? ⟨gb318, 10, none⟩ = some (.int .i64 a0_10) := (blk_cell BK318.out 10).trans rfl
                  have hcz43_11 : wc.cell? ⟨gb318, 11, none⟩ = some (.string a0_11) := (blk_cell BK318.out 11).trans rfl
                  have hcz43_12 : wc.cell? ⟨gb318, 12, none⟩ = some (.string a0_12) := (blk_cell BK318.out 12).trans rfl
                  have hfz43_0 := blk_frozen BK318.out 0
                  have hfz43_1 := blk_frozen BK318.out 1
                  have hfz43_2 := blk_frozen BK318.out 2
                  have hfz43_3 := blk_frozen BK318.out 3
                  have hfz43_4 := blk_frozen BK318.out 4
                  have hfz43_5 := blk_frozen BK318.out 5
                  have hfz43_6 := blk_frozen BK318.out 6
                  have hfz43_7 := blk_frozen BK318.out 7
                  have hfz43_8 := blk_frozen BK318.out 8
                  have hfz43_9 := blk_frozen BK318.out 9
                  have hfz43_10 := blk_frozen BK318.out 10
                  have hfz43_11 := blk_frozen BK318.out 11
                  have hfz43_12 := blk_frozen BK318.out 12
                  go_wp2
                  go_meet
                  case rel => exact ⟨_, (true), (by first | rfl | (simp; done) | (simp [*]; done)), H', ⟨by have := HJ1.out; have := HJ7.out; have := HJ24.out; have := HJ32.out; first | omega | exact Nat.le_refl _⟩, ⟨by (with_reducible repeat (first | refine blk_drewN ?_ _ | refine blk_drew ?_ | refine blk_alloc ?_ _)); exact BK318.out⟩, ⟨by repeat (first | (with_reducible first | exact HB.out | apply below_alloc | apply pw_below_drewN | apply below_drew1 | refine below_set ?_ GE318.out) | exact HB.out)⟩⟩
                 ·rw [if_neg c42] at H
                  have c42b0 : decide (73048 < a0_7) = false := decide_eq_false c42
                  clear c42
                  by_cases c44 : a0_6 < 0
                  ·rw [if_pos c44] at H
                   have c44b0 : decide (a0_6 < 0) = true := decide_eq_true c44
                   clear c44
                   have H' := Aside0.mk H
                   clear H
                   have hcz45_0 : wc.cell? ⟨gb318, 0, none⟩ = some (.int .i64 a0_0) := (blk_cell BK318.out 0).trans rfl
                   have hcz45_1 : wc.cell? ⟨gb318, 1, none⟩ = some (.string a0_1) := (blk_cell BK318.out 1).trans rfl
                   have hcz45_2 : wc.cell? ⟨gb318, 2, none⟩ = some (.string a0_2) := (blk_cell BK318.out 2).trans rfl
                   have hcz45_3 : wc.cell? ⟨gb318, 3, none⟩ = some (.string a0_3) := (blk_cell BK318.out 3).trans rfl
                   have hcz45_4 : wc.cell? ⟨gb318, 4, none⟩ = some (.int .i64 a0_4) := (blk_cell BK318.out 4).trans rfl
                   have hcz45_5 : wc.cell? ⟨gb318, 5, none⟩ = some (.int .i64 a0_5) := (blk_cell BK318.out 5).trans rfl
                   have hcz45_6 : wc.cell? ⟨gb318, 6, none⟩ = some (.int .i64 a0_6) := (blk_cell BK318.out 6).trans rfl
                   have hcz45_7 : wc.cell? ⟨gb318, 7, none⟩ = some (.int .i64 a0_7) := (blk_cell BK318.out 7).trans rfl
                   have hcz45_8 : wc.cell? ⟨gb318, 8, none⟩ = some (.int .i64 a0_8) := (blk_cell BK318.out 8).trans rfl
                   have hcz45_9 : wc.cell? ⟨gb318, 9, none⟩ = some (.bool a0_9) := (blk_cell BK318.out 9).trans rfl
                   have hcz45_10 : wc.cell? ⟨gb318, 10, none⟩ = some (.int .i64 a0_10) := (blk_cell BK318.out 10).trans rfl
                   have hcz45_11 : wc.cell? ⟨gb318, 11, none⟩ = some (.string a0_11) := (blk_cell BK318.out 11).trans rfl
                   have hcz45_12 : wc.cell? ⟨gb318, 12, none⟩ = some (.string a0_12) := (blk_cell BK318.out 12).trans rfl
                   have hfz45_0 := blk_frozen BK318.out 0
                   have hfz45_1 := blk_frozen BK318.out 1
                   have hfz45_2 := blk_frozen BK318.out 2
                   have hfz45_3 := blk_frozen BK318.out 3
                   have hfz45_4 := blk_frozen BK318.out 4
                   have hfz45_5 := blk_frozen BK318.out 5
                   have hfz45_6 := blk_frozen BK318.out 6
                   have hfz45_7 := blk_frozen BK318.out 7
                   have hfz45_8 := blk_frozen BK318.out 8
                   have hfz45_9 := blk_frozen BK318.out 9
                   have hfz45_10 := blk_frozen BK318.out 10
                   have hfz45_11 := blk_frozen BK318.out 11
                   have hfz45_12 := blk_frozen BK318.out 12
                   go_wp2
                   go_meet
                   case rel => exact ⟨_, (true), (by first | rfl | (simp; done) | (simp [*]; done)), H', ⟨by have := HJ1.out; have := HJ7.out; have := HJ24.out; have := HJ32.out; first | omega | exact Nat.le_refl _⟩, ⟨by (with_reducible repeat (first | refine blk_drewN ?_ _ | refine blk_drew ?_ | refine blk_alloc ?_ _)); exact BK318.out⟩, ⟨by repeat (first | (with_reducible first | exact HB.out | apply below_alloc | apply pw_below_drewN | apply below_drew1 | refine below_set ?_ GE318.out) | exact HB.out)⟩⟩
                  ·rw [if_neg c44] at H
                   have c44b0 : decide (a0_6 < 0) = false := decide_eq_false c44
                   clear c44
                   have H' := Aside0.mk H
                   clear H
                   have hcz46_0 : wc.cell? ⟨gb318, 0, none⟩ = some (.int .i64 a0_0) := (blk_cell BK318.out 0).trans rfl
                   have hcz46_1 : wc.cell? ⟨gb318, 1, none⟩ = some (.string a0_1) := (blk_cell BK318.out 1).trans rfl
                   have hcz46_2 : wc.cell? ⟨gb318, 2, none⟩ = some (.string a0_2) := (blk_cell BK318.out 2).trans rfl
                   have hcz46_3 : wc.cell? ⟨gb318, 3, none⟩ = some (.string a0_3) := (blk_cell BK318.out 3).trans rfl
                   have hcz46_4 : wc.cell? ⟨gb318, 4, none⟩ = some (.int .i64 a0_4) := (blk_cell BK318.out 4).trans rfl
                   have hcz46_5 : wc.cell? ⟨gb318, 5, none⟩ = some (.int .i64 a0_5) := (blk_cell BK318.out 5).trans rfl
                   have hcz46_6 : wc.cell? ⟨gb318, 6, none⟩ = some (.int .i64 a0_6) := (blk_cell BK318.out 6).trans rfl
                   have hcz46_7 : wc.cell? ⟨gb318, 7, none⟩ = some (.int .i64 a0_7) := (blk_cell BK318.out 7).trans rfl
                   have hcz46_8 : wc.cell? ⟨gb318, 8, none⟩ = some (.int .i64 a0_8) := (blk_cell BK318.out 8).trans rfl
                   have hcz46_9 : wc.cell? ⟨gb318, 9, none⟩ = some (.bool a0_9) := (blk_cell BK318.out 9).trans rfl
                   have hcz46_10 : wc.cell? ⟨gb318, 10, none⟩ = some (.int .i64 a0_10) := (blk_cell BK318.out 10).trans rfl
                   have hcz46_11 : wc.cell? ⟨gb318, 11, none⟩ = some (.string a0_11) := (blk_cell BK318.out 11).trans rfl
                   have hcz46_12 : wc.cell? ⟨gb318, 12, none⟩ = some (.string a0_12) := (blk_cell BK318.out 12).trans rfl
                   have hfz46_0 := blk_frozen BK318.out 0
                   have hfz46_1 := blk_frozen BK318.out 1
                   have hfz46_2 := blk_frozen BK318.out 2
                   have hfz46_3 := blk_frozen BK318.out 3
                   have hfz46_4 := blk_frozen BK318.out 4
                   have hfz46_5 := blk_frozen BK318.out 5
                   have hfz46_6 := blk_frozen BK318.out 6
                   have hfz46_7 := blk_frozen BK318.out 7
                   have hfz46_8 := blk_frozen BK318.out 8
                   have hfz46_9 := blk_frozen BK318.out 9
                   have hfz46_10 := blk_frozen BK318.out 10
                   have hfz46_11 := blk_frozen BK318.out 11
                   have hfz46_12 := blk_frozen BK318.out 12
                   go_wp2
                   go_meet
                   case rel => exact ⟨_, (decide (a0_6 > a0_7)), (by first | rfl | (simp; done) | (simp [*]; done)), H', ⟨by have := HJ1.out; have := HJ7.out; have := HJ24.out; have := HJ32.out; first | omega | exact Nat.le_refl _⟩, ⟨by (with_reducible repeat (first | refine blk_drewN ?_ _ | refine blk_drew ?_ | refine blk_alloc ?_ _)); exact BK318.out⟩, ⟨by repeat (first | (with_reducible first | exact HB.out | apply below_alloc | apply pw_below_drewN | apply below_drew1 | refine below_set ?_ GE318.out) | exact HB.out)⟩⟩
               case rest =>
                clear HC39
                try clear c1
                try clear c2
                try clear p2
                try clear c3
                try clear c4
                try clear c4b0
                try clear c4b1
                try clear c7
                try clear c10
                try clear c18
                try clear c19
                try clear c19b0
                try clear c19b1
                try clear c22
                try clear c24
                try clear c26
                try clear c29
                try clear c29b0
                try clear c29b1
                try clear c34
                try clear c35
                try clear c35b0
                try clear c35b1
                try clear c38
                try clear c40
                try clear c40b0
                try clear c42
                try clear c42b0
                try clear c44
                try clear c44b0
                try clear hcz12_0 hcz12_1 hcz12_10 hcz12_11 hcz12_12 hcz12_2 hcz12_3 hcz12_4 hcz12_5 hcz12_6 hcz12_7 hcz12_8 hcz12_9
                try clear hcz14_0 hcz14_1 hcz14_10 hcz14_11 hcz14_12 hcz14_2 hcz14_3 hcz14_4 hcz14_5 hcz14_6 hcz14_7 hcz14_8 hcz14_9
                try clear hcz16_0 hcz16_1 hcz16_10 hcz16_11 hcz16_12 hcz16_2 hcz16_3 hcz16_4 hcz16_5 hcz16_6 hcz16_7 hcz16_8 hcz16_9
                try clear hcz20_0 hcz20_1 hcz20_10 hcz20_11 hcz20_12 hcz20_2 hcz20_3 hcz20_4 hcz20_5 hcz20_6 hcz20_7 hcz20_8 hcz20_9
                try clear hcz26_0 hcz26_1 hcz26_10 hcz26_11 hcz26_12 hcz26_2 hcz26_3 hcz26_4 hcz26_5 hcz26_6 hcz26_7 hcz26_8 hcz26_9
                try clear hcz28_0 hcz28_1 hcz28_10 hcz28_11 hcz28_12 hcz28_2 hcz28_3 hcz28_4 hcz28_5 hcz28_6 hcz28_7 hcz28_8 hcz28_9
                try clear hcz31_0 hcz31_1 hcz31_10 hcz31_11 hcz31_12 hcz31_2 hcz31_3 hcz31_4 hcz31_5 hcz31_6 hcz31_7 hcz31_8 hcz31_9
                try clear hcz32_0 hcz32_1 hcz32_10 hcz32_11 hcz32_12 hcz32_2 hcz32_3 hcz32_4 hcz32_5 hcz32_6 hcz32_7 hcz32_8 hcz32_9
                try clear hcz36_0 hcz36_1 hcz36_10 hcz36_11 hcz36_12 hcz36_2 hcz36_3 hcz36_4 hcz36_5 hcz36_6 hcz36_7 hcz36_8 hcz36_9
                try clear hcz37_0 hcz37_1 hcz37_10 hcz37_11 hcz37_12 hcz37_2 hcz37_3 hcz37_4 hcz37_5 hcz37_6 hcz37_7 hcz37_8 hcz37_9
                try clear hcz41_0 hcz41_1 hcz41_10 hcz41_11 hcz41_12 hcz41_2 hcz41_3 hcz41_4 hcz41_5 hcz41_6 hcz41_7 hcz41_8 hcz41_9
                try clear hcz43_0 hcz43_1 hcz43_10 hcz43_11 hcz43_12 hcz43_2 hcz43_3 hcz43_4 hcz43_5 hcz43_6 hcz43_7 hcz43_8 hcz43_9
                try clear hcz45_0 hcz45_1 hcz45_10 hcz45_11 hcz45_12 hcz45_2 hcz45_3 hcz45_4 hcz45_5 hcz45_6 hcz45_7 hcz45_8 hcz45_9
                try clear hcz46_0 hcz46_1 hcz46_10 hcz46_11 hcz46_12 hcz46_2 hcz46_3 hcz46_4 hcz46_5 hcz46_6 hcz46_7 hcz46_8 hcz46_9
                try clear hcz5_0 hcz5_1 hcz5_10 hcz5_11 hcz5_12 hcz5_2 hcz5_3 hcz5_4 hcz5_5 hcz5_6 hcz5_7 hcz5_8 hcz5_9
                try clear hcz6_0 hcz6_1 hcz6_10 hcz6_11 hcz6_12 hcz6_2 hcz6_3 hcz6_4 hcz6_5 hcz6_6 hcz6_7 hcz6_8 hcz6_9
                try clear hfz12_0 hfz12_1 hfz12_10 hfz12_11 hfz12_12 hfz12_2 hfz12_3 hfz12_4 hfz12_5 hfz12_6 hfz12_7 hfz12_8 hfz12_9
                try clear hfz14_0 hfz14_1 hfz14_10 hfz14_11 hfz14_12 hfz14_2 hfz14_3 hfz14_4 hfz14_5 hfz14_6 hfz14_7 hfz14_8 hfz14_9
                try clear hfz16_0 hfz16_1 hfz16_10 hfz16_11 hfz16_12 hfz16_2 hfz16_3 hfz16_4 hfz16_5 hfz16_6 hfz16_7 hfz16_8 hfz16_9
                try clear hfz20_0 hfz20_1 hfz20_10 hfz20_11 hfz20_12 hfz20_2 hfz20_3 hfz20_4 hfz20_5 hfz20_6 hfz20_7 hfz20_8 hfz20_9
                try clear hfz26_0 hfz26_1 hfz26_10 hfz26_11 hfz26_12 hfz26_2 hfz26_3 hfz26_4 hfz26_5 hfz26_6 hfz26_7 hfz26_8 hfz26_9
                try clear hfz28_0 hfz28_1 hfz28_10 hfz28_11 hfz28_12 hfz28_2 hfz28_3 hfz28_4 hfz28_5 hfz28_6 hfz28_7 hfz28_8 hfz28_9
                try clear hfz31_0 hfz31_1 hfz31_10 hfz31_11 hfz31_12 hfz31_2 hfz31_3 hfz31_4 hfz31_5 hfz31_6 hfz31_7 hfz31_8 hfz31_9
                try clear hfz32_0 hfz32_1 hfz32_10 hfz32_11 hfz32_12 hfz32_2 hfz32_3 hfz32_4 hfz32_5 hfz32_6 hfz32_7 hfz32_8 hfz32_9
                try clear hfz36_0 hfz36_1 hfz36_10 hfz36_11 hfz36_12 hfz36_2 hfz36_3 hfz36_4 hfz36_5 hfz36_6 hfz36_7 hfz36_8 hfz36_9
                try clear hfz37_0 hfz37_1 hfz37_10 hfz37_11 hfz37_12 hfz37_2 hfz37_3 hfz37_4 hfz37_5 hfz37_6 hfz37_7 hfz37_8 hfz37_9
                try clear hfz41_0 hfz41_1 hfz41_10 hfz41_11 hfz41_12 hfz41_2 hfz41_3 hfz41_4 hfz41_5 hfz41_6 hfz41_7 hfz41_8 hfz41_9
                try clear hfz43_0 hfz43_1 hfz43_10 hfz43_11 hfz43_12 hfz43_2 hfz43_3 hfz43_4 hfz43_5 hfz43_6 hfz43_7 hfz43_8 hfz43_9
                try clear hfz45_0 hfz45_1 hfz45_10 hfz45_11 hfz45_12 hfz45_2 hfz45_3 hfz45_4 hfz45_5 hfz45_6 hfz45_7 hfz45_8 hfz45_9
                try clear hfz46_0 hfz46_1 hfz46_10 hfz46_11 hfz46_12 hfz46_2 hfz46_3 hfz46_4 hfz46_5 hfz46_6 hfz46_7 hfz46_8 hfz46_9
                try clear hfz5_0 hfz5_1 hfz5_10 hfz5_11 hfz5_12 hfz5_2 hfz5_3 hfz5_4 hfz5_5 hfz5_6 hfz5_7 hfz5_8 hfz5_9
                try clear hfz6_0 hfz6_1 hfz6_10 hfz6_11 hfz6_12 hfz6_2 hfz6_3 hfz6_4 hfz6_5 hfz6_6 hfz6_7 hfz6_8 hfz6_9
                try clear p2
                obtain ⟨kq, x61_38, rfl, HA, HJ38, BK318, HB⟩ := hcut
                cases kq with
                | zero => exact absurd HA.out (by simp [matching_Trade_Check.j4])
                | succ kj38 =>
                 have H := HA.out
                 clear HA
                 simp only [matching_Trade_Check.j4] at H
                 by_cases c47 : x61_38 = true
                 ·subst c47
                  have H1 : (some 28) = some r := by rw [if_pos rfl] at H; exact H
                  clear H
                  have H := H1
                  clear H1
                  obtain rfl := Option.some.inj H
                  go_wp2
                  go_ret
                  exact ⟨by first | rfl | (simp [errW_none, errW_some] <;> rfl) | (simp [*, errW_none, errW_some] <;> rfl), by repeat (first | (with_reducible first | exact HB.out | apply below_alloc | apply pw_below_drewN | apply below_drew1 | refine below_set ?_ GE318.out) | exact HB.out)⟩
                 ·replace c47 := Bool.eq_false_iff.mpr c47
                  subst c47
                  have H1 : (if a0_8 < 0 then (matching_Trade_Check.j5 kj38 true a0_0 a0_1 a0_2 a0_3 a0_4 a0_5 a0_6 a0_7 a0_8 a0_9 a0_10 a0_11 a0_12) else (matching_Trade_Check.j5 kj38 (decide (a0_8 > 2)) a0_0 a0_1 a0_2 a0_3 a0_4 a0_5 a0_6 a0_7 a0_8 a0_9 a0_10 a0_11 a0_12)) = some r := by rw [if_neg (show ¬ (false = true) by decide)] at H; exact H
                  clear H
                  have H := H1
                  clear H1
                  have HC48 := Aside0.mk H
                  clear H
                  go_upto_region 18 with (fail)
                  go_cut [82] (fun v82 wc => ∃ (kq : Nat) (x82_47 : Bool), v82 = .bool x82_47 ∧ Aside0 (matching_Trade_Check.j5 kq x82_47 a0_0 a0_1 a0_2 a0_3 a0_4 a0_5 a0_6 a0_7 a0_8 a0_9 a0_10 a0_11 a0_12 = some r) ∧ Aside0 (kq ≤ kj38) ∧ Aside0 (wc.heap[gb318]? = some (.cells #[.int .i64 a0_0, .string a0_1, .string a0_2, .string a0_3, .int .i64 a0_4, .int .i64 a0_5, .int .i64 a0_6, .int .i64 a0_7, .int .i64 a0_8, .bool a0_9, .int .i64 a0_10, .string a0_11, .string a0_12] 31 (0, 0))) ∧ Aside0 (Below w.heap.size w wc))
                  case first =>
                   have H := HC48.out
                   clear HC48
                   by_cases c49 : a0_8 < 0
                   ·rw [if_pos c49] at H
                    have c49b0 : decide (a0_8 < 0) = true := decide_eq_true c49
                    clear c49
                    (first | rw [c49b0] | (simp only [i64_w, i32_w]; rw [c49b0]) | skip)
                    have H' := Aside0.mk H
                    clear H
                    have hcz50_0 : wc.cell? ⟨gb318, 0, none⟩ = some (.int .i64 a0_0) := (blk_cell BK318.out 0).trans rfl
                    have hcz50_1 : wc.cell? ⟨gb318, 1, none⟩ = some (.string a0_1) := (blk_cell BK318.out 1).trans rfl
                    have hcz50_2 : wc.cell? ⟨gb318, 2, none⟩ = some (.string a0_2) := (blk_cell BK318.out 2).trans rfl
                    have hcz50_3 : wc.cell? ⟨gb318, 3, none⟩ = some (.string a0_3) := (blk_cell BK318.out 3).trans rfl
                    have hcz50_4 : wc.cell? ⟨gb318, 4, none⟩ = some (.int .i64 a0_4) := (blk_cell BK318.out 4).trans rfl
                    have hcz50_5 : wc.cell? ⟨gb318, 5, none⟩ = some (.int .i64 a0_5) := (blk_cell BK318.out 5).trans rfl
                    have hcz50_6 : wc.cell? ⟨gb318, 6, none⟩ = some (.int .i64 a0_6) := (blk_cell BK318.out 6).trans rfl
                    have hcz50_7 : wc.cell? ⟨gb318, 7, none⟩ = some (.int .i64 a0_7) := (blk_cell BK318.out 7).trans rfl
                    have hcz50_8 : wc.cell? ⟨gb318, 8, none⟩ = some (.int .i64 a0_8) := (blk_cell BK318.out 8).trans rfl
                    have hcz50_9 : wc.cell? ⟨gb318, 9, none⟩ = some (.bool a0_9) := (blk_cell BK318.out 9).trans rfl
                    have hcz50_10 : wc.cell? ⟨gb318, 10, none⟩ = some (.int .i64 a0_10) := (blk_cell BK318.out 10).trans rfl
                    have hcz50_11 : wc.cell? ⟨gb318, 11, none⟩ = some (.string a0_11) := (blk_cell BK318.out 11).trans rfl
                    have hcz50_12 : wc.cell? ⟨gb318, 12, none⟩ = some (.string a0_12) := (blk_cell BK318.out 12).trans rfl
                    have hfz50_0 := blk_frozen BK318.out 0
                    have hfz50_1 := blk_frozen BK318.out 1
                    have hfz50_2 := blk_frozen BK318.out 2
                    have hfz50_3 := blk_frozen BK318.out 3
                    have hfz50_4 := blk_frozen BK318.out 4
                    have hfz50_5 := blk_frozen BK318.out 5
                    have hfz50_6 := blk_frozen BK318.out 6
                    have hfz50_7 := blk_frozen BK318.out 7
                    have hfz50_8 := blk_frozen BK318.out 8
                    have hfz50_9 := blk_frozen BK318.out 9
                    have hfz50_10 := blk_frozen BK318.out 10
                    have hfz50_11 := blk_frozen BK318.out 11
                    have hfz50_12 := blk_frozen BK318.out 12
                    go_wp2
                    go_meet
                    case rel => exact ⟨_, (true), (by first | rfl | (simp; done) | (simp [*]; done)), H', ⟨by have := HJ1.out; have := HJ7.out; have := HJ24.out; have := HJ32.out; have := HJ38.out; first | omega | exact Nat.le_refl _⟩, ⟨by (with_reducible repeat (first | refine blk_drewN ?_ _ | refine blk_drew ?_ | refine blk_alloc ?_ _)); exact BK318.out⟩, ⟨by repeat (first | (with_reducible first | exact HB.out | apply below_alloc | apply pw_below_drewN | apply below_drew1 | refine below_set ?_ GE318.out) | exact HB.out)⟩⟩
                   ·rw [if_neg c49] at H
                    have c49b0 : decide (a0_8 < 0) = false := decide_eq_false c49
                    clear c49
                    (first | rw [c49b0] | (simp only [i64_w, i32_w]; rw [c49b0]) | skip)
                    have H' := Aside0.mk H
                    clear H
                    have hcz51_0 : wc.cell? ⟨gb318, 0, none⟩ = some (.int .i64 a0_0) := (blk_cell BK318.out 0).trans rfl
                    have hcz51_1 : wc.cell? ⟨gb318, 1, none⟩ = some (.string a0_1) := (blk_cell BK318.out 1).trans rfl
                    have hcz51_2 : wc.cell? ⟨gb318, 2, none⟩ = some (.string a0_2) := (blk_cell BK318.out 2).trans rfl
                    have hcz51_3 : wc.cell? ⟨gb318, 3, none⟩ = some (.string a0_3) := (blk_cell BK318.out 3).trans rfl
                    have hcz51_4 : wc.cell? ⟨gb318, 4, none⟩ = some (.int .i64 a0_4) := (blk_cell BK318.out 4).trans rfl
                    have hcz51_5 : wc.cell? ⟨gb318, 5, none⟩ = some (.int .i64 a0_5) := (blk_cell BK318.out 5).trans rfl
                    have hcz51_6 : wc.cell? ⟨gb318, 6, none⟩ = some (.int .i64 a0_6) := (blk_cell BK318.out 6).trans rfl
                    have hcz51_7 : wc.cell? ⟨gb318, 7, none⟩ = some (.int .i64 a0_7) := (blk_cell BK318.out 7).trans rfl
                    have hcz51_8 : wc.cell? ⟨gb318, 8, none⟩ = some (.int .i64 a0_8) := (blk_cell BK318.out 8).trans rfl
                    have hcz51_9 : wc.cell? ⟨gb318, 9, none⟩ = some (.bool a0_9) := (blk_cell BK318.out 9).trans rfl
                    have hcz51_10 : wc.cell? ⟨gb318, 10, none⟩ = some (.int .i64 a0_10) := (blk_cell BK318.out 10).trans rfl
                    have hcz51_11 : wc.cell? ⟨gb318, 11, none⟩ = some (.string a0_11) := (blk_cell BK318.out 11).trans rfl
                    have hcz51_12 : wc.cell? ⟨gb318, 12, none⟩ = some (.string a0_12) := (blk_cell BK318.out 12).trans rfl
                    have hfz51_0 := blk_frozen BK318.out 0
                    have hfz51_1 := blk_frozen BK318.out 1
                    have hfz51_2 := blk_frozen BK318.out 2
                    have hfz51_3 := blk_frozen BK318.out 3
                    have hfz51_4 := blk_frozen BK318.out 4
                    have hfz51_5 := blk_frozen BK318.out 5
                    have hfz51_6 := blk_frozen BK318.out 6
                    have hfz51_7 := blk_frozen BK318.out 7
                    have hfz51_8 := blk_frozen BK318.out 8
                    have hfz51_9 := blk_frozen BK318.out 9
                    have hfz51_10 := blk_frozen BK318.out 10
                    have hfz51_11 := blk_frozen BK318.out 11
                    have hfz51_12 := blk_frozen BK318.out 12
                    go_wp2
                    go_meet
                    case rel => exact ⟨_, (decide (a0_8 > 2)), (by first | rfl | (simp; done) | (simp [*]; done)), H', ⟨by have := HJ1.out; have := HJ7.out; have := HJ24.out; have := HJ32.out; have := HJ38.out; first | omega | exact Nat.le_refl _⟩, ⟨by (with_reducible repeat (first | refine blk_drewN ?_ _ | refine blk_drew ?_ | refine blk_alloc ?_ _)); exact BK318.out⟩, ⟨by repeat (first | (with_reducible first | exact HB.out | apply below_alloc | apply pw_below_drewN | apply below_drew1 | refine below_set ?_ GE318.out) | exact HB.out)⟩⟩
                  case rest =>
                   clear HC48
                   try clear c1
                   try clear c2
                   try clear p2
                   try clear c3
                   try clear c4
                   try clear c4b0
                   try clear c4b1
                   try clear c7
                   try clear c10
                   try clear c18
                   try clear c19
                   try clear c19b0
                   try clear c19b1
                   try clear c22
                   try clear c24
                   try clear c26
                   try clear c29
                   try clear c29b0
                   try clear c29b1
                   try clear c34
                   try clear c35
                   try clear c35b0
                   try clear c35b1
                   try clear c38
                   try clear c40
                   try clear c40b0
                   try clear c42
                   try clear c42b0
                   try clear c44
                   try clear c44b0
                   try clear c47
                   try clear c49
                   try clear c49b0
                   try clear hcz12_0 hcz12_1 hcz12_10 hcz12_11 hcz12_12 hcz12_2 hcz12_3 hcz12_4 hcz12_5 hcz12_6 hcz12_7 hcz12_8 hcz12_9
                   try clear hcz14_0 hcz14_1 hcz14_10 hcz14_11 hcz14_12 hcz14_2 hcz14_3 hcz14_4 hcz14_5 hcz14_6 hcz14_7 hcz14_8 hcz14_9
                   try clear hcz16_0 hcz16_1 hcz16_10 hcz16_11 hcz16_12 hcz16_2 hcz16_3 hcz16_4 hcz16_5 hcz16_6 hcz16_7 hcz16_8 hcz16_9
                   try clear hcz20_0 hcz20_1 hcz20_10 hcz20_11 hcz20_12 hcz20_2 hcz20_3 hcz20_4 hcz20_5 hcz20_6 hcz20_7 hcz20_8 hcz20_9
                   try clear hcz26_0 hcz26_1 hcz26_10 hcz26_11 hcz26_12 hcz26_2 hcz26_3 hcz26_4 hcz26_5 hcz26_6 hcz26_7 hcz26_8 hcz26_9
                   try clear hcz28_0 hcz28_1 hcz28_10 hcz28_11 hcz28_12 hcz28_2 hcz28_3 hcz28_4 hcz28_5 hcz28_6 hcz28_7 hcz28_8 hcz28_9
                   try clear hcz31_0 hcz31_1 hcz31_10 hcz31_11 hcz31_12 hcz31_2 hcz31_3 hcz31_4 hcz31_5 hcz31_6 hcz31_7 hcz31_8 hcz31_9
                   try clear hcz32_0 hcz32_1 hcz32_10 hcz32_11 hcz32_12 hcz32_2 hcz32_3 hcz32_4 hcz32_5 hcz32_6 hcz32_7 hcz32_8 hcz32_9
                   try clear hcz36_0 hcz36_1 hcz36_10 hcz36_11 hcz36_12 hcz36_2 hcz36_3 hcz36_4 hcz36_5 hcz36_6 hcz36_7 hcz36_8 hcz36_9
                   try clear hcz37_0 hcz37_1 hcz37_10 hcz37_11 hcz37_12 hcz37_2 hcz37_3 hcz37_4 hcz37_5 hcz37_6 hcz37_7 hcz37_8 hcz37_9
                   try clear hcz41_0 hcz41_1 hcz41_10 hcz41_11 hcz41_12 hcz41_2 hcz41_3 hcz41_4 hcz41_5 hcz41_6 hcz41_7 hcz41_8 hcz41_9
                   try clear hcz43_0 hcz43_1 hcz43_10 hcz43_11 hcz43_12 hcz43_2 hcz43_3 hcz43_4 hcz43_5 hcz43_6 hcz43_7 hcz43_8 hcz43_9
                   try clear hcz45_0 hcz45_1 hcz45_10 hcz45_11 hcz45_12 hcz45_2 hcz45_3 hcz45_4 hcz45_5 hcz45_6 hcz45_7 hcz45_8 hcz45_9
                   try clear hcz46_0 hcz46_1 hcz46_10 hcz46_11 hcz46_12 hcz46_2 hcz46_3 hcz46_4 hcz46_5 hcz46_6 hcz46_7 hcz46_8 hcz46_9
                   try clear hcz50_0 hcz50_1 hcz50_10 hcz50_11 hcz50_12 hcz50_2 hcz50_3 hcz50_4 hcz50_5 hcz50_6 hcz50_7 hcz50_8 hcz50_9
                   try clear hcz51_0 hcz51_1 hcz51_10 hcz51_11 hcz51_12 hcz51_2 hcz51_3 hcz51_4 hcz51_5 hcz51_6 hcz51_7 hcz51_8 hcz51_9
                   try clear hcz5_0 hcz5_1 hcz5_10 hcz5_11 hcz5_12 hcz5_2 hcz5_3 hcz5_4 hcz5_5 hcz5_6 hcz5_7 hcz5_8 hcz5_9
                   try clear hcz6_0 hcz6_1 hcz6_10 hcz6_11 hcz6_12 hcz6_2 hcz6_3 hcz6_4 hcz6_5 hcz6_6 hcz6_7 hcz6_8 hcz6_9
                   try clear hfz12_0 hfz12_1 hfz12_10 hfz12_11 hfz12_12 hfz12_2 hfz12_3 hfz12_4 hfz12_5 hfz12_6 hfz12_7 hfz12_8 hfz12_9
                   try clear hfz14_0 hfz14_1 hfz14_10 hfz14_11 hfz14_12 hfz14_2 hfz14_3 hfz14_4 hfz14_5 hfz14_6 hfz14_7 hfz14_8 hfz14_9
                   try clear hfz16_0 hfz16_1 hfz16_10 hfz16_11 hfz16_12 hfz16_2 hfz16_3 hfz16_4 hfz16_5 hfz16_6 hfz16_7 hfz16_8 hfz16_9
                   try clear hfz20_0 hfz20_1 hfz20_10 hfz20_11 hfz20_12 hfz20_2 hfz20_3 hfz20_4 hfz20_5 hfz20_6 hfz20_7 hfz20_8 hfz20_9
                   try clear hfz26_0 hfz26_1 hfz26_10 hfz26_11 hfz26_12 hfz26_2 hfz26_3 hfz26_4 hfz26_5 hfz26_6 hfz26_7 hfz26_8 hfz26_9
                   try clear hfz28_0 hfz28_1 hfz28_10 hfz28_11 hfz28_12 hfz28_2 hfz28_3 hfz28_4 hfz28_5 hfz28_6 hfz28_7 hfz28_8 hfz28_9
                   try clear hfz31_0 hfz31_1 hfz31_10 hfz31_11 hfz31_12 hfz31_2 hfz31_3 hfz31_4 hfz31_5 hfz31_6 hfz31_7 hfz31_8 hfz31_9
                   try clear hfz32_0 hfz32_1 hfz32_10 hfz32_11 hfz32_12 hfz32_2 hfz32_3 hfz32_4 hfz32_5 hfz32_6 hfz32_7 hfz32_8 hfz32_9
                   try clear hfz36_0 hfz36_1 hfz36_10 hfz36_11 hfz36_12 hfz36_2 hfz36_3 hfz36_4 hfz36_5 hfz36_6 hfz36_7 hfz36_8 hfz36_9
                   try clear hfz37_0 hfz37_1 hfz37_10 hfz37_11 hfz37_12 hfz37_2 hfz37_3 hfz37_4 hfz37_5 hfz37_6 hfz37_7 hfz37_8 hfz37_9
                   try clear hfz41_0 hfz41_1 hfz41_10 hfz41_11 hfz41_12 hfz41_2 hfz41_3 hfz41_4 hfz41_5 hfz41_6 hfz41_7 hfz41_8 hfz41_9
                   try clear hfz43_0 hfz43_1 hfz43_10 hfz43_11 hfz43_12 hfz43_2 hfz43_3 hfz43_4 hfz43_5 hfz43_6 hfz43_7 hfz43_8 hfz43_9
                   try clear hfz45_0 hfz45_1 hfz45_10 hfz45_11 hfz45_12 hfz45_2 hfz45_3 hfz45_4 hfz45_5 hfz45_6 hfz45_7 hfz45_8 hfz45_9
                   try clear hfz46_0 hfz46_1 hfz46_10 hfz46_11 hfz46_12 hfz46_2 hfz46_3 hfz46_4 hfz46_5 hfz46_6 hfz46_7 hfz46_8 hfz46_9
                   try clear hfz50_0 hfz50_1 hfz50_10 hfz50_11 hfz50_12 hfz50_2 hfz50_3 hfz50_4 hfz50_5 hfz50_6 hfz50_7 hfz50_8 hfz50_9
                   try clear hfz51_0 hfz51_1 hfz51_10 hfz51_11 hfz51_12 hfz51_2 hfz51_3 hfz51_4 hfz51_5 hfz51_6 hfz51_7 hfz51_8 hfz51_9
                   try clear hfz5_0 hfz5_1 hfz5_10 hfz5_11 hfz5_12 hfz5_2 hfz5_3 hfz5_4 hfz5_5 hfz5_6 hfz5_7 hfz5_8 hfz5_9
                   try clear hfz6_0 hfz6_1 hfz6_10 hfz6_11 hfz6_12 hfz6_2 hfz6_3 hfz6_4 hfz6_5 hfz6_6 hfz6_7 hfz6_8 hfz6_9
                   try clear p2
                   obtain ⟨kq, x82_47, rfl, HA, HJ47, BK318, HB⟩ := hcut
                   cases kq with
                   | zero => exact absurd HA.out (by simp [matching_Trade_Check.j5])
                   | succ kj47 =>
                    have H := HA.out
                    clear HA
                    simp only [matching_Trade_Check.j5] at H
                    by_cases c52 : x82_47 = true
                    ·subst c52
                     have H1 : (some 2) = some r := by rw [if_pos rfl] at H; exact H
                     clear H
                     have H := H1
                     clear H1
                     obtain rfl := Option.some.inj H
                     go_wp2
                     go_ret
                     exact ⟨by first | rfl | (simp [errW_none, errW_some] <;> rfl) | (simp [*, errW_none, errW_some] <;> rfl), by repeat (first | (with_reducible first | exact HB.out | apply below_alloc | apply pw_below_drewN | apply below_drew1 | refine below_set ?_ GE318.out) | exact HB.out)⟩
                    ·replace c52 := Bool.eq_false_iff.mpr c52
                     subst c52
                     have H1 : (if a0_9 = true then ((matching_within.f a0_10 1 a0_4).bind fun t324 => (matching_Trade_Check.j6 kj47 (!t324) a0_0 a0_1 a0_2 a0_3 a0_4 a0_5 a0_6 a0_7 a0_8 a0_9 a0_10 a0_11 a0_12)) else (matching_Trade_Check.j6 kj47 false a0_0 a0_1 a0_2 a0_3 a0_4 a0_5 a0_6 a0_7 a0_8 a0_9 a0_10 a0_11 a0_12)) = some r := by rw [if_neg (show ¬ (false = true) by decide)] at H; exact H
                     clear H
                     have H := H1
                     clear H1
                     have HC53 := Aside0.mk H
                     clear H
                     go_upto_region 20 with (fail)
                     go_cut [91] (fun v91 wc => ∃ (kq : Nat) (x91_52 : Bool), v91 = .bool x91_52 ∧ Aside0 (matching_Trade_Check.j6 kq x91_52 a0_0 a0_1 a0_2 a0_3 a0_4 a0_5 a0_6 a0_7 a0_8 a0_9 a0_10 a0_11 a0_12 = some r) ∧ Aside0 (kq ≤ kj47) ∧ Aside0 (wc.heap[gb318]? = some (.cells #[.int .i64 a0_0, .string a0_1, .string a0_2, .string a0_3, .int .i64 a0_4, .int .i64 a0_5, .int .i64 a0_6, .int .i64 a0_7, .int .i64 a0_8, .bool a0_9, .int .i64 a0_10, .string a0_11, .string a0_12] 31 (0, 0))) ∧ Aside0 (Below w.heap.size w wc))
                     case first =>
                      have H := HC53.out
                      clear HC53
                      by_cases c54 : a0_9 = true
                      ·subst c54
                       have H1 : ((matching_within.f a0_10 1 a0_4).bind fun t324 => (matching_Trade_Check.j6 kj47 (!t324) a0_0 a0_1 a0_2 a0_3 a0_4 a0_5 a0_6 a0_7 a0_8 true a0_10 a0_11 a0_12)) = some r := by rw [if_pos rfl] at H; exact H
                       clear H
                       have H := H1
                       clear H1
                       replace H := Option.bind_eq_some_iff.mp H
                       obtain ⟨t324, A550, H⟩ := H
                       replace H : (matching_Trade_Check.j6 kj47 (!t324) a0_0 a0_1 a0_2 a0_3 a0_4 a0_5 a0_6 a0_7 a0_8 true a0_10 a0_11 a0_12) = some r := H
                       have A55 := Aside0.mk A550
                       clear A550
                       have H' := Aside0.mk H
                       clear H
                       have hcz56_0 : wc.cell? ⟨gb318, 0, none⟩ = some (.int .i64 a0_0) := (blk_cell BK318.out 0).trans rfl
                       have hcz56_1 : wc.cell? ⟨gb318, 1, none⟩ = some (.string a0_1) := (blk_cell BK318.out 1).trans rfl
                       have hcz56_2 : wc.cell? ⟨gb318, 2, none⟩ = some (.string a0_2) := (blk_cell BK318.out 2).trans rfl
                       have hcz56_3 : wc.cell? ⟨gb318, 3, none⟩ = some (.string a0_3) := (blk_cell BK318.out 3).trans rfl
                       have hcz56_4 : wc.cell? ⟨gb318, 4, none⟩ = some (.int .i64 a0_4) := (blk_cell BK318.out 4).trans rfl
                       have hcz56_5 : wc.cell? ⟨gb318, 5, none⟩ = some (.int .i64 a0_5) := (blk_cell BK318.out 5).trans rfl
                       have hcz56_6 : wc.cell? ⟨gb318, 6, none⟩ = some (.int .i64 a0_6) := (blk_cell BK318.out 6).trans rfl
                       have hcz56_7 : wc.cell? ⟨gb318, 7, none⟩ = some (.int .i64 a0_7) := (blk_cell BK318.out 7).trans rfl
                       have hcz56_8 : wc.cell? ⟨gb318, 8, none⟩ = some (.int .i64 a0_8) := (blk_cell BK318.out 8).trans rfl
                       have hcz56_9 : wc.cell? ⟨gb318, 9, none⟩ = some (.bool true) := (blk_cell BK318.out 9).trans rfl
                       have hcz56_10 : wc.cell? ⟨gb318, 10, none⟩ = some (.int .i64 a0_10) := (blk_cell BK318.out 10).trans rfl
                       have hcz56_11 : wc.cell? ⟨gb318, 11, none⟩ = some (.string a0_11) := (blk_cell BK318.out 11).trans rfl
                       have hcz56_12 : wc.cell? ⟨gb318, 12, none⟩ = some (.string a0_12) := (blk_cell BK318.out 12).trans rfl
                       have hfz56_0 := blk_frozen BK318.out 0
                       have hfz56_1 := blk_frozen BK318.out 1
                       have hfz56_2 := blk_frozen BK318.out 2
                       have hfz56_3 := blk_frozen BK318.out 3
                       have hfz56_4 := blk_frozen BK318.out 4
                       have hfz56_5 := blk_frozen BK318.out 5
                       have hfz56_6 := blk_frozen BK318.out 6
                       have hfz56_7 := blk_frozen BK318.out 7
                       have hfz56_8 := blk_frozen BK318.out 8
                       have hfz56_9 := blk_frozen BK318.out 9
                       have hfz56_10 := blk_frozen BK318.out 10
                       have hfz56_11 := blk_frozen BK318.out 11
                       have hfz56_12 := blk_frozen BK318.out 12
                       go_wp2_with (first | (go_at_call 47; (with_reducible refine (matching_within.calls a0_10 1 a0_4 t324 _ A55.out).mono ?_); rintro e w' ⟨rfl, ⟨nd, rfl⟩⟩))
                       go_meet
                       case rel => exact ⟨_, (!t324), (by first | rfl | (simp; done) | (simp [*]; done)), H', ⟨by have := HJ1.out; have := HJ7.out; have := HJ24.out; have := HJ32.out; have := HJ38.out; have := HJ47.out; first | omega | exact Nat.le_refl _⟩, ⟨by (with_reducible repeat (first | refine blk_drewN ?_ _ | refine blk_drew ?_ | refine blk_alloc ?_ _)); exact BK318.out⟩, ⟨by repeat (first | (with_reducible first | exact HB.out | apply below_alloc | apply pw_below_drewN | apply below_drew1 | refine below_set ?_ GE318.out) | exact HB.out)⟩⟩
                      ·replace c54 := Bool.eq_false_iff.mpr c54
                       subst c54
                       have H1 : (matching_Trade_Check.j6 kj47 false a0_0 a0_1 a0_2 a0_3 a0_4 a0_5 a0_6 a0_7 a0_8 false a0_10 a0_11 a0_12) = some r := by rw [if_neg (show ¬ (false = true) by decide)] at H; exact H
                       clear H
                       have H := H1
                       clear H1
                       have H' := Aside0.mk H
                       clear H
                       have hcz57_0 : wc.cell? ⟨gb318, 0, none⟩ = some (.int .i64 a0_0) := (blk_cell BK318.out 0).trans rfl
                       have hcz57_1 : wc.cell? ⟨gb318, 1, none⟩ = some (.string a0_1) := (blk_cell BK318.out 1).trans rfl
                       have hcz57_2 : wc.cell? ⟨gb318, 2, none⟩ = some (.string a0_2) := (blk_cell BK318.out 2).trans rfl
                       have hcz57_3 : wc.cell? ⟨gb318, 3, none⟩ = some (.string a0_3) := (blk_cell BK318.out 3).trans rfl
                       have hcz57_4 : wc.cell? ⟨gb318, 4, none⟩ = some (.int .i64 a0_4) := (blk_cell BK318.out 4).trans rfl
                       have hcz57_5 : wc.cell? ⟨gb318, 5, none⟩ = some (.int .i64 a0_5) := (blk_cell BK318.out 5).trans rfl
                       have hcz57_6 : wc.cell? ⟨gb318, 6, none⟩ = some (.int .i64 a0_6) := (blk_cell BK318.out 6).trans rfl
                       have hcz57_7 : wc.cell? ⟨gb318, 7, none⟩ = some (.int .i64 a0_7) := (blk_cell BK318.out 7).trans rfl
                       have hcz57_8 : wc.cell? ⟨gb318, 8, none⟩ = some (.int .i64 a0_8) := (blk_cell BK318.out 8).trans rfl
                       have hcz57_9 : wc.cell? ⟨gb318, 9, none⟩ = some (.bool false) := (blk_cell BK318.out 9).trans rfl
                       have hcz57_10 : wc.cell? ⟨gb318, 10, none⟩ = some (.int .i64 a0_10) := (blk_cell BK318.out 10).trans rfl
                       have hcz57_11 : wc.cell? ⟨gb318, 11, none⟩ = some (.string a0_11) := (blk_cell BK318.out 11).trans rfl
                       have hcz57_12 : wc.cell? ⟨gb318, 12, none⟩ = some (.string a0_12) := (blk_cell BK318.out 12).trans rfl
                       have hfz57_0 := blk_frozen BK318.out 0
                       have hfz57_1 := blk_frozen BK318.out 1
                       have hfz57_2 := blk_frozen BK318.out 2
                       have hfz57_3 := blk_frozen BK318.out 3
                       have hfz57_4 := blk_frozen BK318.out 4
                       have hfz57_5 := blk_frozen BK318.out 5
                       have hfz57_6 := blk_frozen BK318.out 6
                       have hfz57_7 := blk_frozen BK318.out 7
                       have hfz57_8 := blk_frozen BK318.out 8
                       have hfz57_9 := blk_frozen BK318.out 9
                       have hfz57_10 := blk_frozen BK318.out 10
                       have hfz57_11 := blk_frozen BK318.out 11
                       have hfz57_12 := blk_frozen BK318.out 12
                       go_wp2
                       go_meet
                       case rel => exact ⟨_, (false), (by first | rfl | (simp; done) | (simp [*]; done)), H', ⟨by have := HJ1.out; have := HJ7.out; have := HJ24.out; have := HJ32.out; have := HJ38.out; have := HJ47.out; first | omega | exact Nat.le_refl _⟩, ⟨by (with_reducible repeat (first | refine blk_drewN ?_ _ | refine blk_drew ?_ | refine blk_alloc ?_ _)); exact BK318.out⟩, ⟨by repeat (first | (with_reducible first | exact HB.out | apply below_alloc | apply pw_below_drewN | apply below_drew1 | refine below_set ?_ GE318.out) | exact HB.out)⟩⟩
                     case rest =>
                      clear HC53
                      try clear c2
                      try clear p2
                      try clear c3
                      try clear c4
                      try clear c5
                      try clear c22
                      try clear c24
                      try clear c26
                      try clear c29
                      try clear c29b0
                      try clear c29b1
                      try clear c34
                      try clear c35
                      try clear c35b0
                      try clear c35b1
                      try clear c38
                      try clear c40
                      try clear c40b0
                      try clear c42
                      try clear c42b0
                      try clear c44
                      try clear c44b0
                      try clear c47
                      try clear c49
                      try clear c49b0
                      try clear c52
                      try clear c54
                      try clear hcz12_0 hcz12_1 hcz12_10 hcz12_11 hcz12_12 hcz12_2 hcz12_3 hcz12_4 hcz12_5 hcz12_6 hcz12_7 hcz12_8 hcz12_9
                      try clear hcz14_0 hcz14_1 hcz14_10 hcz14_11 hcz14_12 hcz14_2 hcz14_3 hcz14_4 hcz14_5 hcz14_6 hcz14_7 hcz14_8 hcz14_9
                      try clear hcz16_0 hcz16_1 hcz16_10 hcz16_11 hcz16_12 hcz16_2 hcz16_3 hcz16_4 hcz16_5 hcz16_6 hcz16_7 hcz16_8 hcz16_9
                      try clear hcz20_0 hcz20_1 hcz20_10 hcz20_11 hcz20_12 hcz20_2 hcz20_3 hcz20_4 hcz20_5 hcz20_6 hcz20_7 hcz20_8 hcz20_9
                      try clear hcz26_0 hcz26_1 hcz26_10 hcz26_11 hcz26_12 hcz26_2 hcz26_3 hcz26_4 hcz26_5 hcz26_6 hcz26_7 hcz26_8 hcz26_9
                      try clear hcz28_0 hcz28_1 hcz28_10 hcz28_11 hcz28_12 hcz28_2 hcz28_3 hcz28_4 hcz28_5 hcz28_6 hcz28_7 hcz28_8 hcz28_9
                      try clear hcz31_0 hcz31_1 hcz31_10 hcz31_11 hcz31_12 hcz31_2 hcz31_3 hcz31_4 hcz31_5 hcz31_6 hcz31_7 hcz31_8 hcz31_9
                      try clear hcz32_0 hcz32_1 hcz32_10 hcz32_11 hcz32_12 hcz32_2 hcz32_3 hcz32_4 hcz32_5 hcz32_6 hcz32_7 hcz32_8 hcz32_9
                      try clear hcz36_0 hcz36_1 hcz36_10 hcz36_11 hcz36_12 hcz36_2 hcz36_3 hcz36_4 hcz36_5 hcz36_6 hcz36_7 hcz36_8 hcz36_9
                      try clear hcz37_0 hcz37_1 hcz37_10 hcz37_11 hcz37_12 hcz37_2 hcz37_3 hcz37_4 hcz37_5 hcz37_6 hcz37_7 hcz37_8 hcz37_9
                      try clear hcz41_0 hcz41_1 hcz41_10 hcz41_11 hcz41_12 hcz41_2 hcz41_3 hcz41_4 hcz41_5 hcz41_6 hcz41_7 hcz41_8 hcz41_9
                      try clear hcz43_0 hcz43_1 hcz43_10 hcz43_11 hcz43_12 hcz43_2 hcz43_3 hcz43_4 hcz43_5 hcz43_6 hcz43_7 hcz43_8 hcz43_9
                      try clear hcz45_0 hcz45_1 hcz45_10 hcz45_11 hcz45_12 hcz45_2 hcz45_3 hcz45_4 hcz45_5 hcz45_6 hcz45_7 hcz45_8 hcz45_9
                      try clear hcz46_0 hcz46_1 hcz46_10 hcz46_11 hcz46_12 hcz46_2 hcz46_3 hcz46_4 hcz46_5 hcz46_6 hcz46_7 hcz46_8 hcz46_9
                      try clear hcz50_0 hcz50_1 hcz50_10 hcz50_11 hcz50_12 hcz50_2 hcz50_3 hcz50_4 hcz50_5 hcz50_6 hcz50_7 hcz50_8 hcz50_9
                      try clear hcz51_0 hcz51_1 hcz51_10 hcz51_11 hcz51_12 hcz51_2 hcz51_3 hcz51_4 hcz51_5 hcz51_6 hcz51_7 hcz51_8 hcz51_9
                      try clear hcz56_0 hcz56_1 hcz56_10 hcz56_11 hcz56_12 hcz56_2 hcz56_3 hcz56_4 hcz56_5 hcz56_6 hcz56_7 hcz56_8 hcz56_9
                      try clear hcz57_0 hcz57_1 hcz57_10 hcz57_11 hcz57_12 hcz57_2 hcz57_3 hcz57_4 hcz57_5 hcz57_6 hcz57_7 hcz57_8 hcz57_9
                      try clear hcz5_0 hcz5_1 hcz5_10 hcz5_11 hcz5_12 hcz5_2 hcz5_3 hcz5_4 hcz5_5 hcz5_6 hcz5_7 hcz5_8 hcz5_9
                      try clear hcz6_0 hcz6_1 hcz6_10 hcz6_11 hcz6_12 hcz6_2 hcz6_3 hcz6_4 hcz6_5 hcz6_6 hcz6_7 hcz6_8 hcz6_9
                      try clear hfz12_0 hfz12_1 hfz12_10 hfz12_11 hfz12_12 hfz12_2 hfz12_3 hfz12_4 hfz12_5 hfz12_6 hfz12_7 hfz12_8 hfz12_9
                      try clear hfz14_0 hfz14_1 hfz14_10 hfz14_11 hfz14_12 hfz14_2 hfz14_3 hfz14_4 hfz14_5 hfz14_6 hfz14_7 hfz14_8 hfz14_9
                      try clear hfz16_0 hfz16_1 hfz16_10 hfz16_11 hfz16_12 hfz16_2 hfz16_3 hfz16_4 hfz16_5 hfz16_6 hfz16_7 hfz16_8 hfz16_9
                      try clear hfz20_0 hfz20_1 hfz20_10 hfz20_11 hfz20_12 hfz20_2 hfz20_3 hfz20_4 hfz20_5 hfz20_6 hfz20_7 hfz20_8 hfz20_9
                      try clear hfz26_0 hfz26_1 hfz26_10 hfz26_11 hfz26_12 hfz26_2 hfz26_3 hfz26_4 hfz26_5 hfz26_6 hfz26_7 hfz26_8 hfz26_9
                      try clear hfz28_0 hfz28_1 hfz28_10 hfz28_11 hfz28_12 hfz28_2 hfz28_3 hfz28_4 hfz28_5 hfz28_6 hfz28_7 hfz28_8 hfz28_9
                      try clear hfz31_0 hfz31_1 hfz31_10 hfz31_11 hfz31_12 hfz31_2 hfz31_3 hfz31_4 hfz31_5 hfz31_6 hfz31_7 hfz31_8 hfz31_9
                      try clear hfz32_0 hfz32_1 hfz32_10 hfz32_11 hfz32_12 hfz32_2 hfz32_3 hfz32_4 hfz32_5 hfz32_6 hfz32_7 hfz32_8 hfz32_9
                      try clear hfz36_0 hfz36_1 hfz36_10 hfz36_11 hfz36_12 hfz36_2 hfz36_3 hfz36_4 hfz36_5 hfz36_6 hfz36_7 hfz36_8 hfz36_9
                      try clear hfz37_0 hfz37_1 hfz37_10 hfz37_11 hfz37_12 hfz37_2 hfz37_3 hfz37_4 hfz37_5 hfz37_6 hfz37_7 hfz37_8 hfz37_9
                      try clear hfz41_0 hfz41_1 hfz41_10 hfz41_11 hfz41_12 hfz41_2 hfz41_3 hfz41_4 hfz41_5 hfz41_6 hfz41_7 hfz41_8 hfz41_9
                      try clear hfz43_0 hfz43_1 hfz43_10 hfz43_11 hfz43_12 hfz43_2 hfz43_3 hfz43_4 hfz43_5 hfz43_6 hfz43_7 hfz43_8 hfz43_9
                      try clear hfz45_0 hfz45_1 hfz45_10 hfz45_11 hfz45_12 hfz45_2 hfz45_3 hfz45_4 hfz45_5 hfz45_6 hfz45_7 hfz45_8 hfz45_9
                      try clear hfz46_0 hfz46_1 hfz46_10 hfz46_11 hfz46_12 hfz46_2 hfz46_3 hfz46_4 hfz46_5 hfz46_6 hfz46_7 hfz46_8 hfz46_9
                      try clear hfz50_0 hfz50_1 hfz50_10 hfz50_11 hfz50_12 hfz50_2 hfz50_3 hfz50_4 hfz50_5 hfz50_6 hfz50_7 hfz50_8 hfz50_9
                      try clear hfz51_0 hfz51_1 hfz51_10 hfz51_11 hfz51_12 hfz51_2 hfz51_3 hfz51_4 hfz51_5 hfz51_6 hfz51_7 hfz51_8 hfz51_9
                      try clear hfz56_0 hfz56_1 hfz56_10 hfz56_11 hfz56_12 hfz56_2 hfz56_3 hfz56_4 hfz56_5 hfz56_6 hfz56_7 hfz56_8 hfz56_9
                      try clear hfz57_0 hfz57_1 hfz57_10 hfz57_11 hfz57_12 hfz57_2 hfz57_3 hfz57_4 hfz57_5 hfz57_6 hfz57_7 hfz57_8 hfz57_9
                      try clear hfz5_0 hfz5_1 hfz5_10 hfz5_11 hfz5_12 hfz5_2 hfz5_3 hfz5_4 hfz5_5 hfz5_6 hfz5_7 hfz5_8 hfz5_9
                      try clear hfz6_0 hfz6_1 hfz6_10 hfz6_11 hfz6_12 hfz6_2 hfz6_3 hfz6_4 hfz6_5 hfz6_6 hfz6_7 hfz6_8 hfz6_9
                      try clear p2
                      obtain ⟨kq, x91_52, rfl, HA, HJ52, BK318, HB⟩ := hcut
                      cases kq with
                      | zero => exact absurd HA.out (by simp [matching_Trade_Check.j6])
                      | succ kj52 =>
                       have H := HA.out
                       clear HA
                       simp only [matching_Trade_Check.j6] at H
                       have HC58 := Aside0.mk H
                       clear H
                       go_upto_if 91 with (fail)
                       go_cut [91] (fun v91 wc => ∃ (kq : Nat) (x91_57 : Bool), v91 = .bool x91_57 ∧ Aside0 (matching_Trade_Check.j7 kq x91_57 a0_0 a0_1 a0_2 a0_3 a0_4 a0_5 a0_6 a0_7 a0_8 a0_9 a0_10 a0_11 a0_12 = some r) ∧ Aside0 (kq ≤ kj52) ∧ Aside0 (wc.heap[gb318]? = some (.cells #[.int .i64 a0_0, .string a0_1, .string a0_2, .string a0_3, .int .i64 a0_4, .int .i64 a0_5, .int .i64 a0_6, .int .i64 a0_7, .int .i64 a0_8, .bool a0_9, .int .i64 a0_10, .string a0_11, .string a0_12] 31 (0, 0))) ∧ Aside0 (Below w.heap.size w wc))
                       case first =>
                        have H := HC58.out
                        clear HC58
                        by_cases c59 : x91_52 = true
                        ·subst c59
                         have H1 : (matching_Trade_Check.j7 kj52 true a0_0 a0_1 a0_2 a0_3 a0_4 a0_5 a0_6 a0_7 a0_8 a0_9 a0_10 a0_11 a0_12) = some r := by rw [if_pos rfl] at H; exact H
                         clear H
                         have H := H1
                         clear H1
                         have H' := Aside0.mk H
                         clear H
                         go_wp2
                         go_meet
                         case rel => exact ⟨_, (true), (by first | rfl | (simp; done) | (simp [*]; done)), H', ⟨by have := HJ1.out; have := HJ7.out; have := HJ24.out; have := HJ32.out; have := HJ38.out; have := HJ47.out; have := HJ52.out; first | omega | exact Nat.le_refl _⟩, ⟨by (with_reducible repeat (first | refine blk_drewN ?_ _ | refine blk_drew ?_ | refine blk_alloc ?_ _)); exact BK318.out⟩, ⟨by repeat (first | (with_reducible first | exact HB.out | apply below_alloc | apply pw_below_drewN | apply below_drew1 | refine below_set ?_ GE318.out) | exact HB.out)⟩⟩
                        ·replace c59 := Bool.eq_false_iff.mpr c59
                         subst c59
                         have H1 : (if a0_9 = true then (matching_Trade_Check.j7 kj52 false a0_0 a0_1 a0_2 a0_3 a0_4 a0_5 a0_6 a0_7 a0_8 a0_9 a0_10 a0_11 a0_12) else (matching_Trade_Check.j7 kj52 (a0_10 != 0) a0_0 a0_1 a0_2 a0_3 a0_4 a0_5 a0_6 a0_7 a0_8 a0_9 a0_10 a0_11 a0_12)) = some r := by rw [if_neg (show ¬ (false = true) by decide)] at H; exact H
                         clear H
                         have H := H1
                         clear H1
                         by_cases c60 : a0_9 = true
                         ·subst c60
                          have H1 : (matching_Trade_Check.j7 kj52 false a0_0 a0_1 a0_2 a0_3 a0_4 a0_5 a0_6 a0_7 a0_8 true a0_10 a0_11 a0_12) = some r := by rw [if_pos rfl] at H; exact H
                          clear H
                          have H := H1
                          clear H1
                          have H' := Aside0.mk H
                          clear H
                          have hcz61_0 : wc.cell? ⟨gb318, 0, none⟩ = some (.int .i64 a0_0) := (blk_cell BK318.out 0).trans rfl
                          have hcz61_1 : wc.cell? ⟨gb318, 1, none⟩ = some (.string a0_1) := (blk_cell BK318.out 1).trans rfl
                          have hcz61_2 : wc.cell? ⟨gb318, 2, none⟩ = some (.string a0_2) := (blk_cell BK318.out 2).trans rfl
                          have hcz61_3 : wc.cell? ⟨gb318, 3, none⟩ = some (.string a0_3) := (blk_cell BK318.out 3).trans rfl
                          have hcz61_4 : wc.cell? ⟨gb318, 4, none⟩ = some (.int .i64 a0_4) := (blk_cell BK318.out 4).trans rfl
                          have hcz61_5 : wc.cell? ⟨gb318, 5, none⟩ = some (.int .i64 a0_5) := (blk_cell BK318.out 5).trans rfl
                          have hcz61_6 : wc.cell? ⟨gb318, 6, none⟩ = some (.int .i64 a0_6) := (blk_cell BK318.out 6).trans rfl
                          have hcz61_7 : wc.cell? ⟨gb318, 7, none⟩ = some (.int .i64 a0_7) := (blk_cell BK318.out 7).trans rfl
                          have hcz61_8 : wc.cell? ⟨gb318, 8, none⟩ = some (.int .i64 a0_8) := (blk_cell BK318.out 8).trans rfl
                          have hcz61_9 : wc.cell? ⟨gb318, 9, none⟩ = some (.bool true) := (blk_cell BK318.out 9).trans rfl
                          have hcz61_10 : wc.cell? ⟨gb318, 10, none⟩ = some (.int .i64 a0_10) := (blk_cell BK318.out 10).trans rfl
                          have hcz61_11 : wc.cell? ⟨gb318, 11, none⟩ = some (.string a0_11) := (blk_cell BK318.out 11).trans rfl
                          have hcz61_12 : wc.cell? ⟨gb318, 12, none⟩ = some (.string a0_12) := (blk_cell BK318.out 12).trans rfl
                          have hfz61_0 := blk_frozen BK318.out 0
                          have hfz61_1 := blk_frozen BK318.out 1
                          have hfz61_2 := blk_frozen BK318.out 2
                          have hfz61_3 := blk_frozen BK318.out 3
                          have hfz61_4 := blk_frozen BK318.out 4
                          have hfz61_5 := blk_frozen BK318.out 5
                          have hfz61_6 := blk_frozen BK318.out 6
                          have hfz61_7 := blk_frozen BK318.out 7
                          have hfz61_8 := blk_frozen BK318.out 8
                          have hfz61_9 := blk_frozen BK318.out 9
                          have hfz61_10 := blk_frozen BK318.out 10
                          have hfz61_11 := blk_frozen BK318.out 11
                          have hfz61_12 := blk_frozen BK318.out 12
                          go_wp2
                          go_meet
                          case rel => exact ⟨_, (false), (by first | rfl | (simp; done) | (simp [*]; done)), H', ⟨by have := HJ1.out; have := HJ7.out; have := HJ24.out; have := HJ32.out; have := HJ38.out; have := HJ47.out; have := HJ52.out; first | omega | exact Nat.le_refl _⟩, ⟨by (with_reducible repeat (first | refine blk_drewN ?_ _ | refine blk_drew ?_ | refine blk_alloc ?_ _)); exact BK318.out⟩, ⟨by repeat (first | (with_reducible first | exact HB.out | apply below_alloc | apply pw_below_drewN | apply below_drew1 | refine below_set ?_ GE318.out) | exact HB.out)⟩⟩
                         ·replace c60 := Bool.eq_false_iff.mpr c60
                          subst c60
                          have H1 : (matching_Trade_Check.j7 kj52 (a0_10 != 0) a0_0 a0_1 a0_2 a0_3 a0_4 a0_5 a0_6 a0_7 a0_8 false a0_10 a0_11 a0_12) = some r := by rw [if_neg (show ¬ (false = true) by decide)] at H; exact H
                          clear H
                          have H := H1
                          clear H1
                          have H' := Aside0.mk H
                          clear H
                          have hcz62_0 : wc.cell? ⟨gb318, 0, none⟩ = some (.int .i64 a0_0) := (blk_cell BK318.out 0).trans rfl
                          have hcz62_1 : wc.cell? ⟨gb318, 1, none⟩ = some (.string a0_1) := (blk_cell BK318.out 1).trans rfl
                          have hcz62_2 : wc.cell? ⟨gb318, 2, none⟩ = some (.string a0_2) := (blk_cell BK318.out 2).trans rfl
                          have hcz62_3 : wc.cell? ⟨gb318, 3, none⟩ = some (.string a0_3) := (blk_cell BK318.out 3).trans rfl
                          have hcz62_4 : wc.cell? ⟨gb318, 4, none⟩ = some (.int .i64 a0_4) := (blk_cell BK318.out 4).trans rfl
                          have hcz62_5 : wc.cell? ⟨gb318, 5, none⟩ = some (.int .i64 a0_5) := (blk_cell BK318.out 5).trans rfl
                          have hcz62_6 : wc.cell? ⟨gb318, 6, none⟩ = some (.int .i64 a0_6) := (blk_cell BK318.out 6).trans rfl
                          have hcz62_7 : wc.cell? ⟨gb318, 7, none⟩ = some (.int .i64 a0_7) := (blk_cell BK318.out 7).trans rfl
                          have hcz62_8 : wc.cell? ⟨gb318, 8, none⟩ = some (.int .i64 a0_8) := (blk_cell BK318.out 8).trans rfl
                          have hcz62_9 : wc.cell? ⟨gb318, 9, none⟩ = some (.bool false) := (blk_cell BK318.out 9).trans rfl
                          have hcz62_10 : wc.cell? ⟨gb318, 10, none⟩ = some (.int .i64 a0_10) := (blk_cell BK318.out 10).trans rfl
                          have hcz62_11 : wc.cell? ⟨gb318, 11, none⟩ = some (.string a0_11) := (blk_cell BK318.out 11).trans rfl
                          have hcz62_12 : wc.cell? ⟨gb318, 12, none⟩ = some (.string a0_12) := (blk_cell BK318.out 12).trans rfl
                          have hfz62_0 := blk_frozen BK318.out 0
                          have hfz62_1 := blk_frozen BK318.out 1
                          have hfz62_2 := blk_frozen BK318.out 2
                          have hfz62_3 := blk_frozen BK318.out 3
                          have hfz62_4 := blk_frozen BK318.out 4
                          have hfz62_5 := blk_frozen BK318.out 5
                          have hfz62_6 := blk_frozen BK318.out 6
                          have hfz62_7 := blk_frozen BK318.out 7
                          have hfz62_8 := blk_frozen BK318.out 8
                          have hfz62_9 := blk_frozen BK318.out 9
                          have hfz62_10 := blk_frozen BK318.out 10
                          have hfz62_11 := blk_frozen BK318.out 11
                          have hfz62_12 := blk_frozen BK318.out 12
                          go_wp2
                          go_meet
                          case rel => exact ⟨_, ((a0_10 != 0)), (by first | rfl | (simp; done) | (simp [*]; done)), H', ⟨by have := HJ1.out; have := HJ7.out; have := HJ24.out; have := HJ32.out; have := HJ38.out; have := HJ47.out; have := HJ52.out; first | omega | exact Nat.le_refl _⟩, ⟨by (with_reducible repeat (first | refine blk_drewN ?_ _ | refine blk_drew ?_ | refine blk_alloc ?_ _)); exact BK318.out⟩, ⟨by repeat (first | (with_reducible first | exact HB.out | apply below_alloc | apply pw_below_drewN | apply below_drew1 | refine below_set ?_ GE318.out) | exact HB.out)⟩⟩
                       case rest =>
                        clear HC58
                        try clear p2
                        try clear c5
                        try clear c6
                        try clear c59
                        try clear c60
                        try clear hcz16_10 hcz16_11 hcz16_12 hcz16_2 hcz16_3 hcz16_4 hcz16_5 hcz16_6 hcz16_7 hcz16_8 hcz16_9
                        try clear hcz20_0 hcz20_1 hcz20_10 hcz20_11 hcz20_12 hcz20_2 hcz20_3 hcz20_4 hcz20_5 hcz20_6 hcz20_7 hcz20_8 hcz20_9
                        try clear hcz26_0 hcz26_1 hcz26_10 hcz26_11 hcz26_12 hcz26_2 hcz26_3 hcz26_4 hcz26_5 hcz26_6 hcz26_7 hcz26_8 hcz26_9
                        try clear hcz28_0 hcz28_1 hcz28_10 hcz28_11 hcz28_12 hcz28_2 hcz28_3 hcz28_4 hcz28_5 hcz28_6 hcz28_7 hcz28_8 hcz28_9
                        try clear hcz31_0 hcz31_1 hcz31_10 hcz31_11 hcz31_12 hcz31_2 hcz31_3 hcz31_4 hcz31_5 hcz31_6 hcz31_7 hcz31_8 hcz31_9
                        try clear hcz32_0 hcz32_1 hcz32_10 hcz32_11 hcz32_12 hcz32_2 hcz32_3 hcz32_4 hcz32_5 hcz32_6 hcz32_7 hcz32_8 hcz32_9
                        try clear hcz36_0 hcz36_1 hcz36_10 hcz36_11 hcz36_12 hcz36_2 hcz36_3 hcz36_4 hcz36_5 hcz36_6 hcz36_7 hcz36_8 hcz36_9
                        try clear hcz37_0 hcz37_1 hcz37_10 hcz37_11 hcz37_12 hcz37_2 hcz37_3 hcz37_4 hcz37_5 hcz37_6 hcz37_7 hcz37_8 hcz37_9
                        try clear hcz41_0 hcz41_1 hcz41_10 hcz41_11 hcz41_12 hcz41_2 hcz41_3 hcz41_4 hcz41_5 hcz41_6 hcz41_7 hcz41_8 hcz41_9
                        try clear hcz43_0 hcz43_1 hcz43_10 hcz43_11 hcz43_12 hcz43_2 hcz43_3 hcz43_4 hcz43_5 hcz43_6 hcz43_7 hcz43_8 hcz43_9
                        try clear hcz45_0 hcz45_1 hcz45_10 hcz45_11 hcz45_12 hcz45_2 hcz45_3 hcz45_4 hcz45_5 hcz45_6 hcz45_7 hcz45_8 hcz45_9
                        try clear hcz46_0 hcz46_1 hcz46_10 hcz46_11 hcz46_12 hcz46_2 hcz46_3 hcz46_4 hcz46_5 hcz46_6 hcz46_7 hcz46_8 hcz46_9
                        try clear hcz50_0 hcz50_1 hcz50_10 hcz50_11 hcz50_12 hcz50_2 hcz50_3 hcz50_4 hcz50_5 hcz50_6 hcz50_7 hcz50_8 hcz50_9
                        try clear hcz51_0 hcz51_1 hcz51_10 hcz51_11 hcz51_12 hcz51_2 hcz51_3 hcz51_4 hcz51_5 hcz51_6 hcz51_7 hcz51_8 hcz51_9
                        try clear hcz56_0 hcz56_1 hcz56_10 hcz56_11 hcz56_12 hcz56_2 hcz56_3 hcz56_4 hcz56_5 hcz56_6 hcz56_7 hcz56_8 hcz56_9
                        try clear hcz57_0 hcz57_1 hcz57_10 hcz57_11 hcz57_12 hcz57_2 hcz57_3 hcz57_4 hcz57_5 hcz57_6 hcz57_7 hcz57_8 hcz57_9
                        try clear hcz5_0 hcz5_1 hcz5_10 hcz5_11 hcz5_12 hcz5_2 hcz5_3 hcz5_4 hcz5_5 hcz5_6 hcz5_7 hcz5_8 hcz5_9
                        try clear hcz61_0 hcz61_1 hcz61_10 hcz61_11 hcz61_12 hcz61_2 hcz61_3 hcz61_4 hcz61_5 hcz61_6 hcz61_7 hcz61_8 hcz61_9
                        try clear hcz62_0 hcz62_1 hcz62_10 hcz62_11 hcz62_12 hcz62_2 hcz62_3 hcz62_4 hcz62_5 hcz62_6 hcz62_7 hcz62_8 hcz62_9
                        try clear hcz6_0 hcz6_1 hcz6_10 hcz6_11 hcz6_12 hcz6_2 hcz6_3 hcz6_4 hcz6_5 hcz6_6 hcz6_7 hcz6_8 hcz6_9
                        try clear hfz12_0 hfz12_1 hfz12_10 hfz12_11 hfz12_12 hfz12_2 hfz12_3 hfz12_4 hfz12_5 hfz12_6 hfz12_7 hfz12_8 hfz12_9
                        try clear hfz14_0 hfz14_1 hfz14_10 hfz14_11 hfz14_12 hfz14_2 hfz14_3 hfz14_4 hfz14_5 hfz14_6 hfz14_7 hfz14_8 hfz14_9
                        try clear hfz16_0 hfz16_1 hfz16_10 hfz16_11 hfz16_12 hfz16_2 hfz16_3 hfz16_4 hfz16_5 hfz16_6 hfz16_7 hfz16_8 hfz16_9
                        try clear hfz20_0 hfz20_1 hfz20_10 hfz20_11 hfz20_12 hfz20_2 hfz20_3 hfz20_4 hfz20_5 hfz20_6 hfz20_7 hfz20_8 hfz20_9
                        try clear hfz26_0 hfz26_1 hfz26_10 hfz26_11 hfz26_12 hfz26_2 hfz26_3 hfz26_4 hfz26_5 hfz26_6 hfz26_7 hfz26_8 hfz26_9
                        try clear hfz28_0 hfz28_1 hfz28_10 hfz28_11 hfz28_12 hfz28_2 hfz28_3 hfz28_4 hfz28_5 hfz28_6 hfz28_7 hfz28_8 hfz28_9
                        try clear hfz31_0 hfz31_1 hfz31_10 hfz31_11 hfz31_12 hfz31_2 hfz31_3 hfz31_4 hfz31_5 hfz31_6 hfz31_7 hfz31_8 hfz31_9
                        try clear hfz32_0 hfz32_1 hfz32_10 hfz32_11 hfz32_12 hfz32_2 hfz32_3 hfz32_4 hfz32_5 hfz32_6 hfz32_7 hfz32_8 hfz32_9
                        try clear hfz36_0 hfz36_1 hfz36_10 hfz36_11 hfz36_12 hfz36_2 hfz36_3 hfz36_4 hfz36_5 hfz36_6 hfz36_7 hfz36_8 hfz36_9
                        try clear hfz37_0 hfz37_1 hfz37_10 hfz37_11 hfz37_12 hfz37_2 hfz37_3 hfz37_4 hfz37_5 hfz37_6 hfz37_7 hfz37_8 hfz37_9
                        try clear hfz41_0 hfz41_1 hfz41_10 hfz41_11 hfz41_12 hfz41_2 hfz41_3 hfz41_4 hfz41_5 hfz41_6 hfz41_7 hfz41_8 hfz41_9
                        try clear hfz43_0 hfz43_1 hfz43_10 hfz43_11 hfz43_12 hfz43_2 hfz43_3 hfz43_4 hfz43_5 hfz43_6 hfz43_7 hfz43_8 hfz43_9
                        try clear hfz45_0 hfz45_1 hfz45_10 hfz45_11 hfz45_12 hfz45_2 hfz45_3 hfz45_4 hfz45_5 hfz45_6 hfz45_7 hfz45_8 hfz45_9
                        try clear hfz46_0 hfz46_1 hfz46_10 hfz46_11 hfz46_12 hfz46_2 hfz46_3 hfz46_4 hfz46_5 hfz46_6 hfz46_7 hfz46_8 hfz46_9
                        try clear hfz50_0 hfz50_1 hfz50_10 hfz50_11 hfz50_12 hfz50_2 hfz50_3 hfz50_4 hfz50_5 hfz50_6 hfz50_7 hfz50_8 hfz50_9
                        try clear hfz51_0 hfz51_1 hfz51_10 hfz51_11 hfz51_12 hfz51_2 hfz51_3 hfz51_4 hfz51_5 hfz51_6 hfz51_7 hfz51_8 hfz51_9
                        try clear hfz56_0 hfz56_1 hfz56_10 hfz56_11 hfz56_12 hfz56_2 hfz56_3 hfz56_4 hfz56_5 hfz56_6 hfz56_7 hfz56_8 hfz56_9
                        try clear hfz57_0 hfz57_1 hfz57_10 hfz57_11 hfz57_12 hfz57_2 hfz57_3 hfz57_4 hfz57_5 hfz57_6 hfz57_7 hfz57_8 hfz57_9
                        try clear hfz5_0 hfz5_1 hfz5_10 hfz5_11 hfz5_12 hfz5_2 hfz5_3 hfz5_4 hfz5_5 hfz5_6 hfz5_7 hfz5_8 hfz5_9
                        try clear hfz61_0 hfz61_1 hfz61_10 hfz61_11 hfz61_12 hfz61_2 hfz61_3 hfz61_4 hfz61_5 hfz61_6 hfz61_7 hfz61_8 hfz61_9
                        try clear hfz62_0 hfz62_1 hfz62_10 hfz62_11 hfz62_12 hfz62_2 hfz62_3 hfz62_4 hfz62_5 hfz62_6 hfz62_7 hfz62_8 hfz62_9
                        try clear hfz6_0 hfz6_1 hfz6_10 hfz6_11 hfz6_12 hfz6_2 hfz6_3 hfz6_4 hfz6_5 hfz6_6 hfz6_7 hfz6_8 hfz6_9
                        try clear p2
                        obtain ⟨kq, x91_57, rfl, HA, HJ57, BK318, HB⟩ := hcut
                        cases kq with
                        | zero => exact absurd HA.out (by simp [matching_Trade_Check.j7])
                        | succ kj57 =>
                         have H := HA.out
                         clear HA
                         simp only [matching_Trade_Check.j7] at H
                         by_cases c63 : x91_57 = true
                         ·subst c63
                          have H1 : (some 2) = some r := by rw [if_pos rfl] at H; exact H
                          clear H
                          have H := H1
                          clear H1
                          obtain rfl := Option.some.inj H
                          go_wp2
                          go_ret
                          exact ⟨by first | rfl | (simp [errW_none, errW_some] <;> rfl) | (simp [*, errW_none, errW_some] <;> rfl), by repeat (first | (with_reducible first | exact HB.out | apply below_alloc | apply pw_below_drewN | apply below_drew1 | refine below_set ?_ GE318.out) | exact HB.out)⟩
                         ·replace c63 := Bool.eq_false_iff.mpr c63
                          subst c63
                          have H1 : ((matching_Trade_Check_2.f a0_11).bind fun t325 => (if t325 = true then ((matching_Trade_Check_2.f a0_12).bind fun t326 => (if t326 = true then (some 0) else (some 6))) else (some 6))) = some r := by rw [if_neg (show ¬ (false = true) by decide)] at H; exact H
                          clear H
                          have H := H1
                          clear H1
                          replace H := Option.bind_eq_some_iff.mp H
                          obtain ⟨t325, A640, H⟩ := H
                          replace H : (if t325 = true then ((matching_Trade_Check_2.f a0_12).bind fun t326 => (if t326 = true then (some 0) else (some 6))) else (some 6)) = some r := H
                          have A64 := Aside0.mk A640
                          clear A640
                          by_cases c65 : t325 = true
                          ·subst c65
                           have H1 : ((matching_Trade_Check_2.f a0_12).bind fun t326 => (if t326 = true then (some 0) else (some 6))) = some r := by rw [if_pos rfl] at H; exact H
                           clear H
                           have H := H1
                           clear H1
                           replace H := Option.bind_eq_some_iff.mp H
                           obtain ⟨t326, A660, H⟩ := H
                           replace H : (if t326 = true then (some 0) else (some 6)) = some r := H
                           have A66 := Aside0.mk A660
                           clear A660
                           by_cases c67 : t326 = true
                           ·subst c67
                            have H1 : (some 0) = some r := by rw [if_pos rfl] at H; exact H
                            clear H
                            have H := H1
                            clear H1
                            obtain rfl := Option.some.inj H
                            have hcz68_0 : wc.cell? ⟨gb318, 0, none⟩ = some (.int .i64 a0_0) := (blk_cell BK318.out 0).trans rfl
                            have hcz68_1 : wc.cell? ⟨gb318, 1, none⟩ = some (.string a0_1) := (blk_cell BK318.out 1).trans rfl
                            have hcz68_2 : wc.cell? ⟨gb318, 2, none⟩ = some (.string a0_2) := (blk_cell BK318.out 2).trans rfl
                            have hcz68_3 : wc.cell? ⟨gb318, 3, none⟩ = some (.string a0_3) := (blk_cell BK318.out 3).trans rfl
                            have hcz68_4 : wc.cell? ⟨gb318, 4, none⟩ = some (.int .i64 a0_4) := (blk_cell BK318.out 4).trans rfl
                            have hcz68_5 : wc.cell? ⟨gb318, 5, none⟩ = some (.int .i64 a0_5) := (blk_cell BK318.out 5).trans rfl
                            have hcz68_6 : wc.cell? ⟨gb318, 6, none⟩ = some (.int .i64 a0_6) := (blk_cell BK318.out 6).trans rfl
                            have hcz68_7 : wc.cell? ⟨gb318, 7, none⟩ = some (.int .i64 a0_7) := (blk_cell BK318.out 7).trans rfl
                            have hcz68_8 : wc.cell? ⟨gb318, 8, none⟩ = some (.int .i64 a0_8) := (blk_cell BK318.out 8).trans rfl
                            have hcz68_9 : wc.cell? ⟨gb318, 9, none⟩ = some (.bool a0_9) := (blk_cell BK318.out 9).trans rfl
                            have hcz68_10 : wc.cell? ⟨gb318, 10, none⟩ = some (.int .i64 a0_10) := (blk_cell BK318.out 10).trans rfl
                            have hcz68_11 : wc.cell? ⟨gb318, 11, none⟩ = some (.string a0_11) := (blk_cell BK318.out 11).trans rfl
                            have hcz68_12 : wc.cell? ⟨gb318, 12, none⟩ = some (.string a0_12) := (blk_cell BK318.out 12).trans rfl
                            have hfz68_0 := blk_frozen BK318.out 0
                            have hfz68_1 := blk_frozen BK318.out 1
                            have hfz68_2 := blk_frozen BK318.out 2
                            have hfz68_3 := blk_frozen BK318.out 3
                            have hfz68_4 := blk_frozen BK318.out 4
                            have hfz68_5 := blk_frozen BK318.out 5
                            have hfz68_6 := blk_frozen BK318.out 6
                            have hfz68_7 := blk_frozen BK318.out 7
                            have hfz68_8 := blk_frozen BK318.out 8
                            have hfz68_9 := blk_frozen BK318.out 9
                            have hfz68_10 := blk_frozen BK318.out 10
                            have hfz68_11 := blk_frozen BK318.out 11
                            have hfz68_12 := blk_frozen BK318.out 12
                            go_wp2_with (first | (go_at_call 46; (with_reducible refine (matching_Trade_Check_2.calls a0_11 true _ A64.out).mono ?_); rintro e w69 ⟨rfl, hb⟩; have n0_ := Aside0.mk (blk_below (g := gb318) (o := .cells #[.int .i64 a0_0, .string a0_1, .string a0_2, .string a0_3, .int .i64 a0_4, .int .i64 a0_5, .int .i64 a0_6, .int .i64 a0_7, .int .i64 a0_8, .bool a0_9, .int .i64 a0_10, .string a0_11, .string a0_12] 31 (0, 0)) (by (with_reducible repeat (first | refine blk_drewN ?_ _ | refine blk_drew ?_ | refine blk_alloc ?_ _)); exact BK318.out) hb); have n1_ := Aside0.mk (below_step (by repeat (first | (with_reducible first | exact HB.out | apply below_alloc | apply pw_below_drewN | apply below_drew1 | refine below_set ?_ GE318.out) | exact HB.out)) hb); clear BK318; clear HB; have BK318 := n0_; have HB := n1_; clear n0_ n1_; (try clear hb); (try clear hb2); (try clear hk); (try clear hi); have hcz70_0 : w69.cell? ⟨gb318, 0, none⟩ = some (.int .i64 a0_0) := (blk_cell BK318.out 0).trans rfl; have hcz70_1 : w69.cell? ⟨gb318, 1, none⟩ = some (.string a0_1) := (blk_cell BK318.out 1).trans rfl; have hcz70_2 : w69.cell? ⟨gb318, 2, none⟩ = some (.string a0_2) := (blk_cell BK318.out 2).trans rfl; have hcz70_3 : w69.cell? ⟨gb318, 3, none⟩ = some (.string a0_3) := (blk_cell BK318.out 3).trans rfl; have hcz70_4 : w69.cell? ⟨gb318, 4, none⟩ = some (.int .i64 a0_4) := (blk_cell BK318.out 4).trans rfl; have hcz70_5 : w69.cell? ⟨gb318, 5, none⟩ = some (.int .i64 a0_5) := (blk_cell BK318.out 5).trans rfl; have hcz70_6 : w69.cell? ⟨gb318, 6, none⟩ = some (.int .i64 a0_6) := (blk_cell BK318.out 6).trans rfl; have hcz70_7 : w69.cell? ⟨gb318, 7, none⟩ = some (.int .i64 a0_7) := (blk_cell BK318.out 7).trans rfl; have hcz70_8 : w69.cell? ⟨gb318, 8, none⟩ = some (.int .i64 a0_8) := (blk_cell BK318.out 8).trans rfl; have hcz70_9 : w69.cell? ⟨gb318, 9, none⟩ = some (.bool a0_9) := (blk_cell BK318.out 9).trans rfl; have hcz70_10 : w69.cell? ⟨gb318, 10, none⟩ = some (.int .i64 a0_10) := (blk_cell BK318.out 10).trans rfl; have hcz70_11 : w69.cell? ⟨gb318, 11, none⟩ = some (.string a0_11) := (blk_cell BK318.out 11).trans rfl; have hcz70_12 : w69.cell? ⟨gb318, 12, none⟩ = some (.string a0_12) := (blk_cell BK318.out 12).trans rfl; have hfz70_0 := blk_frozen BK318.out 0; have hfz70_1 := blk_frozen BK318.out 1; have hfz70_2 := blk_frozen BK318.out 2; have hfz70_3 := blk_frozen BK318.out 3; have hfz70_4 := blk_frozen BK318.out 4; have hfz70_5 := blk_frozen BK318.out 5; have hfz70_6 := blk_frozen BK318.out 6; have hfz70_7 := blk_frozen BK318.out 7; have hfz70_8 := blk_frozen BK318.out 8; have hfz70_9 := blk_frozen BK318.out 9; have hfz70_10 := blk_frozen BK318.out 10; have hfz70_11 := blk_frozen BK318.out 11; have hfz70_12 := blk_frozen BK318.out 12) | (go_at_call 46; (with_reducible refine (matching_Trade_Check_2.calls a0_12 true _ A66.out).mono ?_); rintro e w71 ⟨rfl, hb⟩; have n0_ := Aside0.mk (blk_below (g := gb318) (o := .cells #[.int .i64 a0_0, .string a0_1, .string a0_2, .string a0_3, .int .i64 a0_4, .int .i64 a0_5, .int .i64 a0_6, .int .i64 a0_7, .int .i64 a0_8, .bool a0_9, .int .i64 a0_10, .string a0_11, .string a0_12] 31 (0, 0)) (by (with_reducible repeat (first | refine blk_drewN ?_ _ | refine blk_drew ?_ | refine blk_alloc ?_ _)); exact BK318.out) hb); have n1_ := Aside0.mk (below_step (by repeat (first | (with_reducible first | exact HB.out | apply below_alloc | apply pw_below_drewN | apply below_drew1 | refine below_set ?_ GE318.out) | exact HB.out)) hb); clear BK318; clear HB; have BK318 := n0_; have HB := n1_; clear n0_ n1_; (try clear hb); (try clear hb2); (try clear hk); (try clear hi)))
                            go_ret
                            exact ⟨by first | rfl | (simp [errW_none, errW_some] <;> rfl) | (simp [*, errW_none, errW_some] <;> rfl), by repeat (first | (with_reducible first | exact HB.out | apply below_alloc | apply pw_below_drewN | apply below_drew1 | refine below_set ?_ GE318.out) | exact HB.out)⟩
                           ·replace c67 := Bool.eq_false_iff.mpr c67
                            subst c67
                            have H1 : (some 6) = some r := by rw [if_neg (show ¬ (false = true) by decide)] at H; exact H
                            clear H
                            have H := H1
                            clear H1
                            obtain rfl := Option.some.inj H
                            have hcz72_0 : wc.cell? ⟨gb318, 0, none⟩ = some (.int .i64 a0_0) := (blk_cell BK318.out 0).trans rfl
                            have hcz72_1 : wc.cell? ⟨gb318, 1, none⟩ = some (.string a0_1) := (blk_cell BK318.out 1).trans rfl
                            have hcz72_2 : wc.cell? ⟨gb318, 2, none⟩ = some (.string a0_2) := (blk_cell BK318.out 2).trans rfl
                            have hcz72_3 : wc.cell? ⟨gb318, 3, none⟩ = some (.string a0_3) := (blk_cell BK318.out 3).trans rfl
                            have hcz72_4 : wc.cell? ⟨gb318, 4, none⟩ = some (.int .i64 a0_4) := (blk_cell BK318.out 4).trans rfl
                            have hcz72_5 : wc.cell? ⟨gb318, 5, none⟩ = some (.int .i64 a0_5) := (blk_cell BK318.out 5).trans rfl
                            have hcz72_6 : wc.cell? ⟨gb318, 6, none⟩ = some (.int .i64 a0_6) := (blk_cell BK318.out 6).trans rfl
                            have hcz72_7 : wc.cell? ⟨gb318, 7, none⟩ = some (.int .i64 a0_7) := (blk_cell BK318.out 7).trans rfl
                            have hcz72_8 : wc.cell? ⟨gb318, 8, none⟩ = some (.int .i64 a0_8) := (blk_cell BK318.out 8).trans rfl
                            have hcz72_9 : wc.cell? ⟨gb318, 9, none⟩ = some (.bool a0_9) := (blk_cell BK318.out 9).trans rfl
                            have hcz72_10 : wc.cell? ⟨gb318, 10, none⟩ = some (.int .i64 a0_10) := (blk_cell BK318.out 10).trans rfl
                            have hcz72_11 : wc.cell? ⟨gb318, 11, none⟩ = some (.string a0_11) := (blk_cell BK318.out 11).trans rfl
                            have hcz72_12 : wc.cell? ⟨gb318, 12, none⟩ = some (.string a0_12) := (blk_cell BK318.out 12).trans rfl
                            have hfz72_0 := blk_frozen BK318.out 0
                            have hfz72_1 := blk_frozen BK318.out 1
                            have hfz72_2 := blk_frozen BK318.out 2
                            have hfz72_3 := blk_frozen BK318.out 3
                            have hfz72_4 := blk_frozen BK318.out 4
                            have hfz72_5 := blk_frozen BK318.out 5
                            have hfz72_6 := blk_frozen BK318.out 6
                            have hfz72_7 := blk_frozen BK318.out 7
                            have hfz72_8 := blk_frozen BK318.out 8
                            have hfz72_9 := blk_frozen BK318.out 9
                            have hfz72_10 := blk_frozen BK318.out 10
                            have hfz72_11 := blk_frozen BK318.out 11
                            have hfz72_12 := blk_frozen BK318.out 12
                            go_wp2_with (first | (go_at_call 46; (with_reducible refine (matching_Trade_Check_2.calls a0_11 true _ A64.out).mono ?_); rintro e w73 ⟨rfl, hb⟩; have n0_ := Aside0.mk (blk_below (g := gb318) (o := .cells #[.int .i64 a0_0, .string a0_1, .string a0_2, .string a0_3, .int .i64 a0_4, .int .i64 a0_5, .int .i64 a0_6, .int .i64 a0_7, .int .i64 a0_8, .bool a0_9, .int .i64 a0_10, .string a0_11, .string a0_12] 31 (0, 0)) (by (with_reducible repeat (first | refine blk_drewN ?_ _ | refine blk_drew ?_ | refine blk_alloc ?_ _)); exact BK318.out) hb); have n1_ := Aside0.mk (below_step (by repeat (first | (with_reducible first | exact HB.out | apply below_alloc | apply pw_below_drewN | apply below_drew1 | refine below_set ?_ GE318.out) | exact HB.out)) hb); clear BK318; clear HB; have BK318 := n0_; have HB := n1_; clear n0_ n1_; (try clear hb); (try clear hb2); (try clear hk); (try clear hi); have hcz74_0 : w73.cell? ⟨gb318, 0, none⟩ = some (.int .i64 a0_0) := (blk_cell BK318.out 0).trans rfl; have hcz74_1 : w73.cell? ⟨gb318, 1, none⟩ = some (.string a0_1) := (blk_cell BK318.out 1).trans rfl; have hcz74_2 : w73.cell? ⟨gb318, 2, none⟩ = some (.string a0_2) := (blk_cell BK318.out 2).trans rfl; have hcz74_3 : w73.cell? ⟨gb318, 3, none⟩ = some (.string a0_3) := (blk_cell BK318.out 3).trans rfl; have hcz74_4 : w73.cell? ⟨gb318, 4, none⟩ = some (.int .i64 a0_4) := (blk_cell BK318.out 4).trans rfl; have hcz74_5 : w73.cell? ⟨gb318, 5, none⟩ = some (.int .i64 a0_5) := (blk_cell BK318.out 5).trans rfl; have hcz74_6 : w73.cell? ⟨gb318, 6, none⟩ = some (.int .i64 a0_6) := (blk_cell BK318.out 6).trans rfl; have hcz74_7 : w73.cell? ⟨gb318, 7, none⟩ = some (.int .i64 a0_7) := (blk_cell BK318.out 7).trans rfl; have hcz74_8 : w73.cell? ⟨gb318, 8, none⟩ = some (.int .i64 a0_8) := (blk_cell BK318.out 8).trans rfl; have hcz74_9 : w73.cell? ⟨gb318, 9, none⟩ = some (.bool a0_9) := (blk_cell BK318.out 9).trans rfl; have hcz74_10 : w73.cell? ⟨gb318, 10, none⟩ = some (.int .i64 a0_10) := (blk_cell BK318.out 10).trans rfl; have hcz74_11 : w73.cell? ⟨gb318, 11, none⟩ = some (.string a0_11) := (blk_cell BK318.out 11).trans rfl; have hcz74_12 : w73.cell? ⟨gb318, 12, none⟩ = some (.string a0_12) := (blk_cell BK318.out 12).trans rfl; have hfz74_0 := blk_frozen BK318.out 0; have hfz74_1 := blk_frozen BK318.out 1; have hfz74_2 := blk_frozen BK318.out 2; have hfz74_3 := blk_frozen BK318.out 3; have hfz74_4 := blk_frozen BK318.out 4; have hfz74_5 := blk_frozen BK318.out 5; have hfz74_6 := blk_frozen BK318.out 6; have hfz74_7 := blk_frozen BK318.out 7; have hfz74_8 := blk_frozen BK318.out 8; have hfz74_9 := blk_frozen BK318.out 9; have hfz74_10 := blk_frozen BK318.out 10; have hfz74_11 := blk_frozen BK318.out 11; have hfz74_12 := blk_frozen BK318.out 12) | (go_at_call 46; (with_reducible refine (matching_Trade_Check_2.calls a0_12 false _ A66.out).mono ?_); rintro e w75 ⟨rfl, hb⟩; have n0_ := Aside0.mk (blk_below (g := gb318) (o := .cells #[.int .i64 a0_0, .string a0_1, .string a0_2, .string a0_3, .int .i64 a0_4, .int .i64 a0_5, .int .i64 a0_6, .int .i64 a0_7, .int .i64 a0_8, .bool a0_9, .int .i64 a0_10, .string a0_11, .string a0_12] 31 (0, 0)) (by (with_reducible repeat (first | refine blk_drewN ?_ _ | refine blk_drew ?_ | refine blk_alloc ?_ _)); exact BK318.out) hb); have n1_ := Aside0.mk (below_step (by repeat (first | (with_reducible first | exact HB.out | apply below_alloc | apply pw_below_drewN | apply below_drew1 | refine below_set ?_ GE318.out) | exact HB.out)) hb); clear BK318; clear HB; have BK318 := n0_; have HB := n1_; clear n0_ n1_; (try clear hb); (try clear hb2); (try clear hk); (try clear hi)))
                            go_ret
                            exact ⟨by first | rfl | (simp [errW_none, errW_some] <;> rfl) | (simp [*, errW_none, errW_some] <;> rfl), by repeat (first | (with_reducible first | exact HB.out | apply below_alloc | apply pw_below_drewN | apply below_drew1 | refine below_set ?_ GE318.out) | exact HB.out)⟩
                          ·replace c65 := Bool.eq_false_iff.mpr c65
                           subst c65
                           have H1 : (some 6) = some r := by rw [if_neg (show ¬ (false = true) by decide)] at H; exact H
                           clear H
                           have H := H1
                           clear H1
                           obtain rfl := Option.some.inj H
                           have hcz76_0 : wc.cell? ⟨gb318, 0, none⟩ = some (.int .i64 a0_0) := (blk_cell BK318.out 0).trans rfl
                           have hcz76_1 : wc.cell? ⟨gb318, 1, none⟩ = some (.string a0_1) := (blk_cell BK318.out 1).trans rfl
                           have hcz76_2 : wc.cell? ⟨gb318, 2, none⟩ = some (.string a0_2) := (blk_cell BK318.out 2).trans rfl
                           have hcz76_3 : wc.cell? ⟨gb318, 3, none⟩ = some (.string a0_3) := (blk_cell BK318.out 3).trans rfl
                           have hcz76_4 : wc.cell? ⟨gb318, 4, none⟩ = some (.int .i64 a0_4) := (blk_cell BK318.out 4).trans rfl
                           have hcz76_5 : wc.cell? ⟨gb318, 5, none⟩ = some (.int .i64 a0_5) := (blk_cell BK318.out 5).trans rfl
                           have hcz76_6 : wc.cell? ⟨gb318, 6, none⟩ = some (.int .i64 a0_6) := (blk_cell BK318.out 6).trans rfl
                           have hcz76_7 : wc.cell? ⟨gb318, 7, none⟩ = some (.int .i64 a0_7) := (blk_cell BK318.out 7).trans rfl
                           have hcz76_8 : wc.cell? ⟨gb318, 8, none⟩ = some (.int .i64 a0_8) := (blk_cell BK318.out 8).trans rfl
                           have hcz76_9 : wc.cell? ⟨gb318, 9, none⟩ = some (.bool a0_9) := (blk_cell BK318.out 9).trans rfl
                           have hcz76_10 : wc.cell? ⟨gb318, 10, none⟩ = some (.int .i64 a0_10) := (blk_cell BK318.out 10).trans rfl
                           have hcz76_11 : wc.cell? ⟨gb318, 11, none⟩ = some (.string a0_11) := (blk_cell BK318.out 11).trans rfl
                           have hcz76_12 : wc.cell? ⟨gb318, 12, none⟩ = some (.string a0_12) := (blk_cell BK318.out 12).trans rfl
                           have hfz76_0 := blk_frozen BK318.out 0
                           have hfz76_1 := blk_frozen BK318.out 1
                           have hfz76_2 := blk_frozen BK318.out 2
                           have hfz76_3 := blk_frozen BK318.out 3
                           have hfz76_4 := blk_frozen BK318.out 4
                           have hfz76_5 := blk_frozen BK318.out 5
                           have hfz76_6 := blk_frozen BK318.out 6
                           have hfz76_7 := blk_frozen BK318.out 7
                           have hfz76_8 := blk_frozen BK318.out 8
                           have hfz76_9 := blk_frozen BK318.out 9
                           have hfz76_10 := blk_frozen BK318.out 10
                           have hfz76_11 := blk_frozen BK318.out 11
                           have hfz76_12 := blk_frozen BK318.out 12
                           go_wp2_with (first | (go_at_call 46; (with_reducible refine (matching_Trade_Check_2.calls a0_11 false _ A64.out).mono ?_); rintro e w77 ⟨rfl, hb⟩; have n0_ := Aside0.mk (blk_below (g := gb318) (o := .cells #[.int .i64 a0_0, .string a0_1, .string a0_2, .string a0_3, .int .i64 a0_4, .int .i64 a0_5, .int .i64 a0_6, .int .i64 a0_7, .int .i64 a0_8, .bool a0_9, .int .i64 a0_10, .string a0_11, .string a0_12] 31 (0, 0)) (by (with_reducible repeat (first | refine blk_drewN ?_ _ | refine blk_drew ?_ | refine blk_alloc ?_ _)); exact BK318.out) hb); have n1_ := Aside0.mk (below_step (by repeat (first | (with_reducible first | exact HB.out | apply below_alloc | apply pw_below_drewN | apply below_drew1 | refine below_set ?_ GE318.out) | exact HB.out)) hb); clear BK318; clear HB; have BK318 := n0_; have HB := n1_; clear n0_ n1_; (try clear hb); (try clear hb2); (try clear hk); (try clear hi)))
                           go_ret
                           exact ⟨by first | rfl | (simp [errW_none, errW_some] <;> rfl) | (simp [*, errW_none, errW_some] <;> rfl), by repeat (first | (with_reducible first | exact HB.out | apply below_alloc | apply pw_below_drewN | apply below_drew1 | refine below_set ?_ GE318.out) | exact HB.out)⟩
         ·replace c24 := Bool.eq_false_iff.mpr c24
          subst c24
          have H1 : (some 2) = some r := by rw [if_neg (show ¬ (false = true) by decide)] at H; exact H
          clear H
          have H := H1
          clear H1
          obtain rfl := Option.some.inj H
          have hcz78_0 : wc.cell? ⟨gb318, 0, none⟩ = some (.int .i64 a0_0) := (blk_cell BK318.out 0).trans rfl
          have hcz78_1 : wc.cell? ⟨gb318, 1, none⟩ = some (.string a0_1) := (blk_cell BK318.out 1).trans rfl
          have hcz78_2 : wc.cell? ⟨gb318, 2, none⟩ = some (.string a0_2) := (blk_cell BK318.out 2).trans rfl
          have hcz78_3 : wc.cell? ⟨gb318, 3, none⟩ = some (.string a0_3) := (blk_cell BK318.out 3).trans rfl
          have hcz78_4 : wc.cell? ⟨gb318, 4, none⟩ = some (.int .i64 a0_4) := (blk_cell BK318.out 4).trans rfl
          have hcz78_5 : wc.cell? ⟨gb318, 5, none⟩ = some (.int .i64 a0_5) := (blk_cell BK318.out 5).trans rfl
          have hcz78_6 : wc.cell? ⟨gb318, 6, none⟩ = some (.int .i64 a0_6) := (blk_cell BK318.out 6).trans rfl
          have hcz78_7 : wc.cell? ⟨gb318, 7, none⟩ = some (.int .i64 a0_7) := (blk_cell BK318.out 7).trans rfl
          have hcz78_8 : wc.cell? ⟨gb318, 8, none⟩ = some (.int .i64 a0_8) := (blk_cell BK318.out 8).trans rfl
          have hcz78_9 : wc.cell? ⟨gb318, 9, none⟩ = some (.bool a0_9) := (blk_cell BK318.out 9).trans rfl
          have hcz78_10 : wc.cell? ⟨gb318, 10, none⟩ = some (.int .i64 a0_10) := (blk_cell BK318.out 10).trans rfl
          have hcz78_11 : wc.cell? ⟨gb318, 11, none⟩ = some (.string a0_11) := (blk_cell BK318.out 11).trans rfl
          have hcz78_12 : wc.cell? ⟨gb318, 12, none⟩ = some (.string a0_12) := (blk_cell BK318.out 12).trans rfl
          have hfz78_0 := blk_frozen BK318.out 0
          have hfz78_1 := blk_frozen BK318.out 1
          have hfz78_2 := blk_frozen BK318.out 2
          have hfz78_3 := blk_frozen BK318.out 3
          have hfz78_4 := blk_frozen BK318.out 4
          have hfz78_5 := blk_frozen BK318.out 5
          have hfz78_6 := blk_frozen BK318.out 6
          have hfz78_7 := blk_frozen BK318.out 7
          have hfz78_8 := blk_frozen BK318.out 8
          have hfz78_9 := blk_frozen BK318.out 9
          have hfz78_10 := blk_frozen BK318.out 10
          have hfz78_11 := blk_frozen BK318.out 11
          have hfz78_12 := blk_frozen BK318.out 12
          go_wp2_with (first | ((with_reducible refine gate_callee (f := 45) rfl ?_); refine goesL_ (some 36) rfl rfl Tryd.func45 (by kernel_rfl) rfl #[.int .i64 0, .string a0_3] rfl (by (try simp only [List.map_toArray, List.map_cons, List.map_nil]); first | done | rfl | (simp only [List.length_drop, List.length_take]; rfl)) ?_; (with_reducible refine (ident_Valid.calls 0 a0_3 true _ A21.out).mono ?_); rintro e w79 ⟨rfl, hb⟩; refine ⟨_, rfl, ?_⟩; have n0_ := Aside0.mk (blk_below (g := gb318) (o := .cells #[.int .i64 a0_0, .string a0_1, .string a0_2, .string a0_3, .int .i64 a0_4, .int .i64 a0_5, .int .i64 a0_6, .int .i64 a0_7, .int .i64 a0_8, .bool a0_9, .int .i64 a0_10, .string a0_11, .string a0_12] 31 (0, 0)) (by (with_reducible repeat (first | refine blk_drewN ?_ _ | refine blk_drew ?_ | refine blk_alloc ?_ _)); exact BK318.out) hb); have n1_ := Aside0.mk (below_step (by repeat (first | (with_reducible first | exact HB.out | apply below_alloc | apply pw_below_drewN | apply below_drew1 | refine below_set ?_ GE318.out) | exact HB.out)) hb); clear BK318; clear HB; have BK318 := n0_; have HB := n1_; clear n0_ n1_; (try clear hb); (try clear hb2); (try clear hk); (try clear hi); have hcz80_0 : w79.cell? ⟨gb318, 0, none⟩ = some (.int .i64 a0_0) := (blk_cell BK318.out 0).trans rfl; have hcz80_1 : w79.cell? ⟨gb318, 1, none⟩ = some (.string a0_1) := (blk_cell BK318.out 1).trans rfl; have hcz80_2 : w79.cell? ⟨gb318, 2, none⟩ = some (.string a0_2) := (blk_cell BK318.out 2).trans rfl; have hcz80_3 : w79.cell? ⟨gb318, 3, none⟩ = some (.string a0_3) := (blk_cell BK318.out 3).trans rfl; have hcz80_4 : w79.cell? ⟨gb318, 4, none⟩ = some (.int .i64 a0_4) := (blk_cell BK318.out 4).trans rfl; have hcz80_5 : w79.cell? ⟨gb318, 5, none⟩ = some (.int .i64 a0_5) := (blk_cell BK318.out 5).trans rfl; have hcz80_6 : w79.cell? ⟨gb318, 6, none⟩ = some (.int .i64 a0_6) := (blk_cell BK318.out 6).trans rfl; have hcz80_7 : w79.cell? ⟨gb318, 7, none⟩ = some (.int .i64 a0_7) := (blk_cell BK318.out 7).trans rfl; have hcz80_8 : w79.cell? ⟨gb318, 8, none⟩ = some (.int .i64 a0_8) := (blk_cell BK318.out 8).trans rfl; have hcz80_9 : w79.cell? ⟨gb318, 9, none⟩ = some (.bool a0_9) := (blk_cell BK318.out 9).trans rfl; have hcz80_10 : w79.cell? ⟨gb318, 10, none⟩ = some (.int .i64 a0_10) := (blk_cell BK318.out 10).trans rfl; have hcz80_11 : w79.cell? ⟨gb318, 11, none⟩ = some (.string a0_11) := (blk_cell BK318.out 11).trans rfl; have hcz80_12 : w79.cell? ⟨gb318, 12, none⟩ = some (.string a0_12) := (blk_cell BK318.out 12).trans rfl; have hfz80_0 := blk_frozen BK318.out 0; have hfz80_1 := blk_frozen BK318.out 1; have hfz80_2 := blk_frozen BK318.out 2; have hfz80_3 := blk_frozen BK318.out 3; have hfz80_4 := blk_frozen BK318.out 4; have hfz80_5 := blk_frozen BK318.out 5; have hfz80_6 := blk_frozen BK318.out 6; have hfz80_7 := blk_frozen BK318.out 7; have hfz80_8 := blk_frozen BK318.out 8; have hfz80_9 := blk_frozen BK318.out 9; have hfz80_10 := blk_frozen BK318.out 10; have hfz80_11 := blk_frozen BK318.out 11; have hfz80_12 := blk_frozen BK318.out 12) | ((with_reducible refine gate_callee (f := 47) rfl ?_); refine goesL_ (some 41) rfl rfl Tryd.func47 (by kernel_rfl) rfl #[.int .i64 a0_4, .int .i64 1, .int .i64 1000000000000000] rfl (by (try simp only [List.map_toArray, List.map_cons, List.map_nil]); first | done | rfl | (simp only [List.length_drop, List.length_take]; rfl)) ?_; (with_reducible refine (matching_within.calls a0_4 1 1000000000000000 false _ A23.out).mono ?_); rintro e w' ⟨rfl, ⟨nd, rfl⟩⟩; refine ⟨_, rfl, ?_⟩))
          go_ret
          exact ⟨by first | rfl | (simp [errW_none, errW_some] <;> rfl) | (simp [*, errW_none, errW_some] <;> rfl), by repeat (first | (with_reducible first | exact HB.out | apply below_alloc | apply pw_below_drewN | apply below_drew1 | refine below_set ?_ GE318.out) | exact HB.out)⟩
        ·replace c22 := Bool.eq_false_iff.mpr c22
         subst c22
         have H1 : (some 6) = some r := by rw [if_neg (show ¬ (false = true) by decide)] at H; exact H
         clear H
         have H := H1
         clear H1
         obtain rfl := Option.some.inj H
         have hcz81_0 : wc.cell? ⟨gb318, 0, none⟩ = some (.int .i64 a0_0) := (blk_cell BK318.out 0).trans rfl
         have hcz81_1 : wc.cell? ⟨gb318, 1, none⟩ = some (.string a0_1) := (blk_cell BK318.out 1).trans rfl
         have hcz81_2 : wc.cell? ⟨gb318, 2, none⟩ = some (.string a0_2) := (blk_cell BK318.out 2).trans rfl
         have hcz81_3 : wc.cell? ⟨gb318, 3, none⟩ = some (.string a0_3) := (blk_cell BK318.out 3).trans rfl
         have hcz81_4 : wc.cell? ⟨gb318, 4, none⟩ = some (.int .i64 a0_4) := (blk_cell BK318.out 4).trans rfl
         have hcz81_5 : wc.cell? ⟨gb318, 5, none⟩ = some (.int .i64 a0_5) := (blk_cell BK318.out 5).trans rfl
         have hcz81_6 : wc.cell? ⟨gb318, 6, none⟩ = some (.int .i64 a0_6) := (blk_cell BK318.out 6).trans rfl
         have hcz81_7 : wc.cell? ⟨gb318, 7, none⟩ = some (.int .i64 a0_7) := (blk_cell BK318.out 7).trans rfl
         have hcz81_8 : wc.cell? ⟨gb318, 8, none⟩ = some (.int .i64 a0_8) := (blk_cell BK318.out 8).trans rfl
         have hcz81_9 : wc.cell? ⟨gb318, 9, none⟩ = some (.bool a0_9) := (blk_cell BK318.out 9).trans rfl
         have hcz81_10 : wc.cell? ⟨gb318, 10, none⟩ = some (.int .i64 a0_10) := (blk_cell BK318.out 10).trans rfl
         have hcz81_11 : wc.cell? ⟨gb318, 11, none⟩ = some (.string a0_11) := (blk_cell BK318.out 11).trans rfl
         have hcz81_12 : wc.cell? ⟨gb318, 12, none⟩ = some (.string a0_12) := (blk_cell BK318.out 12).trans rfl
         have hfz81_0 := blk_frozen BK318.out 0
         have hfz81_1 := blk_frozen BK318.out 1
         have hfz81_2 := blk_frozen BK318.out 2
         have hfz81_3 := blk_frozen BK318.out 3
         have hfz81_4 := blk_frozen BK318.out 4
         have hfz81_5 := blk_frozen BK318.out 5
         have hfz81_6 := blk_frozen BK318.out 6
         have hfz81_7 := blk_frozen BK318.out 7
         have hfz81_8 := blk_frozen BK318.out 8
         have hfz81_9 := blk_frozen BK318.out 9
         have hfz81_10 := blk_frozen BK318.out 10
         have hfz81_11 := blk_frozen BK318.out 11
         have hfz81_12 := blk_frozen BK318.out 12
         go_wp2_with (first | ((with_reducible refine gate_callee (f := 45) rfl ?_); refine goesL_ (some 36) rfl rfl Tryd.func45 (by kernel_rfl) rfl #[.int .i64 0, .string a0_3] rfl (by (try simp only [List.map_toArray, List.map_cons, List.map_nil]); first | done | rfl | (simp only [List.length_drop, List.length_take]; rfl)) ?_; (with_reducible refine (ident_Valid.calls 0 a0_3 false _ A21.out).mono ?_); rintro e w82 ⟨rfl, hb⟩; refine ⟨_, rfl, ?_⟩; have n0_ := Aside0.mk (blk_below (g := gb318) (o := .cells #[.int .i64 a0_0, .string a0_1, .string a0_2, .string a0_3, .int .i64 a0_4, .int .i64 a0_5, .int .i64 a0_6, .int .i64 a0_7, .int .i64 a0_8, .bool a0_9, .int .i64 a0_10, .string a0_11, .string a0_12] 31 (0, 0)) (by (with_reducible repeat (first | refine blk_drewN ?_ _ | refine blk_drew ?_ | refine blk_alloc ?_ _)); exact BK318.out) hb); have n1_ := Aside0.mk (below_step (by repeat (first | (with_reducible first | exact HB.out | apply below_alloc | apply pw_below_drewN | apply below_drew1 | refine below_set ?_ GE318.out) | exact HB.out)) hb); clear BK318; clear HB; have BK318 := n0_; have HB := n1_; clear n0_ n1_; (try clear hb); (try clear hb2); (try clear hk); (try clear hi)))
         go_ret
         exact ⟨by first | rfl | (simp [errW_none, errW_some] <;> rfl) | (simp [*, errW_none, errW_some] <;> rfl), by repeat (first | (with_reducible first | exact HB.out | apply below_alloc | apply pw_below_drewN | apply below_drew1 | refine below_set ?_ GE318.out) | exact HB.out)⟩
end Go.Proofs.YtpclapnmiacfpaaDoor.Q
end
section
namespace Go.Proofs.YtpclapnmiacfpaaDoor.Q
open Go.RowKit Go.Proofs.YtpclapnmiacfpaaDoorW.PrintWords Go.Proofs.YtpclapnmiacfpaaDoorW.PrintLast Go.Proofs.YtpclapnmiacfpaaDoorW.PrintMore
attribute [local go_sem] max2_int min2_int max_two min_two max_three min_three max_four min_four
set_option linter.unusedVariables false
set_option linter.unusedSimpArgs false
def delivery_legs.f (a0_0 : Int) (a0_1 : ByteArray) (a0_2 : ByteArray) (a0_3 : ByteArray) (a0_4 : Int) (a0_5 : Int) (a0_6 : Int) (a0_7 : Int) (a0_8 : Int) (a0_9 : Bool) (a0_10 : Int) (a0_11 : ByteArray) (a0_12 : ByteArray) : Option ((List (S71))) := (some (([(⟨a0_1, a0_2, a0_3, a0_4⟩ : S71)] : List (S71)) : List (S71))).bind fun y328 => (if a0_0 = 1 then (if y328.length < 2513169434916 then (some (y328 ++ [(⟨a0_2, a0_1, (⟨#[67, 65, 83, 72]⟩ : ByteArray), a0_5⟩ : S71)])) else (none)) else (some y328))
set_option maxHeartbeats 8000000 in
set_option maxRecDepth 100000 in
theorem delivery_legs.calls (a0_0 : Int) (a0_1 : ByteArray) (a0_2 : ByteArray) (a0_3 : ByteArray) (a0_4 : Int) (a0_5 : Int) (a0_6 : Int) (a0_7 : Int) (a0_8 : Int) (a0_9 : Bool) (a0_10 : Int) (a0_11 : ByteArray) (a0_12 : ByteArray) (r : List (S71)) (w : World) (h : delivery_legs.f a0_0 a0_1 a0_2 a0_3 a0_4 a0_5 a0_6 a0_7 a0_8 a0_9 a0_10 a0_11 a0_12 = some r) :
  Calls Tryd.prog 27 #[.agg #[.int .i64 a0_0, .string a0_1, .string a0_2, .string a0_3, .int .i64 a0_4, .int .i64 a0_5, .int .i64 a0_6, .int .i64 a0_7, .int .i64 a0_8, .bool a0_9, .int .i64 a0_10, .string a0_11, .string a0_12]] w fun e w' => ∃ v0_ : Value, e = .returned (v0_) ∧ Kd.R k71 71 w' w.heap.size (fun _ => True) v0_ r ∧ Below w.heap.size w w' := by
 have hu31 := Tryd.underlying31
 have hu71 := Tryd.underlying71
 have HB := Aside0.mk (Below.refl w.heap.size w)
 have H : ((some (([(⟨a0_1, a0_2, a0_3, a0_4⟩ : S71)] : List (S71)) : List (S71))).bind fun y328 => (if a0_0 = 1 then (if y328.length < 2513169434916 then (some (y328 ++ [(⟨a0_2, a0_1, (⟨#[67, 65, 83, 72]⟩ : ByteArray), a0_5⟩ : S71)])) else (none)) else (some y328))) = some r := h
 clear h
 obtain ⟨y328, hy328⟩ : ∃ y_ : List (S71), y_ = (([(⟨a0_1, a0_2, a0_3, a0_4⟩ : S71)] : List (S71))) := ⟨_, rfl⟩
 replace H : (if a0_0 = 1 then (if y328.length < 2513169434916 then (some (y328 ++ [(⟨a0_2, a0_1, (⟨#[67, 65, 83, 72]⟩ : ByteArray), a0_5⟩ : S71)])) else (none)) else (some y328)) = some r := by first | (rw [hy328]; with_reducible exact H) | (have H2_ := (Option.bind_some _ _).symm.trans H; rw [hy328]; with_reducible exact H2_) | (have H2_ := (Option.bind_some _ _).symm.trans H; with_reducible exact H2_) | with_reducible exact H | (rw [hy328]; exact H) | exact H
 have Ny328 := Aside0.mk hy328
 clear hy328
 by_cases c2 : a0_0 = 1
 ·rw [if_pos c2] at H
  have c2b0 : (a0_0 == 1) = true := beq_iff_eq.mpr c2
  have c2b1 : (a0_0 != 1) = false := bne_eq_false_iff_eq.mpr c2
  clear c2
  by_cases c3 : y328.length < 2513169434916
  ·rw [if_pos c3] at H
   have LMc3 := Aside0.mk c3
   clear c3
   obtain ⟨y331, hy331⟩ : ∃ y_ : List (S71), y_ = (y328 ++ [(⟨a0_2, a0_1, (⟨#[67, 65, 83, 72]⟩ : ByteArray), a0_5⟩ : S71)]) := ⟨_, rfl⟩
   replace H : (some y331) = some r := by first | (rw [hy331]; with_reducible exact H) | (have H2_ := (Option.bind_some _ _).symm.trans H; rw [hy331]; with_reducible exact H2_) | (have H2_ := (Option.bind_some _ _).symm.trans H; with_reducible exact H2_) | with_reducible exact H | (rw [hy331]; exact H) | exact H
   have Ny331 := Aside0.mk hy331
   clear hy331
   obtain rfl := Option.some.inj H
   go_enter Tryd.func27, Tryd.ntmps27
   go_wp2_with (first | ((with_reducible refine gate_dst (N := 1) rfl ?_); refine box_event ?hg (N := 1) ?hd (cs := #[.int .i64 a0_0, .string a0_1, .string a0_2, .string a0_3, .int .i64 a0_4, .int .i64 a0_5, .int .i64 a0_6, .int .i64 a0_7, .int .i64 a0_8, .bool a0_9, .int .i64 a0_10, .string a0_11, .string a0_12]) (t := 31) ?hr ?_; (case hd => rfl); (case hg => rfl); (case hr => first | (go_simp; done) | (go_simp; rfl)); intro gb327 hg w4 hbox hb; have n0_ := Aside0.mk (below_step (by repeat (first | (with_reducible first | exact HB.out | apply below_alloc | apply pw_below_drewN | apply below_drew1) | exact HB.out)) hb); have n1_ := Aside0.mk (hbox); have n2_ := Aside0.mk ((by rw [hg]; exact (below_size (by repeat (first | (with_reducible first | exact HB.out | apply below_alloc | apply pw_below_drewN | apply below_drew1) | exact HB.out))) : w.heap.size ≤ gb327)); have n3_ := Aside0.mk ((by rw [hg]; exact (below_size (by repeat (first | (with_reducible first | exact HB.out | apply below_alloc | apply pw_below_drewN | apply below_drew1) | exact HB.out))) : w.heap.size ≤ gb327)); clear HB; have HB := n0_; have BK327 := n1_; have GW327 := n2_; have GE327 := n3_; clear n0_ n1_ n2_ n3_; clear hb hbox hg; have hcz5_0 : w4.cell? ⟨gb327, 0, none⟩ = some (.int .i64 a0_0) := (blk_cell BK327.out 0).trans rfl; have hcz5_1 : w4.cell? ⟨gb327, 1, none⟩ = some (.string a0_1) := (blk_cell BK327.out 1).trans rfl; have hcz5_2 : w4.cell? ⟨gb327, 2, none⟩ = some (.string a0_2) := (blk_cell BK327.out 2).trans rfl; have hcz5_3 : w4.cell? ⟨gb327, 3, none⟩ = some (.string a0_3) := (blk_cell BK327.out 3).trans rfl; have hcz5_4 : w4.cell? ⟨gb327, 4, none⟩ = some (.int .i64 a0_4) := (blk_cell BK327.out 4).trans rfl; have hcz5_5 : w4.cell? ⟨gb327, 5, none⟩ = some (.int .i64 a0_5) := (blk_cell BK327.out 5).trans rfl; have hcz5_6 : w4.cell? ⟨gb327, 6, none⟩ = some (.int .i64 a0_6) := (blk_cell BK327.out 6).trans rfl; have hcz5_7 : w4.cell? ⟨gb327, 7, none⟩ = some (.int .i64 a0_7) := (blk_cell BK327.out 7).trans rfl; have hcz5_8 : w4.cell? ⟨gb327, 8, none⟩ = some (.int .i64 a0_8) := (blk_cell BK327.out 8).trans rfl; have hcz5_9 : w4.cell? ⟨gb327, 9, none⟩ = some (.bool a0_9) := (blk_cell BK327.out 9).trans rfl; have hcz5_10 : w4.cell? ⟨gb327, 10, none⟩ = some (.int .i64 a0_10) := (blk_cell BK327.out 10).trans rfl; have hcz5_11 : w4.cell? ⟨gb327, 11, none⟩ = some (.string a0_11) := (blk_cell BK327.out 11).trans rfl; have hcz5_12 : w4.cell? ⟨gb327, 12, none⟩ = some (.string a0_12) := (blk_cell BK327.out 12).trans rfl; have hfz5_0 := blk_frozen BK327.out 0; have hfz5_1 := blk_frozen BK327.out 1; have hfz5_2 := blk_frozen BK327.out 2; have hfz5_3 := blk_frozen BK327.out 3; have hfz5_4 := blk_frozen BK327.out 4; have hfz5_5 := blk_frozen BK327.out 5; have hfz5_6 := blk_frozen BK327.out 6; have hfz5_7 := blk_frozen BK327.out 7; have hfz5_8 := blk_frozen BK327.out 8; have hfz5_9 := blk_frozen BK327.out 9; have hfz5_10 := blk_frozen BK327.out 10; have hfz5_11 := blk_frozen BK327.out 11; have hfz5_12 := blk_frozen BK327.out 12) | ((with_reducible refine gate_dst (N := 13) rfl ?_); refine Kd.R_lit k71 _ 71 ?hg (N := 13) ?hd (xs := ([(⟨a0_1, a0_2, a0_3, a0_4⟩ : S71)] : List (S71))) (inner := [.string a0_1, .string a0_2, .string a0_3, .int .i64 a0_4]) (ok := fun _ => True) (okp := fun _ => True) ?hr ?hp (fun _ hk => hk) trivial (Below.refl _ _) (Nat.le_refl _) (by simp) ?_; (case hd => rfl); (case hg => rfl); (case hr => first | (go_simp; done) | (go_simp; rfl)); (case hp => exact (Reps.c4 (show Kd.M k71 _ _ _ (⟨a0_1, a0_2, a0_3, a0_4⟩ : S71) [.string a0_1, .string a0_2, .string a0_3, .int .i64 a0_4] from (k71_mkM _ _ _ (⟨a0_1, a0_2, a0_3, a0_4⟩ : S71) )) (Reps.none _ _))); intro v329 w6 ho7 hb hg_ hnew_; clear hg_ hnew_; (first | rw [← Ny328.out] at ho7 | (simp only [Int.reduceToNat] at ho7; rw [← Ny328.out] at ho7)); have n0_ := Aside0.mk (Kd.R_lower ho7 (below_size (by repeat (first | (with_reducible first | exact HB.out | apply below_alloc | apply pw_below_drewN | apply below_drew1 | refine below_set ?_ GE327.out) | exact HB.out)))); have n1_ := Aside0.mk (blk_below (g := gb327) (o := .cells #[.int .i64 a0_0, .string a0_1, .string a0_2, .string a0_3, .int .i64 a0_4, .int .i64 a0_5, .int .i64 a0_6, .int .i64 a0_7, .int .i64 a0_8, .bool a0_9, .int .i64 a0_10, .string a0_11, .string a0_12] 31 (0, 0)) (by (with_reducible repeat (first | refine blk_drewN ?_ _ | refine blk_drew ?_ | refine blk_alloc ?_ _)); exact BK327.out) hb); have n2_ := Aside0.mk (below_step (by repeat (first | (with_reducible first | exact HB.out | apply below_alloc | apply pw_below_drewN | apply below_drew1 | refine below_set ?_ GE327.out) | exact HB.out)) hb); clear BK327; clear HB; have HO330 := n0_; have BK327 := n1_; have HB := n2_; clear n0_ n1_ n2_; clear hb ho7; have hcz8_0 : w6.cell? ⟨gb327, 0, none⟩ = some (.int .i64 a0_0) := (blk_cell BK327.out 0).trans rfl; have hcz8_1 : w6.cell? ⟨gb327, 1, none⟩ = some (.string a0_1) := (blk_cell BK327.out 1).trans rfl; have hcz8_2 : w6.cell? ⟨gb327, 2, none⟩ = some (.string a0_2) := (blk_cell BK327.out 2).trans rfl; have hcz8_3 : w6.cell? ⟨gb327, 3, none⟩ = some (.string a0_3) := (blk_cell BK327.out 3).trans rfl; have hcz8_4 : w6.cell? ⟨gb327, 4, none⟩ = some (.int .i64 a0_4) := (blk_cell BK327.out 4).trans rfl; have hcz8_5 : w6.cell? ⟨gb327, 5, none⟩ = some (.int .i64 a0_5) := (blk_cell BK327.out 5).trans rfl; have hcz8_6 : w6.cell? ⟨gb327, 6, none⟩ = some (.int .i64 a0_6) := (blk_cell BK327.out 6).trans rfl; have hcz8_7 : w6.cell? ⟨gb327, 7, none⟩ = some (.int .i64 a0_7) := (blk_cell BK327.out 7).trans rfl; have hcz8_8 : w6.cell? ⟨gb327, 8, none⟩ = some (.int .i64 a0_8) := (blk_cell BK327.out 8).trans rfl; have hcz8_9 : w6.cell? ⟨gb327, 9, none⟩ = some (.bool a0_9) := (blk_cell BK327.out 9).trans rfl; have hcz8_10 : w6.cell? ⟨gb327, 10, none⟩ = some (.int .i64 a0_10) := (blk_cell BK327.out 10).trans rfl; have hcz8_11 : w6.cell? ⟨gb327, 11, none⟩ = some (.string a0_11) := (blk_cell BK327.out 11).trans rfl; have hcz8_12 : w6.cell? ⟨gb327, 12, none⟩ = some (.string a0_12) := (blk_cell BK327.out 12).trans rfl; have hfz8_0 := blk_frozen BK327.out 0; have hfz8_1 := blk_frozen BK327.out 1; have hfz8_2 := blk_frozen BK327.out 2; have hfz8_3 := blk_frozen BK327.out 3; have hfz8_4 := blk_frozen BK327.out 4; have hfz8_5 := blk_frozen BK327.out 5; have hfz8_6 := blk_frozen BK327.out 6; have hfz8_7 := blk_frozen BK327.out 7; have hfz8_8 := blk_frozen BK327.out 8; have hfz8_9 := blk_frozen BK327.out 9; have hfz8_10 := blk_frozen BK327.out 10; have hfz8_11 := blk_frozen BK327.out 11; have hfz8_12 := blk_frozen BK327.out 12) | ((with_reducible refine gate_builtin (b := .append) (xs := #[.tmp 17, .tmp 25]) rfl ?_); at_builtin; refine Kd.R_append k71 (w0 := w) w.heap.size rfl (.tmp 17) (.tmp 25) 38 71 (.agg #[(.string ⟨#[]⟩), (.string ⟨#[]⟩), (.string ⟨#[]⟩), (.int .i64 0)]) 56 rfl Tryd.underlying38 info71 rfl (by decide) (by omega) v329 y328 (⟨a0_2, a0_1, (⟨#[67, 65, 83, 72]⟩ : ByteArray), a0_5⟩ : S71) [.string a0_2, .string a0_1, .string (⟨#[67, 65, 83, 72]⟩ : ByteArray), .int .i64 a0_5] (fun _ => True) (fun _ => False) rfl rfl ?aP (fun _ hk => hk.elim) ?aF ?aO ?aB ?aS ?aL ?_; (case aP => exact k71_mkM _ _ _ (⟨a0_2, a0_1, (⟨#[67, 65, 83, 72]⟩ : ByteArray), a0_5⟩ : S71)); (case aB => exact (by repeat (first | (with_reducible first | exact HB.out | apply below_alloc | apply pw_below_drewN | apply below_drew1 | refine below_set ?_ GE327.out) | exact HB.out))); (case aF => exact (fun _ _ => trivial)); (case aO => exact (by (with_reducible repeat (first | apply Kd.R_alloc | apply Kd.R_drewN | apply Kd.R_drew)); exact HO330.out)); (case aS => exact (below_size (by repeat (first | (with_reducible first | exact HB.out | apply below_alloc | apply pw_below_drewN | apply below_drew1 | refine below_set ?_ GE327.out) | exact HB.out)))); (case aL => have := LMc3.out; omega); intro v332 w9 ho hb hg hat; rw [← Ny331.out] at ho; have n0_ := Aside0.mk (blk_grown (g := gb327) (o := .cells #[.int .i64 a0_0, .string a0_1, .string a0_2, .string a0_3, .int .i64 a0_4, .int .i64 a0_5, .int .i64 a0_6, .int .i64 a0_7, .int .i64 a0_8, .bool a0_9, .int .i64 a0_10, .string a0_11, .string a0_12] 31 (0, 0)) (by (with_reducible repeat (first | refine blk_drewN ?_ _ | refine blk_drew ?_ | refine blk_alloc ?_ _)); exact BK327.out) hg (Kd.R_ne HO330.out BK327.out (by decide))); have n1_ := Aside0.mk (hb); have n2_ := Aside0.mk (ho); clear BK327; clear HB; clear HO330; have BK327 := n0_; have HB := n1_; have HO333 := n2_; clear n0_ n1_ n2_; clear ho hb hg hat))
   go_ret
   exact ⟨_, by first | rfl | (simp [errW_none, errW_some] <;> rfl) | (simp [*, errW_none, errW_some] <;> rfl), by (with_reducible repeat (first | apply Kd.R_alloc | apply Kd.R_drewN | apply Kd.R_drew)); exact HO333.out, by repeat (first | (with_reducible first | exact HB.out | apply below_alloc | apply pw_below_drewN | apply below_drew1 | refine below_set ?_ GE327.out) | exact HB.out)⟩
  ·rw [if_neg c3] at H
   exact absurd H (by simp)
 ·rw [if_neg c2] at H
  have c2b0 : (a0_0 == 1) = false := beq_eq_false_iff_ne.mpr c2
  have c2b1 : (a0_0 != 1) = true := bne_iff_ne.mpr c2
  obtain rfl := Option.some.inj H
  go_enter Tryd.func27, Tryd.ntmps27
  go_wp2_with (first | ((with_reducible refine gate_dst (N := 1) rfl ?_); refine box_event ?hg (N := 1) ?hd (cs := #[.int .i64 a0_0, .string a0_1, .string a0_2, .string a0_3, .int .i64 a0_4, .int .i64 a0_5, .int .i64 a0_6, .int .i64 a0_7, .int .i64 a0_8, .bool a0_9, .int .i64 a0_10, .string a0_11, .string a0_12]) (t := 31) ?hr ?_; (case hd => rfl); (case hg => rfl); (case hr => first | (go_simp; done) | (go_simp; rfl)); intro gb327 hg w10 hbox hb; have n0_ := Aside0.mk (below_step (by repeat (first | (with_reducible first | exact HB.out | apply below_alloc | apply pw_below_drewN | apply below_drew1) | exact HB.out)) hb); have n1_ := Aside0.mk (hbox); have n2_ := Aside0.mk ((by rw [hg]; exact (below_size (by repeat (first | (with_reducible first | exact HB.out | apply below_alloc | apply pw_below_drewN | apply below_drew1) | exact HB.out))) : w.heap.size ≤ gb327)); have n3_ := Aside0.mk ((by rw [hg]; exact (below_size (by repeat (first | (with_reducible first | exact HB.out | apply below_alloc | apply pw_below_drewN | apply below_drew1) | exact HB.out))) : w.heap.size ≤ gb327)); clear HB; have HB := n0_; have BK327 := n1_; have GW327 := n2_; have GE327 := n3_; clear n0_ n1_ n2_ n3_; clear hb hbox hg; have hcz11_0 : w10.cell? ⟨gb327, 0, none⟩ = some (.int .i64 a0_0) := (blk_cell BK327.out 0).trans rfl; have hcz11_1 : w10.cell? ⟨gb327, 1, none⟩ = some (.string a0_1) := (blk_cell BK327.out 1).trans rfl; have hcz11_2 : w10.cell? ⟨gb327, 2, none⟩ = some (.string a0_2) := (blk_cell BK327.out 2).trans rfl; have hcz11_3 : w10.cell? ⟨gb327, 3, none⟩ = some (.string a0_3) := (blk_cell BK327.out 3).trans rfl; have hcz11_4 : w10.cell? ⟨gb327, 4, none⟩ = some (.int .i64 a0_4) := (blk_cell BK327.out 4).trans rfl; have hcz11_5 : w10.cell? ⟨gb327, 5, none⟩ = some (.int .i64 a0_5) := (blk_cell BK327.out 5).trans rfl; have hcz11_6 : w10.cell? ⟨gb327, 6, none⟩ = some (.int .i64 a0_6) := (blk_cell BK327.out 6).trans rfl; have hcz11_7 : w10.cell? ⟨gb327, 7, none⟩ = some (.int .i64 a0_7) := (blk_cell BK327.out 7).trans rfl; have hcz11_8 : w10.cell? ⟨gb327, 8, none⟩ = some (.int .i64 a0_8) := (blk_cell BK327.out 8).trans rfl; have hcz11_9 : w10.cell? ⟨gb327, 9, none⟩ = some (.bool a0_9) := (blk_cell BK327.out 9).trans rfl; have hcz11_10 : w10.cell? ⟨gb327, 10, none⟩ = some (.int .i64 a0_10) := (blk_cell BK327.out 10).trans rfl; have hcz11_11 : w10.cell? ⟨gb327, 11, none⟩ = some (.string a0_11) := (blk_cell BK327.out 11).trans rfl; have hcz11_12 : w10.cell? ⟨gb327, 12, none⟩ = some (.string a0_12) := (blk_cell BK327.out 12).trans rfl; have hfz11_0 := blk_frozen BK327.out 0; have hfz11_1 := blk_frozen BK327.out 1; have hfz11_2 := blk_frozen BK327.out 2; have hfz11_3 := blk_frozen BK327.out 3; have hfz11_4 := blk_frozen BK327.out 4; have hfz11_5 := blk_frozen BK327.out 5; have hfz11_6 := blk_frozen BK327.out 6; have hfz11_7 := blk_frozen BK327.out 7; have hfz11_8 := blk_frozen BK327.out 8; have hfz11_9 := blk_frozen BK327.out 9; have hfz11_10 := blk_frozen BK327.out 10; have hfz11_11 := blk_frozen BK327.out 11; have hfz11_12 := blk_frozen BK327.out 12) | ((with_reducible refine gate_dst (N := 13) rfl ?_); refine Kd.R_lit k71 _ 71 ?hg (N := 13) ?hd (xs := ([(⟨a0_1, a0_2, a0_3, a0_4⟩ : S71)] : List (S71))) (inner := [.string a0_1, .string a0_2, .string a0_3, .int .i64 a0_4]) (ok := fun _ => True) (okp := fun _ => True) ?hr ?hp (fun _ hk => hk) trivial (Below.refl _ _) (Nat.le_refl _) (by simp) ?_; (case hd => rfl); (case hg => rfl); (case hr => first | (go_simp; done) | (go_simp; rfl)); (case hp => exact (Reps.c4 (show Kd.M k71 _ _ _ (⟨a0_1, a0_2, a0_3, a0_4⟩ : S71) [.string a0_1, .string a0_2, .string a0_3, .int .i64 a0_4] from (k71_mkM _ _ _ (⟨a0_1, a0_2, a0_3, a0_4⟩ : S71) )) (Reps.none _ _))); intro v329 w12 ho13 hb hg_ hnew_; clear hg_ hnew_; (first | rw [← Ny328.out] at ho13 | (simp only [Int.reduceToNat] at ho13; rw [← Ny328.out] at ho13)); have n0_ := Aside0.mk (Kd.R_lower ho13 (below_size (by repeat (first | (with_reducible first | exact HB.out | apply below_alloc | apply pw_below_drewN | apply below_drew1 | refine below_set ?_ GE327.out) | exact HB.out)))); have n1_ := Aside0.mk (blk_below (g := gb327) (o := .cells #[.int .i64 a0_0, .string a0_1, .string a0_2, .string a0_3, .int .i64 a0_4, .int .i64 a0_5, .int .i64 a0_6, .int .i64 a0_7, .int .i64 a0_8, .bool a0_9, .int .i64 a0_10, .string a0_11, .string a0_12] 31 (0, 0)) (by (with_reducible repeat (first | refine blk_drewN ?_ _ | refine blk_drew ?_ | refine blk_alloc ?_ _)); exact BK327.out) hb); have n2_ := Aside0.mk (below_step (by repeat (first | (with_reducible first | exact HB.out | apply below_alloc | apply pw_below_drewN | apply below_drew1 | refine below_set ?_ GE327.out) | exact HB.out)) hb); clear BK327; clear HB; have HO330 := n0_; have BK327 := n1_; have HB := n2_; clear n0_ n1_ n2_; clear hb ho13; have hcz14_0 : w12.cell? ⟨gb327, 0, none⟩ = some (.int .i64 a0_0) := (blk_cell BK327.out 0).trans rfl; have hcz14_1 : w12.cell? ⟨gb327, 1, none⟩ = some (.string a0_1) := (blk_cell BK327.out 1).trans rfl; have hcz14_2 : w12.cell? ⟨gb327, 2, none⟩ = some (.string a0_2) := (blk_cell BK327.out 2).trans rfl; have hcz14_3 : w12.cell? ⟨gb327, 3, none⟩ = some (.string a0_3) := (blk_cell BK327.out 3).trans rfl; have hcz14_4 : w12.cell? ⟨gb327, 4, none⟩ = some (.int .i64 a0_4) := (blk_cell BK327.out 4).trans rfl; have hcz14_5 : w12.cell? ⟨gb327, 5, none⟩ = some (.int .i64 a0_5) := (blk_cell BK327.out 5).trans rfl; have hcz14_6 : w12.cell? ⟨gb327, 6, none⟩ = some (.int .i64 a0_6) := (blk_cell BK327.out 6).trans rfl; have hcz14_7 : w12.cell? ⟨gb327, 7, none⟩ = some (.int .i64 a0_7) := (blk_cell BK327.out 7).trans rfl; have hcz14_8 : w12.cell? ⟨gb327, 8, none⟩ = some (.int .i64 a0_8) := (blk_cell BK327.out 8).trans rfl; have hcz14_9 : w12.cell? ⟨gb327, 9, none⟩ = some (.bool a0_9) := (blk_cell BK327.out 9).trans rfl; have hcz14_10 : w12.cell? ⟨gb327, 10, none⟩ = some (.int .i64 a0_10) := (blk_cell BK327.out 10).trans rfl; have hcz14_11 : w12.cell? ⟨gb327, 11, none⟩ = some (.string a0_11) := (blk_cell BK327.out 11).trans rfl; have hcz14_12 : w12.cell? ⟨gb327, 12, none⟩ = some (.string a0_12) := (blk_cell BK327.out 12).trans rfl; have hfz14_0 := blk_frozen BK327.out 0; have hfz14_1 := blk_frozen BK327.out 1; have hfz14_2 := blk_frozen BK327.out 2; have hfz14_3 := blk_frozen BK327.out 3; have hfz14_4 := blk_frozen BK327.out 4; have hfz14_5 := blk_frozen BK327.out 5; have hfz14_6 := blk_frozen BK327.out 6; have hfz14_7 := blk_frozen BK327.out 7; have hfz14_8 := blk_frozen BK327.out 8; have hfz14_9 := blk_frozen BK327.out 9; have hfz14_10 := blk_frozen BK327.out 10; have hfz14_11 := blk_frozen BK327.out 11; have hfz14_12 := blk_frozen BK327.out 12))
  go_ret
  exact ⟨_, by first | rfl | (simp [errW_none, errW_some] <;> rfl) | (simp [*, errW_none, errW_some] <;> rfl), by (with_reducible repeat (first | apply Kd.R_alloc | apply Kd.R_drewN | apply Kd.R_drew)); exact HO330.out, by repeat (first | (with_reducible first | exact HB.out | apply below_alloc | apply pw_below_drewN | apply below_drew1 | refine below_set ?_ GE327.out) | exact HB.out)⟩
end Go.Proofs.YtpclapnmiacfpaaDoor.Q
end
section
set_option linter.unusedVariables false
namespace Go.Proofs.YtpclapnmiacfpaaDoor.Q
open Go.RowKit Go.Proofs.YtpclapnmiacfpaaDoor.Hand Go.Proofs.YtpclapnmiacfpaaDoorW.PrintWords Go.Proofs.YtpclapnmiacfpaaDoorW.PrintLast Go.Proofs.YtpclapnmiacfpaaDoorW.PrintMore
theorem giver_w (k : Int) (w : World) : Calls Tryd.prog 29 #[.int .i64 k] w fun e w' => ∃ p, e = .returned (.func (.func 48) #[] #[.pointer (some ⟨p, 0, none⟩)]) ∧ w'.cell? ⟨p, 0, none⟩ = some (.int .i64 k) ∧ Below w.heap.size w w' := by
  refine (Hand.giver_c k w).mono ?_
  rintro e w' ⟨rfl, rfl⟩
  exact ⟨_, rfl, cell_blk (heap_at _ _ _ rfl) 0 _ rfl, (Below.refl _ w).alloc (Nat.le_refl _) _⟩
theorem taker_w (k : Int) (w : World) : Calls Tryd.prog 30 #[.int .i64 k] w fun e w' => ∃ p, e = .returned (.func (.func 49) #[] #[.pointer (some ⟨p, 0, none⟩)]) ∧ w'.cell? ⟨p, 0, none⟩ = some (.int .i64 k) ∧ Below w.heap.size w w' := by
  refine (Hand.taker_c k w).mono ?_
  rintro e w' ⟨rfl, rfl⟩
  exact ⟨_, rfl, cell_blk (heap_at _ _ _ rfl) 0 _ rfl, (Below.refl _ w).alloc (Nat.le_refl _) _⟩
def mv (k : Int) (l : S71) : List S68 := [⟨⟨l.f0, k, l.f2⟩, IntKind.i64.wrap (-l.f3)⟩, ⟨⟨l.f1, 0, l.f2⟩, l.f3⟩]
def posts (a1 : Int) : List S71 → List S68
  | [] => []
  | l :: t => mv a1 l ++ t.flatMap (mv 0)
theorem move_w (l : S71) (k1 : Int) (p1 p2 : Nat) (w : World) (h1 : w.cell? ⟨p1, 0, none⟩ = some (.int .i64 k1)) (h2 : w.cell? ⟨p2, 0, none⟩ = some (.int .i64 0)) :
    Calls Tryd.prog 28 #[.agg #[.string l.f0, .string l.f1, .string l.f2, .int .i64 l.f3], .func (.func 48) #[] #[.pointer (some ⟨p1, 0, none⟩)], .func (.func 49) #[] #[.pointer (some ⟨p2, 0, none⟩)]] w
      fun e w' => ∃ g, e = .returned (.slice (some ⟨g, 0, none⟩) 2 2) ∧ Kd.R k68 68 w' w.heap.size (fun _ => True) (.slice (some ⟨g, 0, none⟩) 2 2) (mv k1 l) ∧ Below w.heap.size w w' := by
  refine (Hand.move_c l.f0 l.f1 l.f2 l.f3 k1 0 p1 p2 w h1 h2).mono ?_
  rintro e w' ⟨W1, hB, rfl, rfl⟩
  refine ⟨_, rfl, ?_, hB.alloc hB.size _⟩
  have hr : Reps (Kd.M k68 W1 w.heap.size (fun _ => True)) k68.sz (mv k1 l) [.string l.f0, .int .i64 k1, .string l.f2, .int .i64 (IntKind.i64.wrap (-l.f3)), .string l.f1, .int .i64 0, .string l.f2, .int .i64 l.f3] := Reps.c4 (k68_mkM _ _ _ (⟨⟨l.f0, k1, l.f2⟩, IntKind.i64.wrap (-l.f3)⟩ : S68)) (Reps.c4 (k68_mkM _ _ _ (⟨⟨l.f1, 0, l.f2⟩, l.f3⟩ : S68)) (Reps.none _ _))
  refine ⟨fun _ _ => trivial, _, World.ownsRow_lit (base := w.heap.size) (e := 68) (size := 4) W1 #[.string l.f0, .int .i64 k1, .string l.f2, .int .i64 (IntKind.i64.wrap (-l.f3)), .string l.f1, .int .i64 0, .string l.f2, .int .i64 l.f3] 2 hB.size (by decide) rfl, ?_⟩
  refine hr.imp_ (fun p c hp => Kd.M_mono _ (fun k hk => ⟨trivial, fun he => ?_⟩) (Kd.M_below (Kd.M_bound _ hp) (below_alloc (Below.refl _ _) _)))
  have h3 : k = W1.heap.size := by simpa [Value.ownBlock] using he
  have := hk.2.2.1
  omega
theorem wnat (i : Nat) (h : i < 1000000) : IntKind.i64.wrap ((i : Int) + 1) = ((i + 1 : Nat) : Int) := by
  rw [i64_w]
  unfold wrap64
  omega
theorem mv_len (k : Int) (l : S71) : (mv k l).length = 2 := rfl
theorem mvs_len (ls : List S71) : (ls.flatMap (mv 0)).length = 2 * ls.length := by
  induction ls with
  | nil => rfl
  | cons l t ih => rw [List.flatMap_cons, List.length_append, ih, mv_len, List.length_cons]; omega
theorem posts_len (a1 : Int) (ls : List S71) : (posts a1 ls).length = 2 * ls.length := by
  cases ls with
  | nil => rfl
  | cons l t => rw [posts, List.length_append, mvs_len, mv_len, List.length_cons]; omega
theorem posts_snoc (a1 : Int) (ls : List S71) (i : Nat) (h : i < ls.length) : posts a1 (ls.take (i + 1)) = posts a1 (ls.take i) ++ mv (if i = 0 then a1 else 0) (rd_T71 ls (i : Int)) := by
  cases ls with
  | nil => simp at h
  | cons l t =>
    cases i with
    | zero => simp [posts, rd_T71]
    | succ i =>
      have hi : i < t.length := by simpa using h
      have e : t.take (i + 1) = t.take i ++ [t[i]] := by rw [List.take_add_one, List.getElem?_eq_getElem hi]; rfl
      have er : rd_T71 (l :: t) ((i + 1 : Nat) : Int) = t[i] := by
        simp only [rd_T71, Int.toNat_natCast, List.getD_eq_getElem?_getD]
        rw [List.getElem?_cons_succ, List.getElem?_eq_getElem hi]
        rfl
      rw [List.take_succ_cons, List.take_succ_cons, posts, posts, e, List.flatMap_append, er, if_neg (Nat.succ_ne_zero i), List.append_assoc]
      simp
def rounds : Nat := 20
@[irreducible] def delivery_Postings.f (a0_0 : Int) (a0_1 : ByteArray) (a0_2 : ByteArray) (a0_3 : ByteArray) (a0_4 : Int) (a0_5 : Int) (a0_6 : Int) (a0_7 : Int) (a0_8 : Int) (a0_9 : Bool) (a0_10 : Int) (a0_11 : ByteArray) (a0_12 : ByteArray) (a1 : Int) : Option (List S68 × Int) :=
  (matching_Trade_Check.f rounds a0_0 a0_1 a0_2 a0_3 a0_4 a0_5 a0_6 a0_7 a0_8 a0_9 a0_10 a0_11 a0_12).bind fun c => if c = 0 then
    (if a1 = 0 ∨ a1 = 2 then (delivery_legs.f a0_0 a0_1 a0_2 a0_3 a0_4 a0_5 a0_6 a0_7 a0_8 a0_9 a0_10 a0_11 a0_12).bind fun ls => (if ls.length ≤ 2 then some (posts a1 ls, 0) else none) else some ([], 11)) else some ([], c)
set_option maxHeartbeats 8000000 in
set_option maxRecDepth 100000 in
theorem delivery_Postings.calls (a0_0 : Int) (a0_1 : ByteArray) (a0_2 : ByteArray) (a0_3 : ByteArray) (a0_4 : Int) (a0_5 : Int) (a0_6 : Int) (a0_7 : Int) (a0_8 : Int) (a0_9 : Bool) (a0_10 : Int) (a0_11 : ByteArray) (a0_12 : ByteArray) (a1 : Int) (r1 : List S68) (r2 : Int) (w : World) (h : delivery_Postings.f a0_0 a0_1 a0_2 a0_3 a0_4 a0_5 a0_6 a0_7 a0_8 a0_9 a0_10 a0_11 a0_12 a1 = some (r1, r2)) :
    Calls Tryd.prog 10 #[.agg #[.int .i64 a0_0, .string a0_1, .string a0_2, .string a0_3, .int .i64 a0_4, .int .i64 a0_5, .int .i64 a0_6, .int .i64 a0_7, .int .i64 a0_8, .bool a0_9, .int .i64 a0_10, .string a0_11, .string a0_12], .int .i64 a1] w fun e w' => ∃ v0_ : Value, e = .returned (.tuple #[v0_, .int .i64 r2]) ∧ Kd.R k68 68 w' w.heap.size (fun _ => True) v0_ r1 ∧ Below w.heap.size w w' := by
  unfold delivery_Postings.f at h
  obtain ⟨c, hc, h⟩ := Option.bind_eq_some_iff.mp h
  generalize rounds = k at hc
  by_cases c0 : c = 0
  · rw [if_pos c0] at h
    have c0b : (c != 0) = false := bne_eq_false_iff_eq.mpr c0
    by_cases hk : a1 = 0 ∨ a1 = 2
    · rw [if_pos hk] at h
      obtain ⟨ls, hl, h⟩ := Option.bind_eq_some_iff.mp h
      by_cases hn : ls.length ≤ 2
      · rw [if_pos hn] at h
        obtain ⟨rfl, rfl⟩ := Prod.mk.inj (Option.some.inj h)
        have hb : (a1 != 0) = false ∨ ((a1 != 0) = true ∧ (a1 != 2) = false) := by
          rcases hk with rfl | rfl <;> simp
        clear h hk c0
        rcases hb with hb | ⟨hb, hb2⟩
        all_goals
          go_enter Tryd.func10, Tryd.ntmps10
          go_wp2_with (first | ((with_reducible refine gate_dst (N := 2) rfl ?_); refine box_event ?hg (N := 2) ?hd (cs := #[.int .i64 a0_0, .string a0_1, .string a0_2, .string a0_3, .int .i64 a0_4, .int .i64 a0_5, .int .i64 a0_6, .int .i64 a0_7, .int .i64 a0_8, .bool a0_9, .int .i64 a0_10, .string a0_11, .string a0_12]) (t := 31) ?hr ?_; (case hd => rfl); (case hg => rfl); (case hr => first | (go_simp; done) | (go_simp; rfl)); intro gb hg w1 hbox hb; have BK := Aside0.mk hbox; have GE := Aside0.mk (show w.heap.size ≤ gb by rw [hg]; exact Nat.le_refl _); have HB := Aside0.mk hb; clear hb hbox hg; have hcw1_0 : w1.cell? ⟨gb, 0, none⟩ = some (.int .i64 a0_0) := (blk_cell BK.out 0).trans rfl; have hcw1_1 : w1.cell? ⟨gb, 1, none⟩ = some (.string a0_1) := (blk_cell BK.out 1).trans rfl; have hcw1_2 : w1.cell? ⟨gb, 2, none⟩ = some (.string a0_2) := (blk_cell BK.out 2).trans rfl; have hcw1_3 : w1.cell? ⟨gb, 3, none⟩ = some (.string a0_3) := (blk_cell BK.out 3).trans rfl; have hcw1_4 : w1.cell? ⟨gb, 4, none⟩ = some (.int .i64 a0_4) := (blk_cell BK.out 4).trans rfl; have hcw1_5 : w1.cell? ⟨gb, 5, none⟩ = some (.int .i64 a0_5) := (blk_cell BK.out 5).trans rfl; have hcw1_6 : w1.cell? ⟨gb, 6, none⟩ = some (.int .i64 a0_6) := (blk_cell BK.out 6).trans rfl; have hcw1_7 : w1.cell? ⟨gb, 7, none⟩ = some (.int .i64 a0_7) := (blk_cell BK.out 7).trans rfl; have hcw1_8 : w1.cell? ⟨gb, 8, none⟩ = some (.int .i64 a0_8) := (blk_cell BK.out 8).trans rfl; have hcw1_9 : w1.cell? ⟨gb, 9, none⟩ = some (.bool a0_9) := (blk_cell BK.out 9).trans rfl; have hcw1_10 : w1.cell? ⟨gb, 10, none⟩ = some (.int .i64 a0_10) := (blk_cell BK.out 10).trans rfl; have hcw1_11 : w1.cell? ⟨gb, 11, none⟩ = some (.string a0_11) := (blk_cell BK.out 11).trans rfl; have hcw1_12 : w1.cell? ⟨gb, 12, none⟩ = some (.string a0_12) := (blk_cell BK.out 12).trans rfl) | (go_at_call 26; refine (matching_Trade_Check.calls k a0_0 a0_1 a0_2 a0_3 a0_4 a0_5 a0_6 a0_7 a0_8 a0_9 a0_10 a0_11 a0_12 c _ hc).mono ?_; rintro e w2 ⟨rfl, hb2⟩; have BK2 := Aside0.mk (blk_below BK.out hb2); have HB2 := Aside0.mk (below_step HB.out hb2); clear BK HB; have BK := BK2; have HB := HB2; clear BK2 HB2 hb2; have hcw2_0 : w2.cell? ⟨gb, 0, none⟩ = some (.int .i64 a0_0) := (blk_cell BK.out 0).trans rfl; have hcw2_1 : w2.cell? ⟨gb, 1, none⟩ = some (.string a0_1) := (blk_cell BK.out 1).trans rfl; have hcw2_2 : w2.cell? ⟨gb, 2, none⟩ = some (.string a0_2) := (blk_cell BK.out 2).trans rfl; have hcw2_3 : w2.cell? ⟨gb, 3, none⟩ = some (.string a0_3) := (blk_cell BK.out 3).trans rfl; have hcw2_4 : w2.cell? ⟨gb, 4, none⟩ = some (.int .i64 a0_4) := (blk_cell BK.out 4).trans rfl; have hcw2_5 : w2.cell? ⟨gb, 5, none⟩ = some (.int .i64 a0_5) := (blk_cell BK.out 5).trans rfl; have hcw2_6 : w2.cell? ⟨gb, 6, none⟩ = some (.int .i64 a0_6) := (blk_cell BK.out 6).trans rfl; have hcw2_7 : w2.cell? ⟨gb, 7, none⟩ = some (.int .i64 a0_7) := (blk_cell BK.out 7).trans rfl; have hcw2_8 : w2.cell? ⟨gb, 8, none⟩ = some (.int .i64 a0_8) := (blk_cell BK.out 8).trans rfl; have hcw2_9 : w2.cell? ⟨gb, 9, none⟩ = some (.bool a0_9) := (blk_cell BK.out 9).trans rfl; have hcw2_10 : w2.cell? ⟨gb, 10, none⟩ = some (.int .i64 a0_10) := (blk_cell BK.out 10).trans rfl; have hcw2_11 : w2.cell? ⟨gb, 11, none⟩ = some (.string a0_11) := (blk_cell BK.out 11).trans rfl; have hcw2_12 : w2.cell? ⟨gb, 12, none⟩ = some (.string a0_12) := (blk_cell BK.out 12).trans rfl) | (go_at_call 27; refine (delivery_legs.calls a0_0 a0_1 a0_2 a0_3 a0_4 a0_5 a0_6 a0_7 a0_8 a0_9 a0_10 a0_11 a0_12 ls _ hl).mono ?_; rintro e w3 ⟨v0, rfl, HO, hb3⟩; have HL := Aside0.mk (Kd.R_lower HO (below_size HB.out)); have HB2 := Aside0.mk (below_step HB.out hb3); clear BK HB HO; have HB := HB2; clear HB2 hb3; obtain ⟨Al, cl, rfl⟩ := Kd.R_slice HL.out))
          go_loopg [7, 25] (ls.length + 1) (fun kq v7 v25 w' => ∃ i : Nat, v25 = .int .i64 (i : Int) ∧ Aside0 (kq + i = ls.length + 1 ∧ i ≤ ls.length) ∧ Aside0 (Kd.R k68 68 w' w.heap.size (fun _ => True) v7 (posts a1 (ls.take i))) ∧ Aside0 (Kd.R k71 71 w' w.heap.size (fun _ => True) (.slice Al ls.length cl) ls) ∧ Aside0 (Below w.heap.size w w'))
          case atStart => exact ⟨0, rfl, ⟨rfl, Nat.zero_le _⟩, ⟨Kd.R_nil _ _ _ _ _⟩, HL, HB⟩
          case round =>
            obtain ⟨i, rfl, HK, HO, HL, HB⟩ := hrel
            obtain ⟨hkq, hile⟩ := HK.out
            cases gk with
            | zero => omega
            | succ k1 =>
            by_cases hi : i < ls.length
            · have ci : decide ((i : Int) < (ls.length : Int)) = true := decide_eq_true (by omega)
              have p0 : ((0 : Int) ≤ (i : Int)) = True := eq_true (by omega)
              have p1 : ((i : Int) < (ls.length : Int)) = True := eq_true (by omega)
              obtain ⟨ad, ead, hx0, hx1, hx2, hx3⟩ := at_T71 (Kd.R_reads' HL.out).2.2 (i : Int) (by omega) (by omega)
              cases ead
              simp only [Int.toNat_natCast] at hx0 hx1 hx2 hx3
              obtain ⟨l, hle⟩ : ∃ l, l = rd_T71 ls (i : Int) := ⟨_, rfl⟩
              rw [← hle] at hx0 hx1 hx2 hx3
              have HLE := Aside0.mk hle
              clear hle
              obtain ⟨kd, hkd⟩ : ∃ kd, kd = (if i = 0 then a1 else 0) := ⟨_, rfl⟩
              have hi0 : (((i : Int) == 0) = true ∧ kd = a1) ∨ (((i : Int) == 0) = false ∧ kd = 0) := by
                by_cases e0 : i = 0
                · exact .inl ⟨by simp [e0], by rw [hkd, if_pos e0]⟩
                · exact .inr ⟨by simpa using e0, by rw [hkd, if_neg e0]⟩
              have HKD := Aside0.mk hkd
              clear hkd
              rcases hi0 with ⟨hi0, hkd2⟩ | ⟨hi0, hkd2⟩
              all_goals
                have HKD2 := Aside0.mk hkd2
                clear hkd2
                go_wp2_with (first | ((with_reducible refine gate_dst (N := 9) rfl ?_); refine box_event ?hg (N := 9) ?hd (cs := #[.string ⟨#[]⟩, .string ⟨#[]⟩, .string ⟨#[]⟩, .int .i64 0]) (t := 71) ?hr ?_; (case hd => rfl); (case hg => rfl); (case hr => first | (go_simp; done) | (go_simp; rfl)); intro gl hgl w5 hbox hb5; have BL := Aside0.mk hbox; have GL := Aside0.mk (show w.heap.size ≤ gl by rw [hgl]; exact below_size HB.out); have HB5 := Aside0.mk (below_step HB.out hb5); have HO5 := Aside0.mk (Kd.R_mono (ok' := fun k => k ≠ gl) (Kd.R_below (Kd.R_bound HO.out) hb5) (fun k hk => by have := hk.2.2.1; omega)); have HL5 := Aside0.mk (Kd.R_mono (ok' := fun k => k ≠ gl) (Kd.R_below (Kd.R_bound HL.out) hb5) (fun k hk => by have := hk.2.2.1; omega)); clear HB HO HL hx0 hx1 hx2 hx3; have HB := HB5; have HO := HO5; have HL := HL5; clear hb5 hbox hgl HB5 HO5 HL5; have hfz0 := blk_frozen BL.out 0; have hfz1 := blk_frozen BL.out 1; have hfz2 := blk_frozen BL.out 2; have hfz3 := blk_frozen BL.out 3; have hq0 : w5.cell? ⟨gl, 0, none⟩ = some (.string ⟨#[]⟩) := (blk_cell BL.out 0).trans rfl; have hq1 : w5.cell? ⟨gl, 1, none⟩ = some (.string ⟨#[]⟩) := (blk_cell BL.out 1).trans rfl; have hq2 : w5.cell? ⟨gl, 2, none⟩ = some (.string ⟨#[]⟩) := (blk_cell BL.out 2).trans rfl; have hq3 : w5.cell? ⟨gl, 3, none⟩ = some (.int .i64 0) := (blk_cell BL.out 3).trans rfl))
                have HB6 := Aside0.mk (show Below w.heap.size w ((((w5.setCell ⟨gl, 0, none⟩ (.string l.f0)).setCell ⟨gl, 1, none⟩ (.string l.f1)).setCell ⟨gl, 2, none⟩ (.string l.f2)).setCell ⟨gl, 3, none⟩ (.int .i64 l.f3)) from by repeat (first | exact HB.out | refine below_set ?_ GL.out))
                have HO6 : Aside0 (Kd.R k68 68 ((((w5.setCell ⟨gl, 0, none⟩ (.string l.f0)).setCell ⟨gl, 1, none⟩ (.string l.f1)).setCell ⟨gl, 2, none⟩ (.string l.f2)).setCell ⟨gl, 3, none⟩ (.int .i64 l.f3)) w.heap.size (fun k => k ≠ gl) u7 (posts a1 (ls.take i))) := ⟨Kd.R_far (p := ⟨gl, 3, none⟩) (Kd.R_far (p := ⟨gl, 2, none⟩) (Kd.R_far (p := ⟨gl, 1, none⟩) (Kd.R_far (p := ⟨gl, 0, none⟩) HO.out (fun _ h => h) _) (fun _ h => h) _) (fun _ h => h) _) (fun _ h => h) _⟩
                have HL6 : Aside0 (Kd.R k71 71 ((((w5.setCell ⟨gl, 0, none⟩ (.string l.f0)).setCell ⟨gl, 1, none⟩ (.string l.f1)).setCell ⟨gl, 2, none⟩ (.string l.f2)).setCell ⟨gl, 3, none⟩ (.int .i64 l.f3)) w.heap.size (fun k => k ≠ gl) (.slice (some ad) ls.length cl) ls) := ⟨Kd.R_far (p := ⟨gl, 3, none⟩) (Kd.R_far (p := ⟨gl, 2, none⟩) (Kd.R_far (p := ⟨gl, 1, none⟩) (Kd.R_far (p := ⟨gl, 0, none⟩) HL.out (fun _ h => h) _) (fun _ h => h) _) (fun _ h => h) _) (fun _ h => h) _⟩
                have BL6 : Aside0 (((((w5.setCell ⟨gl, 0, none⟩ (.string l.f0)).setCell ⟨gl, 1, none⟩ (.string l.f1)).setCell ⟨gl, 2, none⟩ (.string l.f2)).setCell ⟨gl, 3, none⟩ (.int .i64 l.f3)).heap[gl]? = some (.cells #[.string l.f0, .string l.f1, .string l.f2, .int .i64 l.f3] 71 (0, 0))) := ⟨blk_put (blk_put (blk_put (blk_put BL.out 0 _ rfl) 1 _ rfl) 2 _ rfl) 3 _ rfl⟩
                clear HB HO HL BL hfz0 hfz1 hfz2 hfz3 hq0 hq1 hq2 hq3
                generalize ((((w5.setCell ⟨gl, 0, none⟩ (.string l.f0)).setCell ⟨gl, 1, none⟩ (.string l.f1)).setCell ⟨gl, 2, none⟩ (.string l.f2)).setCell ⟨gl, 3, none⟩ (.int .i64 l.f3)) = w6 at HB6 HO6 HL6 BL6 ⊢
                have HB := HB6; have HO := HO6; have HL := HL6; have BL := BL6
                clear HB6 HO6 HL6 BL6
                have q0 : w6.cell? ⟨gl, 0, none⟩ = some (.string l.f0) := (blk_cell BL.out 0).trans rfl
                have q1 : w6.cell? ⟨gl, 1, none⟩ = some (.string l.f1) := (blk_cell BL.out 1).trans rfl
                have q2 : w6.cell? ⟨gl, 2, none⟩ = some (.string l.f2) := (blk_cell BL.out 2).trans rfl
                have q3 : w6.cell? ⟨gl, 3, none⟩ = some (.int .i64 l.f3) := (blk_cell BL.out 3).trans rfl
                have hlen : ((posts a1 (ls.take i)).length + 2) * 48 ≤ 140737488355328 := by
                  rw [posts_len, List.length_take]
                  omega
                go_region_held3 (fun w' => w'.cell? ⟨gl, 0, none⟩ = some (.string l.f0) ∧ w'.cell? ⟨gl, 1, none⟩ = some (.string l.f1) ∧ w'.cell? ⟨gl, 2, none⟩ = some (.string l.f2) ∧ w'.cell? ⟨gl, 3, none⟩ = some (.int .i64 l.f3))
                  (first | go_keep | (go_split_ands; refine ⟨?_, ?_, ?_, ?_⟩ <;> (rw [hgD.cell_far _ hltD hneD]; assumption)) | (go_split_ands; refine ⟨?_, ?_, ?_, ?_⟩ <;> (refine pw_cell_below hbC ?_; assumption)) | (go_split_ands; refine ⟨?_, ?_, ?_, ?_⟩ <;> (refine pw_cell_below hbB ?_; assumption)) | (go_split_ands; refine ⟨?_, ?_, ?_, ?_⟩ <;> (refine pw_cell_below hbA ?_; assumption)))
                  (first
                    | (refine Kd.R_append_rows_step k68 (w0 := w) w.heap.size (by rfl) (.tmp 33) (.tmp 38) 27 68 (.agg #[(.string ⟨#[]⟩), (.int .i64 0), (.string ⟨#[]⟩), (.int .i64 0)]) 48 (by rfl) Tryd.underlying27 info68 rfl (by decide) (by omega) u7 (posts a1 (ls.take i)) (mv kd l) _ 2 2 (fun _ => True) (fun _ => False) (by rfl) (by rfl) (Kd.R_mono (Kd.R_below (Kd.R_below (Kd.R_below (Kd.R_drew HO.out) hbA) hbB) hbC) (fun _ _ => trivial)) (Kd.R_reads' HM).2.2 (fun _ _ h => h) (fun _ h => h.elim) (fun _ _ => trivial) (below_step (below_step (below_step (below_drew1 HB.out) hbA) hbB) hbC) (below_size (below_step (below_step (below_step (below_drew1 HB.out) hbA) hbB) hbC)) hlen ?_; intro vD wD hoD hbD hgD hatD; have hltD := blk_lt (blk_below (blk_below (blk_below (blk_drew BL.out) hbA) hbB) hbC); have hneD := Kd.R_ne (Kd.R_below (Kd.R_below (Kd.R_below (Kd.R_drew HO.out) hbA) hbB) hbC) (blk_below (blk_below (blk_below (blk_drew BL.out) hbA) hbB) hbC) (by decide))
                    | (go_at_call 29; go_must (refine (giver_w _ _).mono ?_); rintro e wA ⟨pA, rfl, hpA, hbA⟩)
                    | (go_at_call 30; go_must (refine (taker_w _ _).mono ?_); rintro e wB ⟨pB, rfl, hpB, hbB⟩)
                    | (go_at_call 28; go_must (refine (move_w l kd pA pB _ (by first | (refine pw_cell_below hbB ?_; rw [HKD2.out]; assumption) | assumption) (by assumption)).mono ?_); rintro e wC ⟨gM, rfl, HM, hbC⟩))
                have HL7 := Aside0.mk (Kd.R_over' (Kd.R_below (Kd.R_below (Kd.R_below (Kd.R_drew HL.out) hbA) hbB) hbC) (Kd.R_typed (Kd.R_below (Kd.R_below (Kd.R_below (Kd.R_drew HO.out) hbA) hbB) hbC)) (by decide) hgD)
                have hw := wnat i (by omega)
                have HO7 := Aside0.mk hoD
                have HB7 := Aside0.mk hbD
                rename_i hHx_
                clear hHx_ q0 q1 q2 q3 hbA hbB hbC hgD hatD hoD hbD hltD hneD HO HL HB BL hpA hpB HM
                go_wp2
                go_roundg k1
                case measure => omega
                case rel =>
                  refine ⟨i + 1, ?_, ⟨by omega, by omega⟩, ⟨?_⟩, ⟨Kd.R_mono HL7.out (fun _ _ => trivial)⟩, HB7⟩
                  · first | rfl | rw [hw] | simp
                  · rw [posts_snoc a1 ls i hi, ← HKD.out, ← HLE.out]
                    exact HO7.out
            · have ci : decide ((i : Int) < (ls.length : Int)) = false := decide_eq_false (by omega)
              go_wp2
              have ei : i = ls.length := by omega
              subst ei
              rw [List.take_length] at HO
              exact bodyPost_ret (v := .tuple #[_, .int .i64 0]) (by simp [results, Tryd.results10, go_sem]) rfl ⟨_, rfl, HO.out, HB.out⟩
      · rw [if_neg hn] at h
        exact absurd h (by simp)
    · rw [if_neg hk] at h
      obtain ⟨rfl, rfl⟩ := Prod.mk.inj (Option.some.inj h)
      have h0 : (a1 != 0) = true := bne_iff_ne.mpr (fun e => hk (.inl e))
      have h2 : (a1 != 2) = true := bne_iff_ne.mpr (fun e => hk (.inr e))
      clear h hk c0
      go_enter Tryd.func10, Tryd.ntmps10
      go_wp2_with (first | ((with_reducible refine gate_dst (N := 2) rfl ?_); refine box_event ?hg (N := 2) ?hd (cs := #[.int .i64 a0_0, .string a0_1, .string a0_2, .string a0_3, .int .i64 a0_4, .int .i64 a0_5, .int .i64 a0_6, .int .i64 a0_7, .int .i64 a0_8, .bool a0_9, .int .i64 a0_10, .string a0_11, .string a0_12]) (t := 31) ?hr ?_; (case hd => rfl); (case hg => rfl); (case hr => first | (go_simp; done) | (go_simp; rfl)); intro gb hg w1 hbox hb; have BK := Aside0.mk hbox; have GE := Aside0.mk (show w.heap.size ≤ gb by rw [hg]; exact Nat.le_refl _); have HB := Aside0.mk hb; clear hb hbox hg; have hcw1_0 : w1.cell? ⟨gb, 0, none⟩ = some (.int .i64 a0_0) := (blk_cell BK.out 0).trans rfl; have hcw1_1 : w1.cell? ⟨gb, 1, none⟩ = some (.string a0_1) := (blk_cell BK.out 1).trans rfl; have hcw1_2 : w1.cell? ⟨gb, 2, none⟩ = some (.string a0_2) := (blk_cell BK.out 2).trans rfl; have hcw1_3 : w1.cell? ⟨gb, 3, none⟩ = some (.string a0_3) := (blk_cell BK.out 3).trans rfl; have hcw1_4 : w1.cell? ⟨gb, 4, none⟩ = some (.int .i64 a0_4) := (blk_cell BK.out 4).trans rfl; have hcw1_5 : w1.cell? ⟨gb, 5, none⟩ = some (.int .i64 a0_5) := (blk_cell BK.out 5).trans rfl; have hcw1_6 : w1.cell? ⟨gb, 6, none⟩ = some (.int .i64 a0_6) := (blk_cell BK.out 6).trans rfl; have hcw1_7 : w1.cell? ⟨gb, 7, none⟩ = some (.int .i64 a0_7) := (blk_cell BK.out 7).trans rfl; have hcw1_8 : w1.cell? ⟨gb, 8, none⟩ = some (.int .i64 a0_8) := (blk_cell BK.out 8).trans rfl; have hcw1_9 : w1.cell? ⟨gb, 9, none⟩ = some (.bool a0_9) := (blk_cell BK.out 9).trans rfl; have hcw1_10 : w1.cell? ⟨gb, 10, none⟩ = some (.int .i64 a0_10) := (blk_cell BK.out 10).trans rfl; have hcw1_11 : w1.cell? ⟨gb, 11, none⟩ = some (.string a0_11) := (blk_cell BK.out 11).trans rfl; have hcw1_12 : w1.cell? ⟨gb, 12, none⟩ = some (.string a0_12) := (blk_cell BK.out 12).trans rfl) | (go_at_call 26; refine (matching_Trade_Check.calls k a0_0 a0_1 a0_2 a0_3 a0_4 a0_5 a0_6 a0_7 a0_8 a0_9 a0_10 a0_11 a0_12 c _ hc).mono ?_; rintro e w2 ⟨rfl, hb2⟩; have BK2 := Aside0.mk (blk_below BK.out hb2); have HB2 := Aside0.mk (below_step HB.out hb2); clear BK HB; have BK := BK2; have HB := HB2; clear BK2 HB2 hb2; have hcw2_0 : w2.cell? ⟨gb, 0, none⟩ = some (.int .i64 a0_0) := (blk_cell BK.out 0).trans rfl; have hcw2_1 : w2.cell? ⟨gb, 1, none⟩ = some (.string a0_1) := (blk_cell BK.out 1).trans rfl; have hcw2_2 : w2.cell? ⟨gb, 2, none⟩ = some (.string a0_2) := (blk_cell BK.out 2).trans rfl; have hcw2_3 : w2.cell? ⟨gb, 3, none⟩ = some (.string a0_3) := (blk_cell BK.out 3).trans rfl; have hcw2_4 : w2.cell? ⟨gb, 4, none⟩ = some (.int .i64 a0_4) := (blk_cell BK.out 4).trans rfl; have hcw2_5 : w2.cell? ⟨gb, 5, none⟩ = some (.int .i64 a0_5) := (blk_cell BK.out 5).trans rfl; have hcw2_6 : w2.cell? ⟨gb, 6, none⟩ = some (.int .i64 a0_6) := (blk_cell BK.out 6).trans rfl; have hcw2_7 : w2.cell? ⟨gb, 7, none⟩ = some (.int .i64 a0_7) := (blk_cell BK.out 7).trans rfl; have hcw2_8 : w2.cell? ⟨gb, 8, none⟩ = some (.int .i64 a0_8) := (blk_cell BK.out 8).trans rfl; have hcw2_9 : w2.cell? ⟨gb, 9, none⟩ = some (.bool a0_9) := (blk_cell BK.out 9).trans rfl; have hcw2_10 : w2.cell? ⟨gb, 10, none⟩ = some (.int .i64 a0_10) := (blk_cell BK.out 10).trans rfl; have hcw2_11 : w2.cell? ⟨gb, 11, none⟩ = some (.string a0_11) := (blk_cell BK.out 11).trans rfl; have hcw2_12 : w2.cell? ⟨gb, 12, none⟩ = some (.string a0_12) := (blk_cell BK.out 12).trans rfl))
      exact bodyPost_ret (v := .tuple #[.slice none 0 0, .int .i64 11]) (by simp [results, Tryd.results10, go_sem]) rfl ⟨_, rfl, Kd.R_nil _ _ _ _ _, HB.out⟩
  · rw [if_neg c0] at h
    obtain ⟨rfl, rfl⟩ := Prod.mk.inj (Option.some.inj h)
    have c0b : (c != 0) = true := bne_iff_ne.mpr c0
    clear h c0
    go_enter Tryd.func10, Tryd.ntmps10
    go_wp2_with (first | ((with_reducible refine gate_dst (N := 2) rfl ?_); refine box_event ?hg (N := 2) ?hd (cs := #[.int .i64 a0_0, .string a0_1, .string a0_2, .string a0_3, .int .i64 a0_4, .int .i64 a0_5, .int .i64 a0_6, .int .i64 a0_7, .int .i64 a0_8, .bool a0_9, .int .i64 a0_10, .string a0_11, .string a0_12]) (t := 31) ?hr ?_; (case hd => rfl); (case hg => rfl); (case hr => first | (go_simp; done) | (go_simp; rfl)); intro gb hg w1 hbox hb; have BK := Aside0.mk hbox; have GE := Aside0.mk (show w.heap.size ≤ gb by rw [hg]; exact Nat.le_refl _); have HB := Aside0.mk hb; clear hb hbox hg; have hcw1_0 : w1.cell? ⟨gb, 0, none⟩ = some (.int .i64 a0_0) := (blk_cell BK.out 0).trans rfl; have hcw1_1 : w1.cell? ⟨gb, 1, none⟩ = some (.string a0_1) := (blk_cell BK.out 1).trans rfl; have hcw1_2 : w1.cell? ⟨gb, 2, none⟩ = some (.string a0_2) := (blk_cell BK.out 2).trans rfl; have hcw1_3 : w1.cell? ⟨gb, 3, none⟩ = some (.string a0_3) := (blk_cell BK.out 3).trans rfl; have hcw1_4 : w1.cell? ⟨gb, 4, none⟩ = some (.int .i64 a0_4) := (blk_cell BK.out 4).trans rfl; have hcw1_5 : w1.cell? ⟨gb, 5, none⟩ = some (.int .i64 a0_5) := (blk_cell BK.out 5).trans rfl; have hcw1_6 : w1.cell? ⟨gb, 6, none⟩ = some (.int .i64 a0_6) := (blk_cell BK.out 6).trans rfl; have hcw1_7 : w1.cell? ⟨gb, 7, none⟩ = some (.int .i64 a0_7) := (blk_cell BK.out 7).trans rfl; have hcw1_8 : w1.cell? ⟨gb, 8, none⟩ = some (.int .i64 a0_8) := (blk_cell BK.out 8).trans rfl; have hcw1_9 : w1.cell? ⟨gb, 9, none⟩ = some (.bool a0_9) := (blk_cell BK.out 9).trans rfl; have hcw1_10 : w1.cell? ⟨gb, 10, none⟩ = some (.int .i64 a0_10) := (blk_cell BK.out 10).trans rfl; have hcw1_11 : w1.cell? ⟨gb, 11, none⟩ = some (.string a0_11) := (blk_cell BK.out 11).trans rfl; have hcw1_12 : w1.cell? ⟨gb, 12, none⟩ = some (.string a0_12) := (blk_cell BK.out 12).trans rfl) | (go_at_call 26; refine (matching_Trade_Check.calls k a0_0 a0_1 a0_2 a0_3 a0_4 a0_5 a0_6 a0_7 a0_8 a0_9 a0_10 a0_11 a0_12 c _ hc).mono ?_; rintro e w2 ⟨rfl, hb2⟩; have BK2 := Aside0.mk (blk_below BK.out hb2); have HB2 := Aside0.mk (below_step HB.out hb2); clear BK HB; have BK := BK2; have HB := HB2; clear BK2 HB2 hb2; have hcw2_0 : w2.cell? ⟨gb, 0, none⟩ = some (.int .i64 a0_0) := (blk_cell BK.out 0).trans rfl; have hcw2_1 : w2.cell? ⟨gb, 1, none⟩ = some (.string a0_1) := (blk_cell BK.out 1).trans rfl; have hcw2_2 : w2.cell? ⟨gb, 2, none⟩ = some (.string a0_2) := (blk_cell BK.out 2).trans rfl; have hcw2_3 : w2.cell? ⟨gb, 3, none⟩ = some (.string a0_3) := (blk_cell BK.out 3).trans rfl; have hcw2_4 : w2.cell? ⟨gb, 4, none⟩ = some (.int .i64 a0_4) := (blk_cell BK.out 4).trans rfl; have hcw2_5 : w2.cell? ⟨gb, 5, none⟩ = some (.int .i64 a0_5) := (blk_cell BK.out 5).trans rfl; have hcw2_6 : w2.cell? ⟨gb, 6, none⟩ = some (.int .i64 a0_6) := (blk_cell BK.out 6).trans rfl; have hcw2_7 : w2.cell? ⟨gb, 7, none⟩ = some (.int .i64 a0_7) := (blk_cell BK.out 7).trans rfl; have hcw2_8 : w2.cell? ⟨gb, 8, none⟩ = some (.int .i64 a0_8) := (blk_cell BK.out 8).trans rfl; have hcw2_9 : w2.cell? ⟨gb, 9, none⟩ = some (.bool a0_9) := (blk_cell BK.out 9).trans rfl; have hcw2_10 : w2.cell? ⟨gb, 10, none⟩ = some (.int .i64 a0_10) := (blk_cell BK.out 10).trans rfl; have hcw2_11 : w2.cell? ⟨gb, 11, none⟩ = some (.string a0_11) := (blk_cell BK.out 11).trans rfl; have hcw2_12 : w2.cell? ⟨gb, 12, none⟩ = some (.string a0_12) := (blk_cell BK.out 12).trans rfl))
    exact bodyPost_ret (v := .tuple #[.slice none 0 0, .int .i64 c]) (by simp [results, Tryd.results10, go_sem]) rfl ⟨_, rfl, Kd.R_nil _ _ _ _ _, HB.out⟩
end Go.Proofs.YtpclapnmiacfpaaDoor.Q
end
section
namespace Go.Proofs
open Go.Shelf
def Tryd.keys34_ren : Go.Shelf.Ren := ⟨fun | 7 => 34 | 10 => 52 | n => n, fun | 23 => 79 | 26 => 9 | 3 => 71 | 28 => 86 | 0 => 0 | 27 => 85 | 33 => 93 | 4 => 4 | n => n, fun | n => n⟩
theorem Tryd.keys34 : Go.Proofs.SlLaysZ.n7 Tryd.prog Tryd.keys34_ren := {
  mixed := by kernel_rfl
  f7 := ⟨Tryd.f34.name, by decide, Tryd.func34.trans (congrArg some (by kernel_rfl))⟩
  f10 := ⟨Tryd.f52.name, by decide, Tryd.func52.trans (congrArg some (by kernel_rfl))⟩
  t0 := Tryd.underlying0
  a0 := Tryd.isAgg0
  z0 := Tryd.sizeOf0
  v0 := Tryd.zeroValue0
  t4 := Tryd.underlying4
  a4 := Tryd.isAgg4
  z4 := Tryd.sizeOf4
  v4 := Tryd.zeroValue4
  t23 := Tryd.underlying79
  a23 := Tryd.isAgg79
  z23 := Tryd.sizeOf79
  v23 := Tryd.zeroValue79
  t26 := Tryd.underlying9
  a26 := Tryd.isAgg9
  z26 := Tryd.sizeOf9
  v26 := Tryd.zeroValue9
  t27 := Tryd.underlying85
  a27 := Tryd.isAgg85
  z27 := Tryd.sizeOf85
  v27 := Tryd.zeroValue85
  t28 := Tryd.underlying86
  a28 := Tryd.isAgg86
  z28 := Tryd.sizeOf86
  v28 := Tryd.zeroValue86
  t33 := Tryd.underlying93
  a33 := Tryd.isAgg93
  z33 := Tryd.sizeOf93
  v33 := Tryd.zeroValue93 }
def Tryd.sorted33_ren : Go.Shelf.Ren := ⟨fun | 6 => 33 | 8 => 50 | 9 => 51 | 11 => 62 | 13 => 64 | 12 => 63 | 23 => 81 | 24 => 82 | 14 => 72 | 15 => 73 | 16 => 74 | 17 => 75 | 18 => 76 | 19 => 77 | 20 => 78 | 21 => 79 | 22 => 80 | 25 => 89 | 26 => 90 | 27 => 91 | 28 => 92 | 29 => 93 | 30 => 94 | 31 => 97 | n => n, fun | 26 => 9 | 28 => 86 | 24 => 83 | 0 => 0 | 3 => 3 | 37 => 111 | 48 => 135 | 50 => 137 | 4 => 4 | 40 => 127 | 39 => 126 | 45 => 132 | 5 => 5 | 9 => 9 | 51 => 141 | 55 => 145 | 57 => 147 | 58 => 91 | 33 => 93 | n => n, fun | n => n⟩
theorem Tryd.sorted33 : Go.Proofs.SlLaysZ.n6 Tryd.prog Tryd.sorted33_ren := {
  mixed := by kernel_rfl
  f6 := ⟨Tryd.f33.name, by decide, Tryd.func33.trans (congrArg some (by kernel_rfl))⟩
  f8 := ⟨Tryd.f50.name, by decide, Tryd.func50.trans (congrArg some (by kernel_rfl))⟩
  f11 := ⟨Tryd.f62.name, by decide, Tryd.func62.trans (congrArg some (by kernel_rfl))⟩
  t0 := Tryd.underlying0
  a0 := Tryd.isAgg0
  z0 := Tryd.sizeOf0
  v0 := Tryd.zeroValue0
  t24 := Tryd.underlying83
  a24 := Tryd.isAgg83
  z24 := Tryd.sizeOf83
  v24 := Tryd.zeroValue83
  t26 := Tryd.underlying9
  a26 := Tryd.isAgg9
  z26 := Tryd.sizeOf9
  v26 := Tryd.zeroValue9
  t28 := Tryd.underlying86
  a28 := Tryd.isAgg86
  z28 := Tryd.sizeOf86
  v28 := Tryd.zeroValue86
  i26 := by kernel_rfl }
def Tryd.sort51_ren : Go.Shelf.Ren := ⟨fun | 6 => 51 | 8 => 64 | 9 => 63 | 19 => 81 | 20 => 82 | 21 => 72 | 22 => 73 | 23 => 74 | 24 => 75 | 25 => 76 | 26 => 77 | 27 => 78 | 28 => 79 | 29 => 80 | 36 => 89 | 31 => 90 | 32 => 91 | 37 => 92 | 38 => 93 | 39 => 94 | 41 => 97 | n => n, fun | 27 => 83 | 29 => 9 | 3 => 3 | 32 => 111 | 26 => 83 | 0 => 0 | 44 => 135 | 46 => 137 | 4 => 4 | 36 => 127 | 35 => 126 | 41 => 132 | 5 => 5 | 9 => 9 | 53 => 141 | 57 => 145 | 63 => 147 | 64 => 91 | n => n, fun | n => n⟩
theorem Tryd.sort51 : Go.Proofs.SlLaysM.n6 Tryd.prog Tryd.sort51_ren := {
  mixed := by kernel_rfl
  f6 := ⟨Tryd.f51.name, by decide, Tryd.func51.trans (congrArg some (by kernel_rfl))⟩
  f8 := Tryd.func64.trans (congrArg some (by kernel_rfl))
  f9 := ⟨Tryd.f63.name, by decide, Tryd.func63.trans (congrArg some (by kernel_rfl))⟩
  f19 := Tryd.func81.trans (congrArg some (by kernel_rfl))
  f20 := Tryd.func82.trans (congrArg some (by kernel_rfl))
  f21 := ⟨Tryd.f72.name, by decide, Tryd.func72.trans (congrArg some (by kernel_rfl))⟩
  f22 := ⟨Tryd.f73.name, by decide, Tryd.func73.trans (congrArg some (by kernel_rfl))⟩
  f23 := ⟨Tryd.f74.name, by decide, Tryd.func74.trans (congrArg some (by kernel_rfl))⟩
  f24 := ⟨Tryd.f75.name, by decide, Tryd.func75.trans (congrArg some (by kernel_rfl))⟩
  f25 := ⟨Tryd.f76.name, by decide, Tryd.func76.trans (congrArg some (by kernel_rfl))⟩
  f26 := ⟨Tryd.f77.name, by decide, Tryd.func77.trans (congrArg some (by kernel_rfl))⟩
  f27 := ⟨Tryd.f78.name, by decide, Tryd.func78.trans (congrArg some (by kernel_rfl))⟩
  f28 := ⟨Tryd.f79.name, by decide, Tryd.func79.trans (congrArg some (by kernel_rfl))⟩
  f29 := ⟨Tryd.f80.name, by decide, Tryd.func80.trans (congrArg some (by kernel_rfl))⟩
  f31 := Tryd.func90.trans (congrArg some (by kernel_rfl))
  f32 := Tryd.func91.trans (congrArg some (by kernel_rfl))
  f36 := ⟨Tryd.f89.name, by decide, Tryd.func89.trans (congrArg some (by kernel_rfl))⟩
  f37 := ⟨Tryd.f92.name, by decide, Tryd.func92.trans (congrArg some (by kernel_rfl))⟩
  f38 := ⟨Tryd.f93.name, by decide, Tryd.func93.trans (congrArg some (by kernel_rfl))⟩
  f39 := ⟨Tryd.f94.name, by decide, Tryd.func94.trans (congrArg some (by kernel_rfl))⟩
  f41 := ⟨Tryd.f97.name, by decide, Tryd.func97.trans (congrArg some (by kernel_rfl))⟩
  t0 := Tryd.underlying0
  a0 := Tryd.isAgg0
  z0 := Tryd.sizeOf0
  v0 := Tryd.zeroValue0
  t3 := Tryd.underlying3
  a3 := Tryd.isAgg3
  z3 := Tryd.sizeOf3
  v3 := Tryd.zeroValue3
  t4 := Tryd.underlying4
  a4 := Tryd.isAgg4
  z4 := Tryd.sizeOf4
  v4 := Tryd.zeroValue4
  t5 := Tryd.underlying5
  a5 := Tryd.isAgg5
  z5 := Tryd.sizeOf5
  v5 := Tryd.zeroValue5
  t9 := Tryd.underlying9
  a9 := Tryd.isAgg9
  z9 := Tryd.sizeOf9
  v9 := Tryd.zeroValue9
  t26 := Tryd.underlying83
  a26 := Tryd.isAgg83
  z26 := Tryd.sizeOf83
  v26 := Tryd.zeroValue83
  t27 := Tryd.underlying83
  a27 := Tryd.isAgg83
  z27 := Tryd.sizeOf83
  v27 := Tryd.zeroValue83
  t29 := Tryd.underlying9
  a29 := Tryd.isAgg9
  z29 := Tryd.sizeOf9
  v29 := Tryd.zeroValue9
  t32 := Tryd.underlying111
  a32 := Tryd.isAgg111
  z32 := Tryd.sizeOf111
  v32 := Tryd.zeroValue111
  t35 := Tryd.underlying126
  a35 := Tryd.isAgg126
  z35 := Tryd.sizeOf126
  v35 := Tryd.zeroValue126
  t36 := Tryd.underlying127
  a36 := Tryd.isAgg127
  z36 := Tryd.sizeOf127
  v36 := Tryd.zeroValue127
  t41 := Tryd.underlying132
  a41 := Tryd.isAgg132
  z41 := Tryd.sizeOf132
  v41 := Tryd.zeroValue132
  t44 := Tryd.underlying135
  a44 := Tryd.isAgg135
  z44 := Tryd.sizeOf135
  v44 := Tryd.zeroValue135
  t46 := Tryd.underlying137
  a46 := Tryd.isAgg137
  z46 := Tryd.sizeOf137
  v46 := Tryd.zeroValue137
  t53 := Tryd.underlying141
  a53 := Tryd.isAgg141
  z53 := Tryd.sizeOf141
  v53 := Tryd.zeroValue141
  t57 := Tryd.underlying145
  a57 := Tryd.isAgg145
  z57 := Tryd.sizeOf145
  v57 := Tryd.zeroValue145
  t63 := Tryd.underlying147
  a63 := Tryd.isAgg147
  z63 := Tryd.sizeOf147
  v63 := Tryd.zeroValue147
  t64 := Tryd.underlying91
  a64 := Tryd.isAgg91
  z64 := Tryd.sizeOf91
  v64 := Tryd.zeroValue91 }
open Go.RowKit Go.Maps Go.Sort in
theorem Tryd.sorts33 (m : Nat) : AnyZ.SortsIn Tryd.prog Tryd.sorted33_ren Fence.wide m :=
  ⟨fun blk off cap ss W hH hblk hsz => callsIn_wide.2 (AnyM.slices_Sort_string Tryd.sort51 blk off cap ss W hH hblk hsz),
   fun p cap W => callsIn_wide.2 (AnyM.slices_Sort_string_none Tryd.sort51 p cap W)⟩
open Go.RowKit Go.Maps Go.Sort in
theorem Tryd.maps_Keys_34 (mb : Option Nat) (W : World) : CallsIn Fence.wide 5 Tryd.prog 34 #[.map mb] W fun e w' => e = .returned (.func (.func 52) #[] #[.pointer (some ⟨W.heap.size, 0, none⟩)]) ∧ w' = W.alloc (.cells #[.map mb] 79) :=
  AnyZ.keys_in Tryd.keys34 Fence.wide 5 trivial rfl mb W
open Go.RowKit Go.Maps Go.Sort in
theorem Tryd.slices_Sorted_keys_33_34 {H : Type} (b nn : Nat) (D0 : DataW H) (R : Value → Option (DataW H × List MemPlace)) (w : World) (hown : w.ownsMap Tryd.prog 9 R b nn D0) (hmax : Maps.size D0 ≤ maxLen) (hbytes : Maps.size D0 * 16 ≤ 140737488355328) :
    CallsIn Fence.wide 5 Tryd.prog 33 #[.func (.func 52) #[] #[.pointer (some ⟨w.heap.size, 0, none⟩)]] (w.alloc (.cells #[.map (some b)] 79)) fun e w' => ∃ (v : Value) (ss : List (List UInt8)), e = .returned v ∧ ss.Perm (strKeys D0) ∧
      w'.ownsRow (w.alloc (.cells #[.map (some b)] 79)).heap.size 9 1 v ss.length ((ss.mergeSort (fun x y => decide (x ≤ y))).map encStr) ∧ (v = .slice none 0 0 ↔ ss = []) ∧ Below (w.alloc (.cells #[.map (some b)] 79)).heap.size (w.alloc (.cells #[.map (some b)] 79)) w' := by
  have hbl := hown.lt
  have hseq : SeqGives Fence.wide 2 Tryd.prog 52 #[.pointer (some ⟨w.heap.size, 0, none⟩)] encStr (fun ss => ss.Perm (strKeys D0)) (Maps.size D0) (w.alloc (.cells #[.map (some b)] 79)) :=
    AnyZ.keys_gives (ρ := Tryd.keys34_ren) { Tryd.keys34 with } Fence.wide _ trivial rfl (by omega) w.heap.size b nn D0 _ (by simp) (by simp) (by
      obtain ⟨es, clock, hb, Ft, hs, hD⟩ := hown
      exact ⟨es, clock, (Below.heap_alloc _ _ b hbl).trans hb, Ft, hs, hD⟩)
  exact AnyZ.sorted_in Tryd.sorted33 Fence.wide 5 trivial trivial trivial trivial rfl (by omega) (Tryd.sorts33 _) (enters_of Tryd.func51 (by kernel_rfl) rfl) 52 #[.pointer (some ⟨w.heap.size, 0, none⟩)] trivial (enters_of Tryd.func52 (by kernel_rfl) rfl) _ _ hmax hbytes _ hseq
end Go.Proofs
end
