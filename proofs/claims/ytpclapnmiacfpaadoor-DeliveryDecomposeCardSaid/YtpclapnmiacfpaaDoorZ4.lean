/- Lemmas for the card of DeliveryDecompose: contracts of the functions that the law reaches. Conditions: each lemma's own. Laid together out of this session's texts. -/
import Derived.Test.YtpclapnmiacfpaaDoorZ3
set_option linter.unusedVariables false
set_option linter.unusedSimpArgs false
section
namespace Go.Proofs.YtpclapnmiacfpaaDoor.Q
open Go.RowKit Go.Proofs.YtpclapnmiacfpaaDoorW.PrintWords Go.Proofs.YtpclapnmiacfpaaDoorW.PrintLast Go.Proofs.YtpclapnmiacfpaaDoorW.PrintMore
attribute [local go_sem] max2_int min2_int max_two min_two max_three min_three max_four min_four
set_option linter.unusedVariables false
set_option linter.unusedSimpArgs false
def giroref05_Luhn.l0 : Nat → List Int → Int → Int → Option (Int)
 | 0, _, _, _ => none
 | k + 1, x3, x4, x5 => if x5 < (x3.length : Int) then (if 0 ≤ (wrap64 ((wrap64 ((x3.length : Int) - 1)) - x5)) then (if (wrap64 ((wrap64 ((x3.length : Int) - 1)) - x5)) < (x3.length : Int) then (if (Int.tmod x5 2) = 0 then (giroref05_Luhn.l0 k x3 (wrap64 ((wrap64 (x4 + (wrap64 (Int.tdiv (wrap64 (2 * (rd x3 (wrap64 ((wrap64 ((x3.length : Int) - 1)) - x5))))) 10)))) + (Int.tmod (wrap64 (2 * (rd x3 (wrap64 ((wrap64 ((x3.length : Int) - 1)) - x5))))) 10))) (wrap64 (x5 + 1))) else (giroref05_Luhn.l0 k x3 (wrap64 ((wrap64 (x4 + (wrap64 (Int.tdiv (rd x3 (wrap64 ((wrap64 ((x3.length : Int) - 1)) - x5))) 10)))) + (Int.tmod (rd x3 (wrap64 ((wrap64 ((x3.length : Int) - 1)) - x5))) 10))) (wrap64 (x5 + 1)))) else (none)) else (none)) else (some (Int.tmod (wrap64 (10 - (Int.tmod x4 10))) 10))
def giroref05_Luhn.f (k : Nat) (a0 : ByteArray) : Option (Int) := (giroref05_Expand.f k a0).bind fun t153 => (giroref05_Luhn.l0 k t153 0 0)
theorem giroref05_Luhn.mono_l : ∀ k, (∀ y0 y1 y2, LeO (giroref05_Luhn.l0 k y0 y1 y2) (giroref05_Luhn.l0 (k + 1) y0 y1 y2))
 | 0 => fun _ _ _ r h => by simp [giroref05_Luhn.l0] at h
 | k + 1 => by
  have ih0 := giroref05_Luhn.mono_l k
  ·intro y0 y1 y2
   unfold giroref05_Luhn.l0
   repeat' first
   | (with_reducible exact ih0 _ _ _)
   | (with_reducible exact giroref05_Expand.mono _ _)
   | (with_reducible exact LeO.refl _)
   | (with_reducible exact LeO.none _)
   | (with_reducible refine LeO.ite ?_ ?_)
   | (with_reducible refine LeO.bind ?_ (fun _ => ?_))
   | exact ih0 _ _ _
   | exact giroref05_Expand.mono _ _
   | exact LeO.none _
   | refine LeO.ite ?_ ?_
   | refine LeO.bind ?_ (fun _ => ?_)
theorem giroref05_Luhn.mono : ∀ a0 k, LeO (giroref05_Luhn.f k a0) (giroref05_Luhn.f (k + 1) a0) := by
 intro a0 k
 have ih0 := giroref05_Luhn.mono_l k
 unfold giroref05_Luhn.f
 repeat' first
   | (with_reducible exact ih0 _ _ _)
   | (with_reducible exact giroref05_Expand.mono _ _)
   | (with_reducible exact LeO.refl _)
   | (with_reducible exact LeO.none _)
   | (with_reducible refine LeO.ite ?_ ?_)
   | (with_reducible refine LeO.bind ?_ (fun _ => ?_))
   | exact ih0 _ _ _
   | exact giroref05_Expand.mono _ _
   | exact LeO.none _
   | refine LeO.ite ?_ ?_
   | refine LeO.bind ?_ (fun _ => ?_)
set_option maxHeartbeats 8000000 in
set_option maxRecDepth 100000 in
theorem giroref05_Luhn.calls (k : Nat) (a0 : ByteArray) (r : Int) (w : World) (h : giroref05_Luhn.f k a0 = some r) :
  Calls Tryd.prog 58 #[.string a0] w fun e w' => e = .returned (.int .i64 r) ∧ Below w.heap.size w w' := by
 have HB := Aside0.mk (Below.refl w.heap.size w)
 have H : ((giroref05_Expand.f k a0).bind fun t153 => (giroref05_Luhn.l0 k t153 0 0)) = some r := h
 clear h
 replace H := Option.bind_eq_some_iff.mp H
 obtain ⟨t153, A20, H⟩ := H
 replace H : (giroref05_Luhn.l0 k t153 0 0) = some r := H
 have A2 := Aside0.mk A20
 clear A20
 have H' := Aside0.mk H
 clear H
 go_enter Tryd.func58, Tryd.ntmps58
 go_wp2_with (first | ((with_reducible refine gate_callee (f := 68) rfl ?_); refine goesL_ (some 8) rfl rfl Tryd.func68 (by kernel_rfl) rfl #[.string a0] rfl (by (try simp only [List.map_toArray, List.map_cons, List.map_nil]); first | done | rfl | (simp only [List.length_drop, List.length_take]; rfl)) ?_; (with_reducible refine (giroref05_Expand.calls k a0 t153 _ A2.out).mono ?_); rintro e w3 ⟨v154, rfl, ho0, hb⟩; refine ⟨_, rfl, ?_⟩; have n0_ := Aside0.mk (Kd.R_lower ho0 (below_size (by repeat (first | (with_reducible first | exact HB.out | apply below_alloc | apply pw_below_drewN | apply below_drew1) | exact HB.out)))); have n1_ := Aside0.mk (below_step (by repeat (first | (with_reducible first | exact HB.out | apply below_alloc | apply pw_below_drewN | apply below_drew1) | exact HB.out)) hb); clear HB; have HO155 := n0_; have HB := n1_; clear n0_ n1_; (try clear hb); (try clear hb2); (try clear hk); (try clear hi); (try clear ho0)))
 go_loopg [4, 5] k (fun kq v4 v5 w' => ∃ (x4_1 : Int) (x5_1 : Int), v4 = .int .i64 x4_1 ∧ v5 = .int .i64 x5_1 ∧ Aside0 (giroref05_Luhn.l0 kq t153 x4_1 x5_1 = some r) ∧ Aside0 (kq ≤ k) ∧ Aside0 (Kd.R (Kd.int .i64) 3 w' w.heap.size (fun _ => True) v154 t153) ∧ Aside0 (Below w.heap.size w w'))
 case atStart => exact ⟨(0), (0), (by first | rfl | (simp; done) | (simp [*]; done)), (by first | rfl | (simp; done) | (simp [*]; done)), H', ⟨Nat.le_refl _⟩, ⟨by (with_reducible repeat (first | apply Kd.R_alloc | apply Kd.R_drewN | apply Kd.R_drew)); exact HO155.out⟩, ⟨by repeat (first | (with_reducible first | exact HB.out | apply below_alloc | apply pw_below_drewN | apply below_drew1) | exact HB.out)⟩⟩
 case round =>
  clear H'
  try clear p2
  obtain ⟨x4_1, x5_1, rfl, rfl, HA, HK1, HO_3, HB⟩ := hrel
  cases gk with
  | zero => exact absurd HA.out (by simp [giroref05_Luhn.l0])
  | succ k1 =>
   have H := HA.out
   clear HA
   simp only [giroref05_Luhn.l0] at H
   by_cases c4 : x5_1 < (t153.length : Int)
   ·rw [if_pos c4] at H
    have c4b0 : decide (x5_1 < (t153.length : Int)) = true := decide_eq_true c4
    clear c4
    obtain ⟨ji5, hji5⟩ : ∃ j_ : Int, (wrap64 ((wrap64 ((t153.length : Int) - 1)) - x5_1)) = j_ := ⟨_, rfl⟩
    replace H : (if 0 ≤ (ji5) then (if (ji5) < (t153.length : Int) then (if (Int.tmod x5_1 2) = 0 then (giroref05_Luhn.l0 k1 t153 (wrap64 ((wrap64 (x4_1 + (wrap64 (Int.tdiv (wrap64 (2 * (rd t153 (ji5)))) 10)))) + (Int.tmod (wrap64 (2 * (rd t153 (ji5)))) 10))) (wrap64 (x5_1 + 1))) else (giroref05_Luhn.l0 k1 t153 (wrap64 ((wrap64 (x4_1 + (wrap64 (Int.tdiv (rd t153 (ji5)) 10)))) + (Int.tmod (rd t153 (ji5)) 10))) (wrap64 (x5_1 + 1)))) else (none)) else (none)) = some r := by first | (rw [hji5] at H; exact H) | (simp only [hji5] at H ⊢; exact H)
    have hji5w : (IntKind.i64.wrap ((wrap64 ((t153.length : Int) - 1)) - x5_1)) = ji5 := (i64_w _).trans hji5
    by_cases c6 : 0 ≤ (ji5)
    ·rw [if_pos c6] at H
     have c6b0 : decide (0 ≤ (ji5)) = true := decide_eq_true c6
     clear c6
     by_cases c7 : (ji5) < (t153.length : Int)
     ·rw [if_pos c7] at H
      have c7b0 : decide ((ji5) < (t153.length : Int)) = true := decide_eq_true c7
      clear c7
      by_cases c8 : (Int.tmod x5_1 2) = 0
      ·rw [if_pos c8] at H
       have c8b0 : ((Int.tmod x5_1 2) == 0) = true := beq_iff_eq.mpr c8
       have c8b1 : ((Int.tmod x5_1 2) != 0) = false := bne_eq_false_iff_eq.mpr c8
       clear c8
       have H' := Aside0.mk H
       clear H
       obtain ⟨Ao9, co9, eo9⟩ := Kd.R_slice HO_3.out
       subst eo9
       have p156 : 0 ≤ ((ji5) : Int) := of_decide_eq_true (by first | (with_reducible assumption) | assumption)
       have q156 : (ji5) < (t153.length : Int) := of_decide_eq_true (by first | (with_reducible assumption) | assumption)
       obtain ⟨ad156, e156, hx156_0⟩ := Kd.at_int (Kd.R_reads' HO_3.out).2.2 (ji5) p156 q156
       cases e156
       replace p156 := eq_true p156
       replace q156 := eq_true q156
       go_wp2
       go_roundg k1
       case measure => have := HK1.out; omega
       case rel => exact ⟨(wrap64 ((wrap64 (x4_1 + (wrap64 (Int.tdiv (wrap64 (2 * (rd t153 (ji5)))) 10)))) + (Int.tmod (wrap64 (2 * (rd t153 (ji5)))) 10))), (wrap64 (x5_1 + 1)), (by first | rfl | (simp; done) | (simp only [← hji5] <;> (first | rfl | simp)) | (simp [*]; done)), (by first | rfl | (simp; done) | (simp [*]; done)), H', ⟨by have := HK1.out; omega⟩, ⟨by (with_reducible repeat (first | apply Kd.R_alloc | apply Kd.R_drewN | apply Kd.R_drew)); exact HO_3.out⟩, ⟨by repeat (first | (with_reducible first | exact HB.out | apply below_alloc | apply pw_below_drewN | apply below_drew1) | exact HB.out)⟩⟩
      ·rw [if_neg c8] at H
       have c8b0 : ((Int.tmod x5_1 2) == 0) = false := beq_eq_false_iff_ne.mpr c8
       have c8b1 : ((Int.tmod x5_1 2) != 0) = true := bne_iff_ne.mpr c8
       have H' := Aside0.mk H
       clear H
       obtain ⟨Ao10, co10, eo10⟩ := Kd.R_slice HO_3.out
       subst eo10
       have p156 : 0 ≤ ((ji5) : Int) := of_decide_eq_true (by first | (with_reducible assumption) | assumption)
       have q156 : (ji5) < (t153.length : Int) := of_decide_eq_true (by first | (with_reducible assumption) | assumption)
       obtain ⟨ad156, e156, hx156_0⟩ := Kd.at_int (Kd.R_reads' HO_3.out).2.2 (ji5) p156 q156
       cases e156
       replace p156 := eq_true p156
       replace q156 := eq_true q156
       go_wp2
       go_roundg k1
       case measure => have := HK1.out; omega
       case rel => exact ⟨(wrap64 ((wrap64 (x4_1 + (wrap64 (Int.tdiv (rd t153 (ji5)) 10)))) + (Int.tmod (rd t153 (ji5)) 10))), (wrap64 (x5_1 + 1)), (by first | rfl | (simp; done) | (simp only [← hji5] <;> (first | rfl | simp)) | (simp [*]; done)), (by first | rfl | (simp; done) | (simp [*]; done)), H', ⟨by have := HK1.out; omega⟩, ⟨by (with_reducible repeat (first | apply Kd.R_alloc | apply Kd.R_drewN | apply Kd.R_drew)); exact HO_3.out⟩, ⟨by repeat (first | (with_reducible first | exact HB.out | apply below_alloc | apply pw_below_drewN | apply below_drew1) | exact HB.out)⟩⟩
     ·rw [if_neg c7] at H
      exact absurd H (by simp)
    ·rw [if_neg c6] at H
     exact absurd H (by simp)
   ·rw [if_neg c4] at H
    have c4b0 : decide (x5_1 < (t153.length : Int)) = false := decide_eq_false c4
    clear c4
    obtain rfl := Option.some.inj H
    obtain ⟨Ao11, co11, eo11⟩ := Kd.R_slice HO_3.out
    subst eo11
    go_wp2
    go_ret
    exact ⟨by first | rfl | (simp [errW_none, errW_some] <;> rfl) | (simp [*, errW_none, errW_some] <;> rfl), by repeat (first | (with_reducible first | exact HB.out | apply below_alloc | apply pw_below_drewN | apply below_drew1) | exact HB.out)⟩
end Go.Proofs.YtpclapnmiacfpaaDoor.Q
end
section
namespace Go.Proofs.YtpclapnmiacfpaaDoor.Q
open Go.RowKit Go.Proofs.YtpclapnmiacfpaaDoorW.PrintWords Go.Proofs.YtpclapnmiacfpaaDoorW.PrintLast Go.Proofs.YtpclapnmiacfpaaDoorW.PrintMore
attribute [local go_sem] max2_int min2_int max_two min_two max_three min_three max_four min_four
set_option linter.unusedVariables false
set_option linter.unusedSimpArgs false
def giroref05_pair.f (a0 : Int) : Option (ByteArray) := some (strOfNums (([(wrap64 (48 + (wrap64 (Int.tdiv a0 10)))) % 256, (wrap64 (48 + (Int.tmod a0 10))) % 256] : List Int)))
set_option maxHeartbeats 8000000 in
set_option maxRecDepth 100000 in
theorem giroref05_pair.calls (a0 : Int) (r : ByteArray) (w : World) (h : giroref05_pair.f a0 = some r) :
  Calls Tryd.prog 59 #[.int .i64 a0] w fun e w' => e = .returned (.string r) ∧ Below w.heap.size w w' := by
 have HB := Aside0.mk (Below.refl w.heap.size w)
 have H : (some (strOfNums (([(wrap64 (48 + (wrap64 (Int.tdiv a0 10)))) % 256, (wrap64 (48 + (Int.tmod a0 10))) % 256] : List Int)))) = some r := h
 clear h
 obtain ⟨y157, hy157⟩ : ∃ y_ : List Int, y_ = (([(wrap64 (48 + (wrap64 (Int.tdiv a0 10)))) % 256, (wrap64 (48 + (Int.tmod a0 10))) % 256] : List Int)) := ⟨_, rfl⟩
 replace H : (some (strOfNums y157)) = some r := by first | (rw [hy157]; with_reducible exact H) | (have H2_ := (Option.bind_some _ _).symm.trans H; rw [hy157]; with_reducible exact H2_) | (have H2_ := (Option.bind_some _ _).symm.trans H; with_reducible exact H2_) | with_reducible exact H | (rw [hy157]; exact H) | exact H
 have Ny157 := Aside0.mk hy157
 clear hy157
 obtain rfl := Option.some.inj H
 go_enter Tryd.func59, Tryd.ntmps59
 go_wp2_with (first | ((with_reducible refine gate_dst (N := 11) rfl ?_); refine Kd.R_lit (Kd.int .u8) _ 5 ?hg (N := 11) ?hd (xs := ([(wrap64 (48 + (wrap64 (Int.tdiv a0 10)))) % 256, (wrap64 (48 + (Int.tmod a0 10))) % 256] : List Int)) (inner := [.int .u8 ((wrap64 (48 + (wrap64 (Int.tdiv a0 10)))) % 256), .int .u8 ((wrap64 (48 + (Int.tmod a0 10))) % 256)]) (ok := fun _ => True) (okp := fun _ => True) ?hr ?hp (fun _ hk => hk) trivial (Below.refl _ _) (Nat.le_refl _) (by simp) ?_; (case hd => rfl); (case hg => rfl); (case hr => first | (go_simp; done) | (go_simp; rfl)); (case hp => exact (Reps.one (show Kd.M (Kd.int .u8) _ _ _ ((wrap64 (48 + (wrap64 (Int.tdiv a0 10)))) % 256) [.int .u8 ((wrap64 (48 + (wrap64 (Int.tdiv a0 10)))) % 256)] from rfl) (Reps.one (show Kd.M (Kd.int .u8) _ _ _ ((wrap64 (48 + (Int.tmod a0 10))) % 256) [.int .u8 ((wrap64 (48 + (Int.tmod a0 10))) % 256)] from rfl) (Reps.none _ _)))); intro v158 w2 ho3 hb hg_ hnew_; clear hg_ hnew_; (first | rw [← Ny157.out] at ho3 | (simp only [Int.reduceToNat] at ho3; rw [← Ny157.out] at ho3)); have n0_ := Aside0.mk (Kd.R_lower ho3 (below_size (by repeat (first | (with_reducible first | exact HB.out | apply below_alloc | apply pw_below_drewN | apply below_drew1) | exact HB.out)))); have n1_ := Aside0.mk (below_step (by repeat (first | (with_reducible first | exact HB.out | apply below_alloc | apply pw_below_drewN | apply below_drew1) | exact HB.out)) hb); clear HB; have HO159 := n0_; have HB := n1_; clear n0_ n1_; clear hb ho3; have hcv4 := own_string (P := Tryd.prog) Tryd.underlying115 Tryd.underlying5 Tryd.underlying9 (Kd.own_of_R HO159.out)))
 go_ret
 exact ⟨by first | rfl | (simp [errW_none, errW_some] <;> rfl) | (simp [*, errW_none, errW_some] <;> rfl), by repeat (first | (with_reducible first | exact HB.out | apply below_alloc | apply pw_below_drewN | apply below_drew1) | exact HB.out)⟩
end Go.Proofs.YtpclapnmiacfpaaDoor.Q
end
section
namespace Go.Proofs.YtpclapnmiacfpaaDoor.Q
open Go.RowKit Go.Proofs.YtpclapnmiacfpaaDoorW.PrintWords Go.Proofs.YtpclapnmiacfpaaDoorW.PrintLast Go.Proofs.YtpclapnmiacfpaaDoorW.PrintMore
attribute [local go_sem] max2_int min2_int max_two min_two max_three min_three max_four min_four
set_option linter.unusedVariables false
set_option linter.unusedSimpArgs false
def giroref05_Mod97.l0 : Nat → List Int → Int → Int → Option (Int)
 | 0, _, _, _ => none
 | k + 1, x3, x4, x5 => if x5 < (x3.length : Int) then (if 0 ≤ x5 then (giroref05_Mod97.l0 k x3 (Int.tmod (wrap64 ((wrap64 (10 * x4)) + (rd x3 x5))) 97) (wrap64 (x5 + 1))) else (none)) else (some x4)
def giroref05_Mod97.f (k : Nat) (a0 : ByteArray) : Option (Int) := (giroref05_Expand.f k a0).bind fun t160 => (giroref05_Mod97.l0 k t160 0 0)
theorem giroref05_Mod97.mono_l : ∀ k, (∀ y0 y1 y2, LeO (giroref05_Mod97.l0 k y0 y1 y2) (giroref05_Mod97.l0 (k + 1) y0 y1 y2))
 | 0 => fun _ _ _ r h => by simp [giroref05_Mod97.l0] at h
 | k + 1 => by
  have ih0 := giroref05_Mod97.mono_l k
  ·intro y0 y1 y2
   unfold giroref05_Mod97.l0
   repeat' first
   | (with_reducible exact ih0 _ _ _)
   | (with_reducible exact giroref05_Expand.mono _ _)
   | (with_reducible exact LeO.refl _)
   | (with_reducible exact LeO.none _)
   | (with_reducible refine LeO.ite ?_ ?_)
   | (with_reducible refine LeO.bind ?_ (fun _ => ?_))
   | exact ih0 _ _ _
   | exact giroref05_Expand.mono _ _
   | exact LeO.none _
   | refine LeO.ite ?_ ?_
   | refine LeO.bind ?_ (fun _ => ?_)
theorem giroref05_Mod97.mono : ∀ a0 k, LeO (giroref05_Mod97.f k a0) (giroref05_Mod97.f (k + 1) a0) := by
 intro a0 k
 have ih0 := giroref05_Mod97.mono_l k
 unfold giroref05_Mod97.f
 repeat' first
   | (with_reducible exact ih0 _ _ _)
   | (with_reducible exact giroref05_Expand.mono _ _)
   | (with_reducible exact LeO.refl _)
   | (with_reducible exact LeO.none _)
   | (with_reducible refine LeO.ite ?_ ?_)
   | (with_reducible refine LeO.bind ?_ (fun _ => ?_))
   | exact ih0 _ _ _
   | exact giroref05_Expand.mono _ _
   | exact LeO.none _
   | refine LeO.ite ?_ ?_
   | refine LeO.bind ?_ (fun _ => ?_)
set_option maxHeartbeats 8000000 in
set_option maxRecDepth 100000 in
theorem giroref05_Mod97.calls (k : Nat) (a0 : ByteArray) (r : Int) (w : World) (h : giroref05_Mod97.f k a0 = some r) :
  Calls Tryd.prog 60 #[.string a0] w fun e w' => e = .returned (.int .i64 r) ∧ Below w.heap.size w w' := by
 have HB := Aside0.mk (Below.refl w.heap.size w)
 have H : ((giroref05_Expand.f k a0).bind fun t160 => (giroref05_Mod97.l0 k t160 0 0)) = some r := h
 clear h
 replace H := Option.bind_eq_some_iff.mp H
 obtain ⟨t160, A20, H⟩ := H
 replace H : (giroref05_Mod97.l0 k t160 0 0) = some r := H
 have A2 := Aside0.mk A20
 clear A20
 have H' := Aside0.mk H
 clear H
 go_enter Tryd.func60, Tryd.ntmps60
 go_wp2_with (first | ((with_reducible refine gate_callee (f := 68) rfl ?_); refine goesL_ (some 7) rfl rfl Tryd.func68 (by kernel_rfl) rfl #[.string a0] rfl (by (try simp only [List.map_toArray, List.map_cons, List.map_nil]); first | done | rfl | (simp only [List.length_drop, List.length_take]; rfl)) ?_; (with_reducible refine (giroref05_Expand.calls k a0 t160 _ A2.out).mono ?_); rintro e w3 ⟨v161, rfl, ho0, hb⟩; refine ⟨_, rfl, ?_⟩; have n0_ := Aside0.mk (Kd.R_lower ho0 (below_size (by repeat (first | (with_reducible first | exact HB.out | apply below_alloc | apply pw_below_drewN | apply below_drew1) | exact HB.out)))); have n1_ := Aside0.mk (below_step (by repeat (first | (with_reducible first | exact HB.out | apply below_alloc | apply pw_below_drewN | apply below_drew1) | exact HB.out)) hb); clear HB; have HO162 := n0_; have HB := n1_; clear n0_ n1_; (try clear hb); (try clear hb2); (try clear hk); (try clear hi); (try clear ho0)))
 go_loopg [4, 5] k (fun kq v4 v5 w' => ∃ (x4_1 : Int) (x5_1 : Int), v4 = .int .i64 x4_1 ∧ v5 = .int .i64 x5_1 ∧ Aside0 (giroref05_Mod97.l0 kq t160 x4_1 x5_1 = some r) ∧ Aside0 (kq ≤ k) ∧ Aside0 (Kd.R (Kd.int .i64) 3 w' w.heap.size (fun _ => True) v161 t160) ∧ Aside0 (Below w.heap.size w w'))
 case atStart => exact ⟨(0), (0), (by first | rfl | (simp; done) | (simp [*]; done)), (by first | rfl | (simp; done) | (simp [*]; done)), H', ⟨Nat.le_refl _⟩, ⟨by (with_reducible repeat (first | apply Kd.R_alloc | apply Kd.R_drewN | apply Kd.R_drew)); exact HO162.out⟩, ⟨by repeat (first | (with_reducible first | exact HB.out | apply below_alloc | apply pw_below_drewN | apply below_drew1) | exact HB.out)⟩⟩
 case round =>
  clear H'
  try clear p2
  obtain ⟨x4_1, x5_1, rfl, rfl, HA, HK1, HO_3, HB⟩ := hrel
  cases gk with
  | zero => exact absurd HA.out (by simp [giroref05_Mod97.l0])
  | succ k1 =>
   have H := HA.out
   clear HA
   simp only [giroref05_Mod97.l0] at H
   by_cases c4 : x5_1 < (t160.length : Int)
   ·rw [if_pos c4] at H
    have c4b0 : decide (x5_1 < (t160.length : Int)) = true := decide_eq_true c4
    clear c4
    by_cases c5 : 0 ≤ x5_1
    ·rw [if_pos c5] at H
     have c5b0 : decide (0 ≤ x5_1) = true := decide_eq_true c5
     clear c5
     have H' := Aside0.mk H
     clear H
     obtain ⟨Ao6, co6, eo6⟩ := Kd.R_slice HO_3.out
     subst eo6
     have p163 : 0 ≤ (x5_1 : Int) := of_decide_eq_true (by first | (with_reducible assumption) | assumption)
     have q163 : x5_1 < (t160.length : Int) := of_decide_eq_true (by first | (with_reducible assumption) | assumption)
     obtain ⟨ad163, e163, hx163_0⟩ := Kd.at_int (Kd.R_reads' HO_3.out).2.2 x5_1 p163 q163
     cases e163
     replace p163 := eq_true p163
     replace q163 := eq_true q163
     go_wp2
     go_roundg k1
     case measure => have := HK1.out; omega
     case rel => exact ⟨(Int.tmod (wrap64 ((wrap64 (10 * x4_1)) + (rd t160 x5_1))) 97), (wrap64 (x5_1 + 1)), (by first | rfl | (simp; done) | (simp [*]; done)), (by first | rfl | (simp; done) | (simp [*]; done)), H', ⟨by have := HK1.out; omega⟩, ⟨by (with_reducible repeat (first | apply Kd.R_alloc | apply Kd.R_drewN | apply Kd.R_drew)); exact HO_3.out⟩, ⟨by repeat (first | (with_reducible first | exact HB.out | apply below_alloc | apply pw_below_drewN | apply below_drew1) | exact HB.out)⟩⟩
    ·rw [if_neg c5] at H
     exact absurd H (by simp)
   ·rw [if_neg c4] at H
    have c4b0 : decide (x5_1 < (t160.length : Int)) = false := decide_eq_false c4
    clear c4
    obtain rfl := Option.some.inj H
    obtain ⟨Ao7, co7, eo7⟩ := Kd.R_slice HO_3.out
    subst eo7
    go_wp2
    go_ret
    exact ⟨by first | rfl | (simp [errW_none, errW_some] <;> rfl) | (simp [*, errW_none, errW_some] <;> rfl), by repeat (first | (with_reducible first | exact HB.out | apply below_alloc | apply pw_below_drewN | apply below_drew1) | exact HB.out)⟩
end Go.Proofs.YtpclapnmiacfpaaDoor.Q
end
section
namespace Go.Proofs.YtpclapnmiacfpaaDoor.Q
open Go.RowKit Go.Proofs.YtpclapnmiacfpaaDoorW.PrintWords Go.Proofs.YtpclapnmiacfpaaDoorW.PrintLast Go.Proofs.YtpclapnmiacfpaaDoorW.PrintMore
attribute [local go_sem] max2_int min2_int max_two min_two max_three min_three max_four min_four
set_option linter.unusedVariables false
set_option linter.unusedSimpArgs false
mutual
def giroref05_Check.j0 : Nat → Int → ByteArray → Bool → Option (Int × Int)
 | 0, _, _, _ => none
 | k + 1, x0, x1, x14 => if x14 = true then (some (0, 11)) else ((giroref05_Lengths.f x0).bind fun bt164 => (giroref05_Check.l0 k x0 x1 bt164.1 bt164.2 0))
def giroref05_Check.l0 : Nat → Int → ByteArray → Int → Int → Int → Option (Int × Int)
 | 0, _, _, _, _, _ => none
 | k + 1, x0, x1, x6, x7, x8 => if x8 < (x1.size : Int) then (giroref05_Check.j2 k x0 x1 x6 x7 x8 (decide (x8 < x7))) else (giroref05_Check.j2 k x0 x1 x6 x7 x8 false)
def giroref05_Check.j2 : Nat → Int → ByteArray → Int → Int → Int → Bool → Option (Int × Int)
 | 0, _, _, _, _, _, _ => none
 | k + 1, x0, x1, x6, x7, x8, x28 => if x28 = true then (if 0 ≤ x8 then (if x8 < (x1.size : Int) then ((giroref05_may.f x0 x8 (bt x1 x8)).bind fun t166 => (if t166 = true then (giroref05_Check.l0 k x0 x1 x6 x7 (wrap64 (x8 + 1))) else (some (x8, 3)))) else (none)) else (none)) else (if (x1.size : Int) < x6 then (some ((x1.size : Int), 4)) else (if (x1.size : Int) > x7 then (some (x7, 5)) else (if x0 = 0 then (if 11 < (x1.size : Int) then (if 0 ≤ 11 then (if 11 ≤ (x1.size : Int) then ((giroref05_Luhn.f k (x1.extract 0 11)).bind fun t167 => (giroref05_Check.j3 k x0 x1 ((((bt x1 11) - 48) % 256) != t167))) else (none)) else (none)) else (none)) else (giroref05_Check.j3 k x0 x1 false))))
def giroref05_Check.j3 : Nat → Int → ByteArray → Bool → Option (Int × Int)
 | 0, _, _, _ => none
 | k + 1, x0, x1, x61 => if x61 = true then (some (11, 18)) else (if x0 = 3 then (if 18 ≤ (x1.size : Int) then (if 0 ≤ 18 then (if (x1.extract 0 18).size + 2 ≤ 9223372036854775807 then ((giroref05_Mod97.f k ((x1.extract 0 18) ++ (⟨#[48, 48]⟩ : ByteArray))).bind fun t168 => ((giroref05_pair.f (wrap64 (98 - t168))).bind fun t169 => (if (x1.extract 18 x1.size).toList = t169.toList then (some (0, 0)) else (some (18, 18))))) else (none)) else (none)) else (none)) else (some (0, 0)))
end
def giroref05_Check.f (k : Nat) (a0 : Int) (a1 : ByteArray) : Option (Int × Int) := if a0 < 0 then (giroref05_Check.j0 k a0 a1 true) else (giroref05_Check.j0 k a0 a1 (decide (a0 > 3)))
theorem giroref05_Check.mono_l : ∀ k, (∀ y0 y1 y2, LeO (giroref05_Check.j0 k y0 y1 y2) (giroref05_Check.j0 (k + 1) y0 y1 y2)) ∧ (∀ y0 y1 y2 y3 y4, LeO (giroref05_Check.l0 k y0 y1 y2 y3 y4) (giroref05_Check.l0 (k + 1) y0 y1 y2 y3 y4)) ∧ (∀ y0 y1 y2 y3 y4 y5, LeO (giroref05_Check.j2 k y0 y1 y2 y3 y4 y5) (giroref05_Check.j2 (k + 1) y0 y1 y2 y3 y4 y5)) ∧ (∀ y0 y1 y2, LeO (giroref05_Check.j3 k y0 y1 y2) (giroref05_Check.j3 (k + 1) y0 y1 y2))
 | 0 => ⟨fun _ _ _ r h => by simp [giroref05_Check.j0] at h, fun _ _ _ _ _ r h => by simp [giroref05_Check.l0] at h, fun _ _ _ _ _ _ r h => by simp [giroref05_Check.j2] at h, fun _ _ _ r h => by simp [giroref05_Check.j3] at h⟩
 | k + 1 => by
  obtain ⟨ih0, ih1, ih2, ih3⟩ := giroref05_Check.mono_l k
  refine ⟨?_, ?_, ?_, ?_⟩
  ·intro y0 y1 y2
   unfold giroref05_Check.j0
   repeat' first
   | (with_reducible exact ih0 _ _ _)
   | (with_reducible exact ih1 _ _ _ _ _)
   | (with_reducible exact ih2 _ _ _ _ _ _)
   | (with_reducible exact ih3 _ _ _)
   | (with_reducible exact giroref05_Luhn.mono _ _)
   | (with_reducible exact giroref05_Mod97.mono _ _)
   | (with_reducible exact LeO.refl _)
   | (with_reducible exact LeO.none _)
   | (with_reducible refine LeO.ite ?_ ?_)
   | (with_reducible refine LeO.bind ?_ (fun _ => ?_))
   | exact ih0 _ _ _
   | exact ih1 _ _ _ _ _
   | exact ih2 _ _ _ _ _ _
   | exact ih3 _ _ _
   | exact giroref05_Luhn.mono _ _
   | exact giroref05_Mod97.mono _ _
   | exact LeO.none _
   | refine LeO.ite ?_ ?_
   | refine LeO.bind ?_ (fun _ => ?_)
  ·intro y0 y1 y2 y3 y4
   unfold giroref05_Check.l0
   repeat' first
   | (with_reducible exact ih0 _ _ _)
   | (with_reducible exact ih1 _ _ _ _ _)
   | (with_reducible exact ih2 _ _ _ _ _ _)
   | (with_reducible exact ih3 _ _ _)
   | (with_reducible exact giroref05_Luhn.mono _ _)
   | (with_reducible exact giroref05_Mod97.mono _ _)
   | (with_reducible exact LeO.refl _)
   | (with_reducible exact LeO.none _)
   | (with_reducible refine LeO.ite ?_ ?_)
   | (with_reducible refine LeO.bind ?_ (fun _ => ?_))
   | exact ih0 _ _ _
   | exact ih1 _ _ _ _ _
   | exact ih2 _ _ _ _ _ _
   | exact ih3 _ _ _
   | exact giroref05_Luhn.mono _ _
   | exact giroref05_Mod97.mono _ _
   | exact LeO.none _
   | refine LeO.ite ?_ ?_
   | refine LeO.bind ?_ (fun _ => ?_)
  ·intro y0 y1 y2 y3 y4 y5
   unfold giroref05_Check.j2
   repeat' first
   | (with_reducible exact ih0 _ _ _)
   | (with_reducible exact ih1 _ _ _ _ _)
   | (with_reducible exact ih2 _ _ _ _ _ _)
   | (with_reducible exact ih3 _ _ _)
   | (with_reducible exact giroref05_Luhn.mono _ _)
   | (with_reducible exact giroref05_Mod97.mono _ _)
   | (with_reducible exact LeO.refl _)
   | (with_reducible exact LeO.none _)
   | (with_reducible refine LeO.ite ?_ ?_)
   | (with_reducible refine LeO.bind ?_ (fun _ => ?_))
   | exact ih0 _ _ _
   | exact ih1 _ _ _ _ _
   | exact ih2 _ _ _ _ _ _
   | exact ih3 _ _ _
   | exact giroref05_Luhn.mono _ _
   | exact giroref05_Mod97.mono _ _
   | exact LeO.none _
   | refine LeO.ite ?_ ?_
   | refine LeO.bind ?_ (fun _ => ?_)
  ·intro y0 y1 y2
   unfold giroref05_Check.j3
   repeat' first
   | (with_reducible exact ih0 _ _ _)
   | (with_reducible exact ih1 _ _ _ _ _)
   | (with_reducible exact ih2 _ _ _ _ _ _)
   | (with_reducible exact ih3 _ _ _)
   | (with_reducible exact giroref05_Luhn.mono _ _)
   | (with_reducible exact giroref05_Mod97.mono _ _)
   | (with_reducible exact LeO.refl _)
   | (with_reducible exact LeO.none _)
   | (with_reducible refine LeO.ite ?_ ?_)
   | (with_reducible refine LeO.bind ?_ (fun _ => ?_))
   | exact ih0 _ _ _
   | exact ih1 _ _ _ _ _
   | exact ih2 _ _ _ _ _ _
   | exact ih3 _ _ _
   | exact giroref05_Luhn.mono _ _
   | exact giroref05_Mod97.mono _ _
   | exact LeO.none _
   | refine LeO.ite ?_ ?_
   | refine LeO.bind ?_ (fun _ => ?_)
theorem giroref05_Check.mono : ∀ a0 a1 k, LeO (giroref05_Check.f k a0 a1) (giroref05_Check.f (k + 1) a0 a1) := by
 intro a0 a1 k
 obtain ⟨ih0, ih1, ih2, ih3⟩ := giroref05_Check.mono_l k
 unfold giroref05_Check.f
 repeat' first
   | (with_reducible exact ih0 _ _ _)
   | (with_reducible exact ih1 _ _ _ _ _)
   | (with_reducible exact ih2 _ _ _ _ _ _)
   | (with_reducible exact ih3 _ _ _)
   | (with_reducible exact giroref05_Luhn.mono _ _)
   | (with_reducible exact giroref05_Mod97.mono _ _)
   | (with_reducible exact LeO.refl _)
   | (with_reducible exact LeO.none _)
   | (with_reducible refine LeO.ite ?_ ?_)
   | (with_reducible refine LeO.bind ?_ (fun _ => ?_))
   | exact ih0 _ _ _
   | exact ih1 _ _ _ _ _
   | exact ih2 _ _ _ _ _ _
   | exact ih3 _ _ _
   | exact giroref05_Luhn.mono _ _
   | exact giroref05_Mod97.mono _ _
   | exact LeO.none _
   | refine LeO.ite ?_ ?_
   | refine LeO.bind ?_ (fun _ => ?_)
def giroref05_Check.T13 : Bool × List (List Nat × List Nat) := (true, [([], []), ([0], [0]), ([1], [1]), ([2], [2]), ([3, 2], [2, 3]), ([4, 2], [2, 4]), ([5, 2], [2, 5]), ([2], [2]), ([7, 2], [2, 7]), ([8, 2, 2], [2, 8]), ([6, 9, 2], [2, 6, 9]), ([2, 10], [2, 10])])
def giroref05_Check.B13 : List Nat := [0, 1, 3, 7, 15, 31, 63, 7, 135, 391, 1023, 2047]
theorem giroref05_Check.tab13 : rtab .any (opsOf Tryd.f43 13) = giroref05_Check.T13 := by kernel_rfl
theorem giroref05_Check.bits13 : waitsOk giroref05_Check.T13.2 giroref05_Check.B13 = true := by kernel_rfl
def giroref05_Check.T15 : Bool × List (List Nat × List Nat) := (true, [([], []), ([0], [0]), ([1], [1]), ([2], [2]), ([3, 2], [2, 3]), ([2], [2]), ([5, 2], [2, 5]), ([6, 2], [2, 6]), ([7, 2, 2], [2, 7]), ([8, 2], [2, 8]), ([9, 8, 2], [2, 9]), ([4, 10, 2], [2, 4, 10]), ([2, 11], [2, 11])])
def giroref05_Check.B15 : List Nat := [0, 1, 3, 7, 15, 7, 39, 103, 231, 487, 999, 2047, 4095]
theorem giroref05_Check.tab15 : rtab .any (opsOf Tryd.f43 15) = giroref05_Check.T15 := by kernel_rfl
theorem giroref05_Check.bits15 : waitsOk giroref05_Check.T15.2 giroref05_Check.B15 = true := by kernel_rfl
set_option maxHeartbeats 8000000 in
set_option maxRecDepth 100000 in
theorem giroref05_Check.calls (k : Nat) (a0 : Int) (a1 : ByteArray) (r1 : Int) (r2 : Int) (w : World) (h : giroref05_Check.f k a0 a1 = some (r1, r2)) :
  Calls Tryd.prog 43 #[.int .i64 a0, .string a1] w fun e w' => e = .returned (.tuple #[.int .i64 r1, .int .i64 r2]) ∧ Below w.heap.size w w' := by
 have HB := Aside0.mk (Below.refl w.heap.size w)
 have H : (if a0 < 0 then (giroref05_Check.j0 k a0 a1 true) else (giroref05_Check.j0 k a0 a1 (decide (a0 > 3)))) = some (r1, r2) := h
 clear h
 have HC3 := Aside0.mk H
 clear H
 go_enter Tryd.func43, Tryd.ntmps43
 go_upto_region 1 with (fail)
 go_cut [14] (fun v14 wc => ∃ (kq : Nat) (x14_2 : Bool), v14 = .bool x14_2 ∧ Aside0 (giroref05_Check.j0 kq a0 a1 x14_2 = some (r1, r2)) ∧ Aside0 (kq ≤ k) ∧ Aside0 (Below w.heap.size w wc))
 case first =>
  have H := HC3.out
  clear HC3
  by_cases c4 : a0 < 0
  ·rw [if_pos c4] at H
   have c4b0 : decide (a0 < 0) = true := decide_eq_true c4
   clear c4
   (first | rw [c4b0] | (simp only [i64_w, i32_w]; rw [c4b0]) | skip)
   have H' := Aside0.mk H
   clear H
   go_wp2
   go_meet
   case rel => exact ⟨_, (true), (by first | rfl | (simp; done) | (simp [*]; done) | (rw [show wrap64 (IntKind.u8.wrap (bt a1 11 - 48)) = (bt a1 11 - 48) % 256 from (by rw [IntKind.wrap_u8]; unfold wrap64; omega)])), H', ⟨by first | omega | exact Nat.le_refl _⟩, ⟨by repeat (first | (with_reducible first | exact HB.out | apply below_alloc | apply pw_below_drewN | apply below_drew1) | exact HB.out)⟩⟩
  ·rw [if_neg c4] at H
   have c4b0 : decide (a0 < 0) = false := decide_eq_false c4
   clear c4
   (first | rw [c4b0] | (simp only [i64_w, i32_w]; rw [c4b0]) | skip)
   have H' := Aside0.mk H
   clear H
   go_wp2
   go_meet
   case rel => exact ⟨_, (decide (a0 > 3)), (by first | rfl | (simp; done) | (simp [*]; done) | (rw [show wrap64 (IntKind.u8.wrap (bt a1 11 - 48)) = (bt a1 11 - 48) % 256 from (by rw [IntKind.wrap_u8]; unfold wrap64; omega)])), H', ⟨by first | omega | exact Nat.le_refl _⟩, ⟨by repeat (first | (with_reducible first | exact HB.out | apply below_alloc | apply pw_below_drewN | apply below_drew1) | exact HB.out)⟩⟩
 case rest =>
  clear HC3
  try clear p2
  try clear c4
  try clear c4b0
  obtain ⟨kq, x14_2, rfl, HA, HJ2, HB⟩ := hcut
  cases kq with
  | zero => exact absurd HA.out (by simp [giroref05_Check.j0])
  | succ kj2 =>
   have H := HA.out
   clear HA
   simp only [giroref05_Check.j0] at H
   by_cases c5 : x14_2 = true
   ·subst c5
    have H1 : (some (0, 11)) = some (r1, r2) := by rw [if_pos rfl] at H; exact H
    clear H
    have H := H1
    clear H1
    simp only [Option.some.injEq, Prod.mk.injEq] at H
    obtain ⟨rfl, rfl⟩ := H
    go_wp2
    go_ret2
    exact ⟨by first | rfl | (simp [errW_none, errW_some] <;> rfl) | (simp [*, errW_none, errW_some] <;> rfl), by repeat (first | (with_reducible first | exact HB.out | apply below_alloc | apply pw_below_drewN | apply below_drew1) | exact HB.out)⟩
   ·replace c5 := Bool.eq_false_iff.mpr c5
    subst c5
    have H1 : ((giroref05_Lengths.f a0).bind fun bt164 => (giroref05_Check.l0 kj2 a0 a1 bt164.1 bt164.2 0)) = some (r1, r2) := by rw [if_neg (show ¬ (false = true) by decide)] at H; exact H
    clear H
    have H := H1
    clear H1
    replace H := Option.bind_eq_some_iff.mp H
    obtain ⟨⟨t164, t165⟩, A60, H⟩ := H
    replace H : (giroref05_Check.l0 kj2 a0 a1 t164 t165 0) = some (r1, r2) := H
    have A6 := Aside0.mk A60
    clear A60
    have H' := Aside0.mk H
    clear H
    go_wp2_with (first | ((with_reducible refine gate_callee (f := 56) rfl ?_); refine goesL_ (some 17) rfl rfl Tryd.func56 (by kernel_rfl) rfl #[.int .i64 a0] rfl (by (try simp only [List.map_toArray, List.map_cons, List.map_nil]); first | done | rfl | (simp only [List.length_drop, List.length_take]; rfl)) ?_; (with_reducible refine (giroref05_Lengths.calls a0 t164 t165 _ A6.out).mono ?_); rintro e w' ⟨rfl, ⟨nd, rfl⟩⟩; refine ⟨_, rfl, ?_⟩))
    go_loopg [8] kj2 (fun kq v8 w' => ∃ (x8_2 : Int), v8 = .int .i64 x8_2 ∧ Aside0 (giroref05_Check.l0 kq a0 a1 t164 t165 x8_2 = some (r1, r2)) ∧ Aside0 (kq ≤ kj2) ∧ Aside0 (Below w.heap.size w w'))
    case atStart => exact ⟨(0), (by first | rfl | (simp; done) | (simp [*]; done) | (rw [show wrap64 (IntKind.u8.wrap (bt a1 11 - 48)) = (bt a1 11 - 48) % 256 from (by rw [IntKind.wrap_u8]; unfold wrap64; omega)])), H', ⟨Nat.le_refl _⟩, ⟨by repeat (first | (with_reducible first | exact HB.out | apply below_alloc | apply pw_below_drewN | apply below_drew1) | exact HB.out)⟩⟩
    case round =>
     clear H'
     try clear p2
     try clear c4
     try clear c4b0
     try clear c5
     try clear p2
     obtain ⟨x8_2, rfl, HA, HK2, HB⟩ := hrel
     cases gk with
     | zero => exact absurd HA.out (by simp [giroref05_Check.l0])
     | succ k2 =>
      have H := HA.out
      clear HA
      simp only [giroref05_Check.l0] at H
      have HC7 := Aside0.mk H
      clear H
      go_upto_region 5 with (fail)
      go_cut [28] (fun v28 wc => ∃ (kq : Nat) (x28_6 : Bool), v28 = .bool x28_6 ∧ Aside0 (giroref05_Check.j2 kq a0 a1 t164 t165 x8_2 x28_6 = some (r1, r2)) ∧ Aside0 (kq ≤ k2) ∧ Aside0 (Below w.heap.size w wc))
      case first =>
       have H := HC7.out
       clear HC7
       by_cases c8 : x8_2 < (a1.size : Int)
       ·rw [if_pos c8] at H
        have c8b0 : decide (x8_2 < (a1.size : Int)) = true := decide_eq_true c8
        clear c8
        (first | rw [c8b0] | (simp only [i64_w, i32_w]; rw [c8b0]) | skip)
        have H' := Aside0.mk H
        clear H
        go_wp2
        go_meet
        case rel => exact ⟨_, (decide (x8_2 < t165)), (by first | rfl | (simp; done) | (simp [*]; done) | (rw [show wrap64 (IntKind.u8.wrap (bt a1 11 - 48)) = (bt a1 11 - 48) % 256 from (by rw [IntKind.wrap_u8]; unfold wrap64; omega)])), H', ⟨by have := HJ2.out; have := HK2.out; first | omega | exact Nat.le_refl _⟩, ⟨by repeat (first | (with_reducible first | exact HB.out | apply below_alloc | apply pw_below_drewN | apply below_drew1) | exact HB.out)⟩⟩
       ·rw [if_neg c8] at H
        have c8b0 : decide (x8_2 < (a1.size : Int)) = false := decide_eq_false c8
        clear c8
        (first | rw [c8b0] | (simp only [i64_w, i32_w]; rw [c8b0]) | skip)
        have H' := Aside0.mk H
        clear H
        go_wp2
        go_meet
        case rel => exact ⟨_, (false), (by first | rfl | (simp; done) | (simp [*]; done) | (rw [show wrap64 (IntKind.u8.wrap (bt a1 11 - 48)) = (bt a1 11 - 48) % 256 from (by rw [IntKind.wrap_u8]; unfold wrap64; omega)])), H', ⟨by have := HJ2.out; have := HK2.out; first | omega | exact Nat.le_refl _⟩, ⟨by repeat (first | (with_reducible first | exact HB.out | apply below_alloc | apply pw_below_drewN | apply below_drew1) | exact HB.out)⟩⟩
      case rest =>
       clear HC7
       try clear p2
       try clear c4
       try clear c4b0
       try clear c5
       try clear c8
       try clear c8b0
       try clear p2
       obtain ⟨kq, x28_6, rfl, HA, HJ6, HB⟩ := hcut
       cases kq with
       | zero => exact absurd HA.out (by simp [giroref05_Check.j2])
       | succ kj6 =>
        have H := HA.out
        clear HA
        simp only [giroref05_Check.j2] at H
        by_cases c9 : x28_6 = true
        ·subst c9
         have H1 : (if 0 ≤ x8_2 then (if x8_2 < (a1.size : Int) then ((giroref05_may.f a0 x8_2 (bt a1 x8_2)).bind fun t166 => (if t166 = true then (giroref05_Check.l0 kj6 a0 a1 t164 t165 (wrap64 (x8_2 + 1))) else (some (x8_2, 3)))) else (none)) else (none)) = some (r1, r2) := by rw [if_pos rfl] at H; exact H
         clear H
         have H := H1
         clear H1
         by_cases c10 : 0 ≤ x8_2
         ·rw [if_pos c10] at H
          have c10b0 : decide (0 ≤ x8_2) = true := decide_eq_true c10
          clear c10
          by_cases c11 : x8_2 < (a1.size : Int)
          ·rw [if_pos c11] at H
           have c11b0 : decide (x8_2 < (a1.size : Int)) = true := decide_eq_true c11
           clear c11
           replace H := Option.bind_eq_some_iff.mp H
           obtain ⟨t166, A130, H⟩ := H
           replace H : (if t166 = true then (giroref05_Check.l0 kj6 a0 a1 t164 t165 (wrap64 (x8_2 + 1))) else (some (x8_2, 3))) = some (r1, r2) := H
           have A13 := Aside0.mk A130
           clear A130
           by_cases c14 : t166 = true
           ·subst c14
            have H1 : (giroref05_Check.l0 kj6 a0 a1 t164 t165 (wrap64 (x8_2 + 1))) = some (r1, r2) := by rw [if_pos rfl] at H; exact H
            clear H
            have H := H1
            clear H1
            have H' := Aside0.mk H
            clear H
            have p12 : 0 ≤ (x8_2 : Int) := of_decide_eq_true (by first | (with_reducible assumption) | assumption)
            have q12 : x8_2 < (a1.size : Int) := of_decide_eq_true (by first | (with_reducible assumption) | assumption)
            have hx12 := bt_at a1 x8_2
            replace p12 := eq_true p12
            replace q12 := eq_true q12
            go_wp2_with (first | ((with_reducible refine gate_callee (f := 57) rfl ?_); refine goesL_ (some 36) rfl rfl Tryd.func57 (by kernel_rfl) rfl #[.int .i64 a0, .int .i64 x8_2, .int .u8 (bt a1 x8_2)] rfl (by (try simp only [List.map_toArray, List.map_cons, List.map_nil]); first | done | rfl | (simp only [List.length_drop, List.length_take]; rfl)) ?_; (with_reducible refine (giroref05_may.calls a0 x8_2 (bt a1 x8_2) true _ A13.out).mono ?_); rintro e w' ⟨rfl, ⟨nd, rfl⟩⟩; refine ⟨_, rfl, ?_⟩))
            go_roundg kj6
            case measure => have := HJ2.out; have := HK2.out; have := HJ6.out; omega
            case rel => exact ⟨(wrap64 (x8_2 + 1)), (by first | rfl | (simp; done) | (simp [*]; done) | (rw [show wrap64 (IntKind.u8.wrap (bt a1 11 - 48)) = (bt a1 11 - 48) % 256 from (by rw [IntKind.wrap_u8]; unfold wrap64; omega)])), H', ⟨by have := HJ2.out; have := HK2.out; have := HJ6.out; omega⟩, ⟨by repeat (first | (with_reducible first | exact HB.out | apply below_alloc | apply pw_below_drewN | apply below_drew1) | exact HB.out)⟩⟩
           ·replace c14 := Bool.eq_false_iff.mpr c14
            subst c14
            have H1 : (some (x8_2, 3)) = some (r1, r2) := by rw [if_neg (show ¬ (false = true) by decide)] at H; exact H
            clear H
            have H := H1
            clear H1
            simp only [Option.some.injEq, Prod.mk.injEq] at H
            obtain ⟨rfl, rfl⟩ := H
            have p12 : 0 ≤ (x8_2 : Int) := of_decide_eq_true (by first | (with_reducible assumption) | assumption)
            have q12 : x8_2 < (a1.size : Int) := of_decide_eq_true (by first | (with_reducible assumption) | assumption)
            have hx12 := bt_at a1 x8_2
            replace p12 := eq_true p12
            replace q12 := eq_true q12
            go_wp2_with (first | ((with_reducible refine gate_callee (f := 57) rfl ?_); refine goesL_ (some 36) rfl rfl Tryd.func57 (by kernel_rfl) rfl #[.int .i64 a0, .int .i64 x8_2, .int .u8 (bt a1 x8_2)] rfl (by (try simp only [List.map_toArray, List.map_cons, List.map_nil]); first | done | rfl | (simp only [List.length_drop, List.length_take]; rfl)) ?_; (with_reducible refine (giroref05_may.calls a0 x8_2 (bt a1 x8_2) false _ A13.out).mono ?_); rintro e w' ⟨rfl, ⟨nd, rfl⟩⟩; refine ⟨_, rfl, ?_⟩))
            go_ret2
            exact ⟨by first | rfl | (simp [errW_none, errW_some] <;> rfl) | (simp [*, errW_none, errW_some] <;> rfl), by repeat (first | (with_reducible first | exact HB.out | apply below_alloc | apply pw_below_drewN | apply below_drew1) | exact HB.out)⟩
          ·rw [if_neg c11] at H
           exact absurd H (by simp)
         ·rw [if_neg c10] at H
          exact absurd H (by simp)
        ·replace c9 := Bool.eq_false_iff.mpr c9
         subst c9
         have H1 : (if (a1.size : Int) < t164 then (some ((a1.size : Int), 4)) else (if (a1.size : Int) > t165 then (some (t165, 5)) else (if a0 = 0 then (if 11 < (a1.size : Int) then (if 0 ≤ 11 then (if 11 ≤ (a1.size : Int) then ((giroref05_Luhn.f kj6 (a1.extract 0 11)).bind fun t167 => (giroref05_Check.j3 kj6 a0 a1 ((((bt a1 11) - 48) % 256) != t167))) else (none)) else (none)) else (none)) else (giroref05_Check.j3 kj6 a0 a1 false)))) = some (r1, r2) := by rw [if_neg (show ¬ (false = true) by decide)] at H; exact H
         clear H
         have H := H1
         clear H1
         by_cases c15 : (a1.size : Int) < t164
         ·rw [if_pos c15] at H
          have c15b0 : decide ((a1.size : Int) < t164) = true := decide_eq_true c15
          clear c15
          simp only [Option.some.injEq, Prod.mk.injEq] at H
          obtain ⟨rfl, rfl⟩ := H
          go_wp2
          go_ret2
          exact ⟨by first | rfl | (simp [errW_none, errW_some] <;> rfl) | (simp [*, errW_none, errW_some] <;> rfl), by repeat (first | (with_reducible first | exact HB.out | apply below_alloc | apply pw_below_drewN | apply below_drew1) | exact HB.out)⟩
         ·rw [if_neg c15] at H
          have c15b0 : decide ((a1.size : Int) < t164) = false := decide_eq_false c15
          clear c15
          by_cases c16 : (a1.size : Int) > t165
          ·rw [if_pos c16] at H
           have c16b0 : decide (t165 < (a1.size : Int)) = true := decide_eq_true c16
           clear c16
           simp only [Option.some.injEq, Prod.mk.injEq] at H
           obtain ⟨rfl, rfl⟩ := H
           go_wp2
           go_ret2
           exact ⟨by first | rfl | (simp [errW_none, errW_some] <;> rfl) | (simp [*, errW_none, errW_some] <;> rfl), by repeat (first | (with_reducible first | exact HB.out | apply below_alloc | apply pw_below_drewN | apply below_drew1) | exact HB.out)⟩
          ·rw [if_neg c16] at H
           have c16b0 : decide (t165 < (a1.size : Int)) = false := decide_eq_false c16
           clear c16
           have HC17 := Aside0.mk H
           clear H
           go_upto_region 13 with (fail)
           go_cut [61] (fun v61 wc => ∃ (kq : Nat) (x61_16 : Bool), v61 = .bool x61_16 ∧ Aside0 (giroref05_Check.j3 kq a0 a1 x61_16 = some (r1, r2)) ∧ Aside0 (kq ≤ kj6) ∧ Aside0 (Below w.heap.size w wc))
           case first =>
            have H := HC17.out
            clear HC17
            by_cases c18 : a0 = 0
            ·rw [if_pos c18] at H
             have c18b0 : (a0 == 0) = true := beq_iff_eq.mpr c18
             have c18b1 : (a0 != 0) = false := bne_eq_false_iff_eq.mpr c18
             clear c18
             (first | rw [c18b0] | (simp only [i64_w, i32_w]; rw [c18b0]) | skip)
             by_cases c19 : 11 < (a1.size : Int)
             ·rw [if_pos c19] at H
              have c19b0 : decide (11 < (a1.size : Int)) = true := decide_eq_true c19
              have c19b1 : decide (11 < a1.size) = true := decide_eq_true (by omega)
              clear c19
              by_cases c21 : 0 ≤ 11
              ·rw [if_pos c21] at H
               have c21b0 := eq_true c21
               have c21b1 : decide (0 ≤ 11) = true := decide_eq_true c21
               clear c21
               by_cases c22 : 11 ≤ (a1.size : Int)
               ·rw [if_pos c22] at H
                have c22b0 := eq_true c22
                have c22b1 : decide (11 ≤ (a1.size : Int)) = true := decide_eq_true c22
                clear c22
                replace H := Option.bind_eq_some_iff.mp H
                obtain ⟨t167, A230, H⟩ := H
                replace H : (giroref05_Check.j3 kj6 a0 a1 ((((bt a1 11) - 48) % 256) != t167)) = some (r1, r2) := H
                have A23 := Aside0.mk A230
                clear A230
                have H' := Aside0.mk H
                clear H
                try go_wp2
                have n0_ := Aside0.mk (below_drew1 HB.out)
                clear HB
                have HB := n0_
                clear n0_
                have p20 : 0 ≤ (11 : Int) := (by omega)
                have q20 : 11 < a1.size := (by have : (11 : Int) < (a1.size : Int) := of_decide_eq_true (by first | (with_reducible assumption) | assumption); omega)
                have hx20 : ∀ h : 11 < a1.size, ((a1[11]'h).toNat : Int) = bt a1 11 := bt_at a1 11
                clear p20
                have qi20 : (11 < (a1.size : Int)) = True := eq_true (of_decide_eq_true (by first | (with_reducible assumption) | assumption))
                replace q20 := eq_true q20
                refine start_ (n := 12) (S := fun w' => True) (ds := []) #[false, false, false, false, false, false, false, false, false, false, false, false] (by kernel_rfl) rfl rfl trivial (fun hHeld => ?_); refine with_tabW giroref05_Check.tab13 giroref05_Check.bits13 (fun HT_ HW_ => ?_)
                generalize wc.drew = w24 at HB hHeld ⊢
                refine pure_ (i := 0) (N := some 50) (v := ?_) (a' := ?_) #[true, false, false, false, false, false, false, false, false, false, false, false] rfl rfl (any_of HT_.out (by kernel_rfl)) (fun _ _ _ h => h) (Or.inl ⟨by rfl, ?_⟩) ?_ ?_
                rotate_left
                ·intro w'
                 go_simp
                 first | with_reducible rfl | (rw [if_neg (by omega)])
                rotate_left
                ·simp only [Act.put, List.setIfInBounds_toArray, List.set_cons_zero, List.set_cons_succ, i64_w, i32_w]
                 rfl
                refine pure_ (i := 1) (N := some 51) (v := ?_) (a' := ?_) #[true, true, false, false, false, false, false, false, false, false, false, false] rfl rfl (any_of HT_.out (by kernel_rfl)) (fun _ _ _ h => h) (Or.inl ⟨by rfl, ?_⟩) ?_ ?_
                rotate_left
                ·intro w'
                 go_simp
                 first | with_reducible rfl | (rw [if_neg (by omega)])
                rotate_left
                ·simp only [Act.put, List.setIfInBounds_toArray, List.set_cons_zero, List.set_cons_succ, i64_w, i32_w]
                 rfl
                refine pure_ (i := 2) (N := some 52) (v := ?_) (a' := ?_) #[true, true, true, false, false, false, false, false, false, false, false, false] rfl rfl (any_of HT_.out (by kernel_rfl)) (fun _ _ _ h => h) (Or.inl ⟨by rfl, ?_⟩) ?_ ?_
                rotate_left
                ·intro w'
                 go_simp
                 first | with_reducible rfl | (rw [if_neg (by omega)])
                rotate_left
                ·simp only [Act.put, List.setIfInBounds_toArray, List.set_cons_zero, List.set_cons_succ, i64_w, i32_w]
                 rfl
                refine pure_ (i := 3) (N := some 53) (v := ?_) (a' := ?_) #[true, true, true, true, false, false, false, false, false, false, false, false] rfl rfl (any_of HT_.out (by kernel_rfl)) (fun _ _ _ h => h) (Or.inl ⟨by rfl, ?_⟩) ?_ ?_
                rotate_left
                ·intro w'
                 go_simp
                 first | with_reducible rfl | (rw [if_neg (by omega)])
                rotate_left
                ·simp only [Act.put, List.setIfInBounds_toArray, List.set_cons_zero, List.set_cons_succ, i64_w, i32_w]
                 rfl
                refine pure_ (i := 7) (N := some 57) (v := ?_) (a' := ?_) #[true, true, true, true, false, false, false, true, false, false, false, false] rfl rfl (any_of HT_.out (by kernel_rfl)) (fun _ _ _ h => h) (Or.inl ⟨by rfl, ?_⟩) ?_ ?_
                rotate_left
                ·intro w'
                 go_simp
                 first | with_reducible rfl | (rw [if_neg (by omega)])
                rotate_left
                ·simp only [Act.put, List.setIfInBounds_toArray, List.set_cons_zero, List.set_cons_succ, i64_w, i32_w]
                 rfl
                refine pure_ (i := 8) (N := some 58) (v := ?_) (a' := ?_) #[true, true, true, true, false, false, false, true, true, false, false, false] rfl rfl (any_of HT_.out (by kernel_rfl)) (fun _ _ _ h => h) (Or.inl ⟨by rfl, ?_⟩) ?_ ?_
                rotate_left
                ·intro w'
                 go_simp
                 first | with_reducible rfl | (rw [if_neg (by omega)])
                rotate_left
                ·simp only [Act.put, List.setIfInBounds_toArray, List.set_cons_zero, List.set_cons_succ, i64_w, i32_w]
                 rfl
                refine take_ (i := 4) (N := some 54) (v := ?_) (a' := ?_) #[true, true, true, true, true, false, false, true, true, false, false, false] rfl rfl (take_ofW HT_.out HW_.out (by kernel_rfl)) (fun _ _ _ h => h) (Or.inl ⟨by rfl, ?_⟩) hHeld ?_ ?_
                rotate_left
                ·intro w' _
                 go_simp
                 first | with_reducible rfl | (rw [if_neg (by omega)])
                rotate_left
                ·simp only [Act.put, List.setIfInBounds_toArray, List.set_cons_zero, List.set_cons_succ, i64_w, i32_w]
                 rfl
                refine pure_ (i := 5) (N := some 55) (v := ?_) (a' := ?_) #[true, true, true, true, true, true, false, true, true, false, false, false] rfl rfl (any_of HT_.out (by kernel_rfl)) (fun _ _ _ h => h) (Or.inl ⟨by rfl, ?_⟩) ?_ ?_
                rotate_left
                ·intro w'
                 go_simp
                 first | with_reducible rfl | (rw [if_neg (by omega)])
                rotate_left
                ·simp only [Act.put, List.setIfInBounds_toArray, List.set_cons_zero, List.set_cons_succ, i64_w, i32_w]
                 rfl
                refine pure_ (i := 6) (N := some 56) (v := ?_) (a' := ?_) #[true, true, true, true, true, true, true, true, true, false, false, false] rfl rfl (any_of HT_.out (by kernel_rfl)) (fun _ _ _ h => h) (Or.inl ⟨by rfl, ?_⟩) ?_ ?_
                rotate_left
                ·intro w'
                 go_simp
                 first | with_reducible rfl | (rw [if_neg (by omega)])
                rotate_left
                ·simp only [Act.put, List.setIfInBounds_toArray, List.set_cons_zero, List.set_cons_succ, i64_w, i32_w]
                 rfl
                refine one_ (i := 9) (N := some 59) #[true, true, true, true, true, true, true, true, true, true, false, false] rfl rfl (one_of HT_.out (by kernel_rfl)) (by decide) (fun K hK => ?_)
                refine goes_ Tryd.func58 (by kernel_rfl) rfl #[.string (a1.extract 0 11)] (by rfl) rfl rfl (by (try simp only [List.map_toArray, List.map_cons, List.map_nil]); first | done | rfl | (simp only [List.length_drop, List.length_take]; rfl)) ?_
                with_reducible refine (giroref05_Luhn.calls kj6 (a1.extract 0 11) t167 _ A23.out).mono ?_
                rintro e w25 ⟨rfl, hb⟩
                refine ⟨_, rfl, ?_⟩
                have n0_ := Aside0.mk (below_step (by repeat (first | (with_reducible first | exact HB.out | apply below_alloc | apply pw_below_drewN | apply below_drew1) | exact HB.out)) hb)
                clear HB
                have HB := n0_
                clear n0_
                (try clear hb)
                (try clear hb2)
                (try clear hk)
                (try clear hi)
                refine hK.out _ _ trivial (fun hHeld => ?_)
                clear hK K
                refine norm_ (a' := ?_) ?_ ?_
                rotate_left
                ·show Act.put _ (some 59) _ = _
                 simp only [Act.put, List.setIfInBounds_toArray, List.set_cons_zero, List.set_cons_succ, i64_w, i32_w]
                 rfl
                refine pure_ (i := 10) (N := some 60) (v := ?_) (a' := ?_) #[true, true, true, true, true, true, true, true, true, true, true, false] rfl rfl (any_of HT_.out (by kernel_rfl)) (fun _ _ _ h => h) (Or.inl ⟨by rfl, ?_⟩) ?_ ?_
                rotate_left
                ·intro w'
                 go_simp
                 first | with_reducible rfl | (rw [if_neg (by omega)])
                rotate_left
                ·simp only [Act.put, List.setIfInBounds_toArray, List.set_cons_zero, List.set_cons_succ, i64_w, i32_w]
                 rfl
                refine pure_ (i := 11) (N := some 61) (v := ?_) (a' := ?_) #[true, true, true, true, true, true, true, true, true, true, true, true] rfl rfl (any_of HT_.out (by kernel_rfl)) (fun _ _ _ h => h) (Or.inl ⟨by rfl, ?_⟩) ?_ ?_
                rotate_left
                ·intro w'
                 go_simp
                 first | with_reducible rfl | (rw [if_neg (by omega)])
                rotate_left
                ·simp only [Act.put, List.setIfInBounds_toArray, List.set_cons_zero, List.set_cons_succ, i64_w, i32_w]
                 rfl
                refine done_ (done_of HT_.out (by kernel_rfl)) ?_
                try go_wp2
                go_meet
                case rel => exact ⟨_, (((((bt a1 11) - 48) % 256) != t167)), (by first | rfl | (simp; done) | (simp [*]; done) | (rw [show wrap64 (IntKind.u8.wrap (bt a1 11 - 48)) = (bt a1 11 - 48) % 256 from (by rw [IntKind.wrap_u8]; unfold wrap64; omega)])), H', ⟨by have := HJ2.out; have := HK2.out; have := HJ6.out; first | omega | exact Nat.le_refl _⟩, ⟨by repeat (first | (with_reducible first | exact HB.out | apply below_alloc | apply pw_below_drewN | apply below_drew1) | exact HB.out)⟩⟩
               ·rw [if_neg c22] at H
                exact absurd H (by simp)
              ·rw [if_neg c21] at H
               exact absurd H (by simp)
             ·rw [if_neg c19] at H
              exact absurd H (by simp)
            ·rw [if_neg c18] at H
             have c18b0 : (a0 == 0) = false := beq_eq_false_iff_ne.mpr c18
             have c18b1 : (a0 != 0) = true := bne_iff_ne.mpr c18
             (first | rw [c18b0] | (simp only [i64_w, i32_w]; rw [c18b0]) | skip)
             have H' := Aside0.mk H
             clear H
             try go_wp2
             have n0_ := Aside0.mk (below_drew1 HB.out)
             clear HB
             have HB := n0_
             clear n0_
             refine start_ (n := 12) (S := fun w' => True) (ds := []) #[false, false, false, false, false, false, false, false, false, false, false, false] (by kernel_rfl) rfl rfl trivial (fun hHeld => ?_); refine with_tabW giroref05_Check.tab13 giroref05_Check.bits13 (fun HT_ HW_ => ?_)
             generalize wc.drew = w26 at HB hHeld ⊢
             refine pure_ (i := 0) (N := some 50) (v := ?_) (a' := ?_) #[true, false, false, false, false, false, false, false, false, false, false, false] rfl rfl (any_of HT_.out (by kernel_rfl)) (fun _ _ _ h => h) (Or.inl ⟨by rfl, ?_⟩) ?_ ?_
             rotate_left
             ·intro w'
              go_simp
              first | with_reducible rfl | (rw [if_neg (by omega)])
             rotate_left
             ·simp only [Act.put, List.setIfInBounds_toArray, List.set_cons_zero, List.set_cons_succ, i64_w, i32_w]
              rfl
             refine pure_ (i := 1) (N := some 51) (v := ?_) (a' := ?_) #[true, true, false, false, false, false, false, false, false, false, false, false] rfl rfl (any_of HT_.out (by kernel_rfl)) (fun _ _ _ h => h) (Or.inl ⟨by rfl, ?_⟩) ?_ ?_
             rotate_left
             ·intro w'
              go_simp
              first | with_reducible rfl | (rw [if_neg (by omega)])
             rotate_left
             ·simp only [Act.put, List.setIfInBounds_toArray, List.set_cons_zero, List.set_cons_succ, i64_w, i32_w]
              rfl
             refine pure_ (i := 2) (N := some 52) (v := ?_) (a' := ?_) #[true, true, true, false, false, false, false, false, false, false, false, false] rfl rfl (any_of HT_.out (by kernel_rfl)) (fun _ _ _ h => h) (Or.inl ⟨by rfl, ?_⟩) ?_ ?_
             rotate_left
             ·intro w'
              go_simp
              first | with_reducible rfl | (rw [if_neg (by omega)])
             rotate_left
             ·simp only [Act.put, List.setIfInBounds_toArray, List.set_cons_zero, List.set_cons_succ, i64_w, i32_w]
              rfl
             refine pure_ (i := 3) (N := some 53) (v := undef) (a' := ?_) #[true, true, true, true, false, false, false, false, false, false, false, false] rfl rfl (any_of HT_.out (by kernel_rfl)) (fun _ _ _ h => h) (Or.inr ⟨by rfl, rfl⟩) ?_ ?_
             rotate_left
             ·simp only [Act.put, List.setIfInBounds_toArray, List.set_cons_zero, List.set_cons_succ, i64_w, i32_w]
              rfl
             refine pure_ (i := 4) (N := some 54) (v := undef) (a' := ?_) #[true, true, true, true, true, false, false, false, false, false, false, false] rfl rfl (any_of HT_.out (by kernel_rfl)) (fun _ _ _ h => h) (Or.inr ⟨by rfl, rfl⟩) ?_ ?_
             rotate_left
             ·simp only [Act.put, List.setIfInBounds_toArray, List.set_cons_zero, List.set_cons_succ, i64_w, i32_w]
              rfl
             refine pure_ (i := 5) (N := some 55) (v := undef) (a' := ?_) #[true, true, true, true, true, true, false, false, false, false, false, false] rfl rfl (any_of HT_.out (by kernel_rfl)) (fun _ _ _ h => h) (Or.inr ⟨by rfl, rfl⟩) ?_ ?_
             rotate_left
             ·simp only [Act.put, List.setIfInBounds_toArray, List.set_cons_zero, List.set_cons_succ, i64_w, i32_w]
              rfl
             refine pure_ (i := 6) (N := some 56) (v := undef) (a' := ?_) #[true, true, true, true, true, true, true, false, false, false, false, false] rfl rfl (any_of HT_.out (by kernel_rfl)) (fun _ _ _ h => h) (Or.inr ⟨by rfl, rfl⟩) ?_ ?_
             rotate_left
             ·simp only [Act.put, List.setIfInBounds_toArray, List.set_cons_zero, List.set_cons_succ, i64_w, i32_w]
              rfl
             refine pure_ (i := 7) (N := some 57) (v := undef) (a' := ?_) #[true, true, true, true, true, true, true, true, false, false, false, false] rfl rfl (any_of HT_.out (by kernel_rfl)) (fun _ _ _ h => h) (Or.inr ⟨by rfl, rfl⟩) ?_ ?_
             rotate_left
             ·simp only [Act.put, List.setIfInBounds_toArray, List.set_cons_zero, List.set_cons_succ, i64_w, i32_w]
              rfl
             refine pure_ (i := 8) (N := some 58) (v := undef) (a' := ?_) #[true, true, true, true, true, true, true, true, true, false, false, false] rfl rfl (any_of HT_.out (by kernel_rfl)) (fun _ _ _ h => h) (Or.inr ⟨by rfl, rfl⟩) ?_ ?_
             rotate_left
             ·simp only [Act.put, List.setIfInBounds_toArray, List.set_cons_zero, List.set_cons_succ, i64_w, i32_w]
              rfl
             refine pure_ (i := 9) (N := some 59) (v := undef) (a' := ?_) #[true, true, true, true, true, true, true, true, true, true, false, false] rfl rfl (any_of HT_.out (by kernel_rfl)) (fun _ _ _ h => h) (Or.inr ⟨by rfl, rfl⟩) ?_ ?_
             rotate_left
             ·simp only [Act.put, List.setIfInBounds_toArray, List.set_cons_zero, List.set_cons_succ, i64_w, i32_w]
              rfl
             refine pure_ (i := 10) (N := some 60) (v := undef) (a' := ?_) #[true, true, true, true, true, true, true, true, true, true, true, false] rfl rfl (any_of HT_.out (by kernel_rfl)) (fun _ _ _ h => h) (Or.inr ⟨by rfl, rfl⟩) ?_ ?_
             rotate_left
             ·simp only [Act.put, List.setIfInBounds_toArray, List.set_cons_zero, List.set_cons_succ, i64_w, i32_w]
              rfl
             refine pure_ (i := 11) (N := some 61) (v := ?_) (a' := ?_) #[true, true, true, true, true, true, true, true, true, true, true, true] rfl rfl (any_of HT_.out (by kernel_rfl)) (fun _ _ _ h => h) (Or.inl ⟨by rfl, ?_⟩) ?_ ?_
             rotate_left
             ·intro w'
              go_simp
              first | with_reducible rfl | (rw [if_neg (by omega)])
             rotate_left
             ·simp only [Act.put, List.setIfInBounds_toArray, List.set_cons_zero, List.set_cons_succ, i64_w, i32_w]
              rfl
             refine done_ (done_of HT_.out (by kernel_rfl)) ?_
             try go_wp2
             go_meet
             case rel => exact ⟨_, (false), (by first | rfl | (simp; done) | (simp [*]; done) | (rw [show wrap64 (IntKind.u8.wrap (bt a1 11 - 48)) = (bt a1 11 - 48) % 256 from (by rw [IntKind.wrap_u8]; unfold wrap64; omega)])), H', ⟨by have := HJ2.out; have := HK2.out; have := HJ6.out; first | omega | exact Nat.le_refl _⟩, ⟨by repeat (first | (with_reducible first | exact HB.out | apply below_alloc | apply pw_below_drewN | apply below_drew1) | exact HB.out)⟩⟩
           case rest =>
            clear HC17
            try clear c1
            try clear p1
            try clear q1
            try clear hx1
            try clear c2
            try clear p2
            try clear q2
            try clear hx2
            try clear qi2
            try clear c4
            try clear c4b0
            try clear c5
            try clear p6
            try clear c8
            try clear c8b0
            try clear c9
            try clear c10
            try clear c10b0
            try clear c11
            try clear c11b0
            try clear p12
            try clear q12
            try clear hx12
            try clear c14
            try clear c15
            try clear c15b0
            try clear c16
            try clear c16b0
            try clear c18
            try clear c18b0
            try clear c18b1
            try clear c19
            try clear c19b0
            try clear c19b1
            try clear p20
            try clear q20
            try clear hx20
            try clear qi20
            try clear c21
            try clear c21b0
            try clear c21b1
            try clear c22
            try clear c22b0
            try clear c22b1
            try clear p12
            try clear p2
            try clear p20
            try clear q12
            try clear q20
            obtain ⟨kq, x61_16, rfl, HA, HJ16, HB⟩ := hcut
            cases kq with
            | zero => exact absurd HA.out (by simp [giroref05_Check.j3])
            | succ kj16 =>
             have H := HA.out
             clear HA
             simp only [giroref05_Check.j3] at H
             by_cases c27 : x61_16 = true
             ·subst c27
              have H1 : (some (11, 18)) = some (r1, r2) := by rw [if_pos rfl] at H; exact H
              clear H
              have H := H1
              clear H1
              simp only [Option.some.injEq, Prod.mk.injEq] at H
              obtain ⟨rfl, rfl⟩ := H
              go_wp2
              go_ret2
              exact ⟨by first | rfl | (simp [errW_none, errW_some] <;> rfl) | (simp [*, errW_none, errW_some] <;> rfl), by repeat (first | (with_reducible first | exact HB.out | apply below_alloc | apply pw_below_drewN | apply below_drew1) | exact HB.out)⟩
             ·replace c27 := Bool.eq_false_iff.mpr c27
              subst c27
              have H1 : (if a0 = 3 then (if 18 ≤ (a1.size : Int) then (if 0 ≤ 18 then (if (a1.extract 0 18).size + 2 ≤ 9223372036854775807 then ((giroref05_Mod97.f kj16 ((a1.extract 0 18) ++ (⟨#[48, 48]⟩ : ByteArray))).bind fun t168 => ((giroref05_pair.f (wrap64 (98 - t168))).bind fun t169 => (if (a1.extract 18 a1.size).toList = t169.toList then (some (0, 0)) else (some (18, 18))))) else (none)) else (none)) else (none)) else (some (0, 0))) = some (r1, r2) := by rw [if_neg (show ¬ (false = true) by decide)] at H; exact H
              clear H
              have H := H1
              clear H1
              by_cases c28 : a0 = 3
              ·rw [if_pos c28] at H
               have c28b0 : (a0 == 3) = true := beq_iff_eq.mpr c28
               have c28b1 : (a0 != 3) = false := bne_eq_false_iff_eq.mpr c28
               clear c28
               by_cases c29 : 18 ≤ (a1.size : Int)
               ·rw [if_pos c29] at H
                have c29b0 := eq_true c29
                have c29b1 : decide (18 ≤ (a1.size : Int)) = true := decide_eq_true c29
                clear c29
                by_cases c30 : 0 ≤ 18
                ·rw [if_pos c30] at H
                 have c30b0 := eq_true c30
                 have c30b1 : decide (0 ≤ 18) = true := decide_eq_true c30
                 clear c30
                 have c31b0 := eq_true (of_decide_eq_true (by first | (with_reducible assumption) | assumption) : 18 ≤ (a1.size : Int))
                 by_cases c32 : (a1.extract 0 18).size + 2 ≤ 9223372036854775807
                 ·rw [if_pos c32] at H
                  have c32b0 := eq_true c32
                  have c32b1 : decide ((a1.extract 0 18).size + 2 ≤ 9223372036854775807) = true := decide_eq_true c32
                  try have c32b2 : (9223372036854775807 < (a1.extract 0 18).size + 2) = False := eq_false (Nat.not_lt.2 c32)
                  replace H := Option.bind_eq_some_iff.mp H
                  obtain ⟨t168, A330, H⟩ := H
                  replace H : ((giroref05_pair.f (wrap64 (98 - t168))).bind fun t169 => (if (a1.extract 18 a1.size).toList = t169.toList then (some (0, 0)) else (some (18, 18)))) = some (r1, r2) := H
                  have A33 := Aside0.mk A330
                  clear A330
                  replace H := Option.bind_eq_some_iff.mp H
                  obtain ⟨t169, A340, H⟩ := H
                  replace H : (if (a1.extract 18 a1.size).toList = t169.toList then (some (0, 0)) else (some (18, 18))) = some (r1, r2) := H
                  have A34 := Aside0.mk A340
                  clear A340
                  by_cases c35 : (a1.extract 18 a1.size).toList = t169.toList
                  ·rw [if_pos c35] at H
                   have c35b0 : ((a1.extract 18 a1.size).toList == t169.toList) = true := beq_iff_eq.mpr c35
                   have c35b1 : ((a1.extract 18 a1.size).toList != t169.toList) = false := bne_eq_false_iff_eq.mpr c35
                   clear c35
                   simp only [Option.some.injEq, Prod.mk.injEq] at H
                   obtain ⟨rfl, rfl⟩ := H
                   try go_wp2
                   have n0_ := Aside0.mk (below_drew1 HB.out)
                   clear HB
                   have HB := n0_
                   clear n0_
                   refine start_ (n := 13) (S := fun w' => True) (ds := []) #[false, false, false, false, false, false, false, false, false, false, false, false, false] (by kernel_rfl) rfl rfl trivial (fun hHeld => ?_); refine with_tabW giroref05_Check.tab15 giroref05_Check.bits15 (fun HT_ HW_ => ?_)
                   generalize wc.drew = w36 at HB hHeld ⊢
                   refine pure_ (i := 0) (N := some 62) (v := ?_) (a' := ?_) #[true, false, false, false, false, false, false, false, false, false, false, false, false] rfl rfl (any_of HT_.out (by kernel_rfl)) (fun _ _ _ h => h) (Or.inl ⟨by rfl, ?_⟩) ?_ ?_
                   rotate_left
                   ·intro w'
                    go_simp
                    first | with_reducible rfl | (rw [if_neg (by omega)])
                   rotate_left
                   ·simp only [Act.put, List.setIfInBounds_toArray, List.set_cons_zero, List.set_cons_succ, i64_w, i32_w]
                    rfl
                   refine pure_ (i := 1) (N := some 63) (v := ?_) (a' := ?_) #[true, true, false, false, false, false, false, false, false, false, false, false, false] rfl rfl (any_of HT_.out (by kernel_rfl)) (fun _ _ _ h => h) (Or.inl ⟨by rfl, ?_⟩) ?_ ?_
                   rotate_left
                   ·intro w'
                    go_simp
                    first | with_reducible rfl | (rw [if_neg (by omega)])
                   rotate_left
                   ·simp only [Act.put, List.setIfInBounds_toArray, List.set_cons_zero, List.set_cons_succ, i64_w, i32_w]
                    rfl
                   refine pure_ (i := 2) (N := some 64) (v := ?_) (a' := ?_) #[true, true, true, false, false, false, false, false, false, false, false, false, false] rfl rfl (any_of HT_.out (by kernel_rfl)) (fun _ _ _ h => h) (Or.inl ⟨by rfl, ?_⟩) ?_ ?_
                   rotate_left
                   ·intro w'
                    go_simp
                    first | with_reducible rfl | (rw [if_neg (by omega)])
                   rotate_left
                   ·simp only [Act.put, List.setIfInBounds_toArray, List.set_cons_zero, List.set_cons_succ, i64_w, i32_w]
                    rfl
                   refine pure_ (i := 3) (N := some 65) (v := ?_) (a' := ?_) #[true, true, true, true, false, false, false, false, false, false, false, false, false] rfl rfl (any_of HT_.out (by kernel_rfl)) (fun _ _ _ h => h) (Or.inl ⟨by rfl, ?_⟩) ?_ ?_
                   rotate_left
                   ·intro w'
                    go_simp
                    first | with_reducible rfl | (rw [if_neg (by omega)])
                   rotate_left
                   ·simp only [Act.put, List.setIfInBounds_toArray, List.set_cons_zero, List.set_cons_succ, i64_w, i32_w]
                    rfl
                   refine pure_ (i := 4) (N := some 66) (v := ?_) (a' := ?_) #[true, true, true, true, true, false, false, false, false, false, false, false, false] rfl rfl (any_of HT_.out (by kernel_rfl)) (fun _ _ _ h => h) (Or.inl ⟨by rfl, ?_⟩) ?_ ?_
                   rotate_left
                   ·intro w'
                    go_simp
                    first | with_reducible rfl | (rw [if_neg (by omega)])
                   rotate_left
                   ·simp only [Act.put, List.setIfInBounds_toArray, List.set_cons_zero, List.set_cons_succ, i64_w, i32_w]
                    rfl
                   refine pure_ (i := 5) (N := some 67) (v := ?_) (a' := ?_) #[true, true, true, true, true, true, false, false, false, false, false, false, false] rfl rfl (any_of HT_.out (by kernel_rfl)) (fun _ _ _ h => h) (Or.inl ⟨by rfl, ?_⟩) ?_ ?_
                   rotate_left
                   ·intro w'
                    go_simp
                    first | with_reducible rfl | (rw [if_neg (by omega)])
                   rotate_left
                   ·simp only [Act.put, List.setIfInBounds_toArray, List.set_cons_zero, List.set_cons_succ, i64_w, i32_w]
                    rfl
                   refine pure_ (i := 6) (N := some 68) (v := ?_) (a' := ?_) #[true, true, true, true, true, true, true, false, false, false, false, false, false] rfl rfl (any_of HT_.out (by kernel_rfl)) (fun _ _ _ h => h) (Or.inl ⟨by rfl, ?_⟩) ?_ ?_
                   rotate_left
                   ·intro w'
                    go_simp
                    first | with_reducible rfl | (rw [if_neg (by omega)])
                   rotate_left
                   ·simp only [Act.put, List.setIfInBounds_toArray, List.set_cons_zero, List.set_cons_succ, i64_w, i32_w]
                    rfl
                   refine pure_ (i := 7) (N := some 69) (v := ?_) (a' := ?_) #[true, true, true, true, true, true, true, true, false, false, false, false, false] rfl rfl (any_of HT_.out (by kernel_rfl)) (fun _ _ _ h => h) (Or.inl ⟨by rfl, ?_⟩) ?_ ?_
                   rotate_left
                   ·intro w'
                    go_simp
                    first | with_reducible rfl | (rw [if_neg (by omega)])
                   rotate_left
                   ·simp only [Act.put, List.setIfInBounds_toArray, List.set_cons_zero, List.set_cons_succ, i64_w, i32_w]
                    rfl
                   refine one_ (i := 8) (N := some 70) #[true, true, true, true, true, true, true, true, true, false, false, false, false] rfl rfl (one_of HT_.out (by kernel_rfl)) (by decide) (fun K hK => ?_)
                   refine goes_ Tryd.func60 (by kernel_rfl) rfl #[.string ((a1.extract 0 18) ++ (⟨#[48, 48]⟩ : ByteArray))] (by rfl) rfl rfl (by (try simp only [List.map_toArray, List.map_cons, List.map_nil]); first | done | rfl | (simp only [List.length_drop, List.length_take]; rfl)) ?_
                   with_reducible refine (giroref05_Mod97.calls kj16 ((a1.extract 0 18) ++ (⟨#[48, 48]⟩ : ByteArray)) t168 _ A33.out).mono ?_
                   rintro e w37 ⟨rfl, hb⟩
                   refine ⟨_, rfl, ?_⟩
                   have n0_ := Aside0.mk (below_step (by repeat (first | (with_reducible first | exact HB.out | apply below_alloc | apply pw_below_drewN | apply below_drew1) | exact HB.out)) hb)
                   clear HB
                   have HB := n0_
                   clear n0_
                   (try clear hb)
                   (try clear hb2)
                   (try clear hk)
                   (try clear hi)
                   refine hK.out _ _ trivial (fun hHeld => ?_)
                   clear hK K
                   refine norm_ (a' := ?_) ?_ ?_
                   rotate_left
                   ·show Act.put _ (some 70) _ = _
                    simp only [Act.put, List.setIfInBounds_toArray, List.set_cons_zero, List.set_cons_succ, i64_w, i32_w]
                    rfl
                   refine pure_ (i := 9) (N := some 71) (v := ?_) (a' := ?_) #[true, true, true, true, true, true, true, true, true, true, false, false, false] rfl rfl (any_of HT_.out (by kernel_rfl)) (fun _ _ _ h => h) (Or.inl ⟨by rfl, ?_⟩) ?_ ?_
                   rotate_left
                   ·intro w'
                    go_simp
                    first | with_reducible rfl | (rw [if_neg (by omega)])
                   rotate_left
                   ·simp only [Act.put, List.setIfInBounds_toArray, List.set_cons_zero, List.set_cons_succ, i64_w, i32_w]
                    rfl
                   refine one_ (i := 10) (N := some 72) #[true, true, true, true, true, true, true, true, true, true, true, false, false] rfl rfl (one_of HT_.out (by kernel_rfl)) (by decide) (fun K hK => ?_)
                   refine goes_ Tryd.func59 (by kernel_rfl) rfl #[.int .i64 (wrap64 (98 - t168))] (by rfl) rfl rfl (by (try simp only [List.map_toArray, List.map_cons, List.map_nil]); first | done | rfl | (simp only [List.length_drop, List.length_take]; rfl)) ?_
                   with_reducible refine (giroref05_pair.calls (wrap64 (98 - t168)) t169 _ A34.out).mono ?_
                   rintro e w38 ⟨rfl, hb⟩
                   refine ⟨_, rfl, ?_⟩
                   have n0_ := Aside0.mk (below_step (by repeat (first | (with_reducible first | exact HB.out | apply below_alloc | apply pw_below_drewN | apply below_drew1) | exact HB.out)) hb)
                   clear HB
                   have HB := n0_
                   clear n0_
                   (try clear hb)
                   (try clear hb2)
                   (try clear hk)
                   (try clear hi)
                   refine hK.out _ _ trivial (fun hHeld => ?_)
                   clear hK K
                   refine norm_ (a' := ?_) ?_ ?_
                   rotate_left
                   ·show Act.put _ (some 72) _ = _
                    simp only [Act.put, List.setIfInBounds_toArray, List.set_cons_zero, List.set_cons_succ, i64_w, i32_w]
                    rfl
                   refine pure_ (i := 11) (N := some 73) (v := ?_) (a' := ?_) #[true, true, true, true, true, true, true, true, true, true, true, true, false] rfl rfl (any_of HT_.out (by kernel_rfl)) (fun _ _ _ h => h) (Or.inl ⟨by rfl, ?_⟩) ?_ ?_
                   rotate_left
                   ·intro w'
                    go_simp
                    first | with_reducible rfl | (rw [if_neg (by omega)])
                   rotate_left
                   ·simp only [Act.put, List.setIfInBounds_toArray, List.set_cons_zero, List.set_cons_succ, i64_w, i32_w]
                    rfl
                   refine pure_ (i := 12) (N := some 74) (v := ?_) (a' := ?_) #[true, true, true, true, true, true, true, true, true, true, true, true, true] rfl rfl (any_of HT_.out (by kernel_rfl)) (fun _ _ _ h => h) (Or.inl ⟨by rfl, ?_⟩) ?_ ?_
                   rotate_left
                   ·intro w'
                    go_simp
                    first | with_reducible rfl | (rw [if_neg (by omega)])
                   rotate_left
                   ·simp only [Act.put, List.setIfInBounds_toArray, List.set_cons_zero, List.set_cons_succ, i64_w, i32_w]
                    rfl
                   refine done_ (done_of HT_.out (by kernel_rfl)) ?_
                   try go_wp2
                   go_ret2
                   exact ⟨by first | rfl | (simp [errW_none, errW_some] <;> rfl) | (simp [*, errW_none, errW_some] <;> rfl), by repeat (first | (with_reducible first | exact HB.out | apply below_alloc | apply pw_below_drewN | apply below_drew1) | exact HB.out)⟩
                  ·rw [if_neg c35] at H
                   have c35b0 : ((a1.extract 18 a1.size).toList == t169.toList) = false := beq_eq_false_iff_ne.mpr c35
                   have c35b1 : ((a1.extract 18 a1.size).toList != t169.toList) = true := bne_iff_ne.mpr c35
                   simp only [Option.some.injEq, Prod.mk.injEq] at H
                   obtain ⟨rfl, rfl⟩ := H
                   try go_wp2
                   have n0_ := Aside0.mk (below_drew1 HB.out)
                   clear HB
                   have HB := n0_
                   clear n0_
                   refine start_ (n := 13) (S := fun w' => True) (ds := []) #[false, false, false, false, false, false, false, false, false, false, false, false, false] (by kernel_rfl) rfl rfl trivial (fun hHeld => ?_); refine with_tabW giroref05_Check.tab15 giroref05_Check.bits15 (fun HT_ HW_ => ?_)
                   generalize wc.drew = w39 at HB hHeld ⊢
                   refine pure_ (i := 0) (N := some 62) (v := ?_) (a' := ?_) #[true, false, false, false, false, false, false, false, false, false, false, false, false] rfl rfl (any_of HT_.out (by kernel_rfl)) (fun _ _ _ h => h) (Or.inl ⟨by rfl, ?_⟩) ?_ ?_
                   rotate_left
                   ·intro w'
                    go_simp
                    first | with_reducible rfl | (rw [if_neg (by omega)])
                   rotate_left
                   ·simp only [Act.put, List.setIfInBounds_toArray, List.set_cons_zero, List.set_cons_succ, i64_w, i32_w]
                    rfl
                   refine pure_ (i := 1) (N := some 63) (v := ?_) (a' := ?_) #[true, true, false, false, false, false, false, false, false, false, false, false, false] rfl rfl (any_of HT_.out (by kernel_rfl)) (fun _ _ _ h => h) (Or.inl ⟨by rfl, ?_⟩) ?_ ?_
                   rotate_left
                   ·intro w'
                    go_simp
                    first | with_reducible rfl | (rw [if_neg (by omega)])
                   rotate_left
                   ·simp only [Act.put, List.setIfInBounds_toArray, List.set_cons_zero, List.set_cons_succ, i64_w, i32_w]
                    rfl
                   refine pure_ (i := 2) (N := some 64) (v := ?_) (a' := ?_) #[true, true, true, false, false, false, false, false, false, false, false, false, false] rfl rfl (any_of HT_.out (by kernel_rfl)) (fun _ _ _ h => h) (Or.inl ⟨by rfl, ?_⟩) ?_ ?_
                   rotate_left
                   ·intro w'
                    go_simp
                    first | with_reducible rfl | (rw [if_neg (by omega)])
                   rotate_left
                   ·simp only [Act.put, List.setIfInBounds_toArray, List.set_cons_zero, List.set_cons_succ, i64_w, i32_w]
                    rfl
                   refine pure_ (i := 3) (N := some 65) (v := ?_) (a' := ?_) #[true, true, true, true, false, false, false, false, false, false, false, false, false] rfl rfl (any_of HT_.out (by kernel_rfl)) (fun _ _ _ h => h) (Or.inl ⟨by rfl, ?_⟩) ?_ ?_
                   rotate_left
                   ·intro w'
                    go_simp
                    first | with_reducible rfl | (rw [if_neg (by omega)])
                   rotate_left
                   ·simp only [Act.put, List.setIfInBounds_toArray, List.set_cons_zero, List.set_cons_succ, i64_w, i32_w]
                    rfl
                   refine pure_ (i := 4) (N := some 66) (v := ?_) (a' := ?_) #[true, true, true, true, true, false, false, false, false, false, false, false, false] rfl rfl (any_of HT_.out (by kernel_rfl)) (fun _ _ _ h => h) (Or.inl ⟨by rfl, ?_⟩) ?_ ?_
                   rotate_left
                   ·intro w'
                    go_simp
                    first | with_reducible rfl | (rw [if_neg (by omega)])
                   rotate_left
                   ·simp only [Act.put, List.setIfInBounds_toArray, List.set_cons_zero, List.set_cons_succ, i64_w, i32_w]
                    rfl
                   refine pure_ (i := 5) (N := some 67) (v := ?_) (a' := ?_) #[true, true, true, true, true, true, false, false, false, false, false, false, false] rfl rfl (any_of HT_.out (by kernel_rfl)) (fun _ _ _ h => h) (Or.inl ⟨by rfl, ?_⟩) ?_ ?_
                   rotate_left
                   ·intro w'
                    go_simp
                    first | with_reducible rfl | (rw [if_neg (by omega)])
                   rotate_left
                   ·simp only [Act.put, List.setIfInBounds_toArray, List.set_cons_zero, List.set_cons_succ, i64_w, i32_w]
                    rfl
                   refine pure_ (i := 6) (N := some 68) (v := ?_) (a' := ?_) #[true, true, true, true, true, true, true, false, false, false, false, false, false] rfl rfl (any_of HT_.out (by kernel_rfl)) (fun _ _ _ h => h) (Or.inl ⟨by rfl, ?_⟩) ?_ ?_
                   rotate_left
                   ·intro w'
                    go_simp
                    first | with_reducible rfl | (rw [if_neg (by omega)])
                   rotate_left
                   ·simp only [Act.put, List.setIfInBounds_toArray, List.set_cons_zero, List.set_cons_succ, i64_w, i32_w]
                    rfl
                   refine pure_ (i := 7) (N := some 69) (v := ?_) (a' := ?_) #[true, true, true, true, true, true, true, true, false, false, false, false, false] rfl rfl (any_of HT_.out (by kernel_rfl)) (fun _ _ _ h => h) (Or.inl ⟨by rfl, ?_⟩) ?_ ?_
                   rotate_left
                   ·intro w'
                    go_simp
                    first | with_reducible rfl | (rw [if_neg (by omega)])
                   rotate_left
                   ·simp only [Act.put, List.setIfInBounds_toArray, List.set_cons_zero, List.set_cons_succ, i64_w, i32_w]
                    rfl
                   refine one_ (i := 8) (N := some 70) #[true, true, true, true, true, true, true, true, true, false, false, false, false] rfl rfl (one_of HT_.out (by kernel_rfl)) (by decide) (fun K hK => ?_)
                   refine goes_ Tryd.func60 (by kernel_rfl) rfl #[.string ((a1.extract 0 18) ++ (⟨#[48, 48]⟩ : ByteArray))] (by rfl) rfl rfl (by (try simp only [List.map_toArray, List.map_cons, List.map_nil]); first | done | rfl | (simp only [List.length_drop, List.length_take]; rfl)) ?_
                   with_reducible refine (giroref05_Mod97.calls kj16 ((a1.extract 0 18) ++ (⟨#[48, 48]⟩ : ByteArray)) t168 _ A33.out).mono ?_
                   rintro e w40 ⟨rfl, hb⟩
                   refine ⟨_, rfl, ?_⟩
                   have n0_ := Aside0.mk (below_step (by repeat (first | (with_reducible first | exact HB.out | apply below_alloc | apply pw_below_drewN | apply below_drew1) | exact HB.out)) hb)
                   clear HB
                   have HB := n0_
                   clear n0_
                   (try clear hb)
                   (try clear hb2)
                   (try clear hk)
                   (try clear hi)
                   refine hK.out _ _ trivial (fun hHeld => ?_)
                   clear hK K
                   refine norm_ (a' := ?_) ?_ ?_
                   rotate_left
                   ·show Act.put _ (some 70) _ = _
                    simp only [Act.put, List.setIfInBounds_toArray, List.set_cons_zero, List.set_cons_succ, i64_w, i32_w]
                    rfl
                   refine pure_ (i := 9) (N := some 71) (v := ?_) (a' := ?_) #[true, true, true, true, true, true, true, true, true, true, false, false, false] rfl rfl (any_of HT_.out (by kernel_rfl)) (fun _ _ _ h => h) (Or.inl ⟨by rfl, ?_⟩) ?_ ?_
                   rotate_left
                   ·intro w'
                    go_simp
                    first | with_reducible rfl | (rw [if_neg (by omega)])
                   rotate_left
                   ·simp only [Act.put, List.setIfInBounds_toArray, List.set_cons_zero, List.set_cons_succ, i64_w, i32_w]
                    rfl
                   refine one_ (i := 10) (N := some 72) #[true, true, true, true, true, true, true, true, true, true, true, false, false] rfl rfl (one_of HT_.out (by kernel_rfl)) (by decide) (fun K hK => ?_)
                   refine goes_ Tryd.func59 (by kernel_rfl) rfl #[.int .i64 (wrap64 (98 - t168))] (by rfl) rfl rfl (by (try simp only [List.map_toArray, List.map_cons, List.map_nil]); first | done | rfl | (simp only [List.length_drop, List.length_take]; rfl)) ?_
                   with_reducible refine (giroref05_pair.calls (wrap64 (98 - t168)) t169 _ A34.out).mono ?_
                   rintro e w41 ⟨rfl, hb⟩
                   refine ⟨_, rfl, ?_⟩
                   have n0_ := Aside0.mk (below_step (by repeat (first | (with_reducible first | exact HB.out | apply below_alloc | apply pw_below_drewN | apply below_drew1) | exact HB.out)) hb)
                   clear HB
                   have HB := n0_
                   clear n0_
                   (try clear hb)
                   (try clear hb2)
                   (try clear hk)
                   (try clear hi)
                   refine hK.out _ _ trivial (fun hHeld => ?_)
                   clear hK K
                   refine norm_ (a' := ?_) ?_ ?_
                   rotate_left
                   ·show Act.put _ (some 72) _ = _
                    simp only [Act.put, List.setIfInBounds_toArray, List.set_cons_zero, List.set_cons_succ, i64_w, i32_w]
                    rfl
                   refine pure_ (i := 11) (N := some 73) (v := ?_) (a' := ?_) #[true, true, true, true, true, true, true, true, true, true, true, true, false] rfl rfl (any_of HT_.out (by kernel_rfl)) (fun _ _ _ h => h) (Or.inl ⟨by rfl, ?_⟩) ?_ ?_
                   rotate_left
                   ·intro w'
                    go_simp
                    first | with_reducible rfl | (rw [if_neg (by omega)])
                   rotate_left
                   ·simp only [Act.put, List.setIfInBounds_toArray, List.set_cons_zero, List.set_cons_succ, i64_w, i32_w]
                    rfl
                   refine pure_ (i := 12) (N := some 74) (v := ?_) (a' := ?_) #[true, true, true, true, true, true, true, true, true, true, true, true, true] rfl rfl (any_of HT_.out (by kernel_rfl)) (fun _ _ _ h => h) (Or.inl ⟨by rfl, ?_⟩) ?_ ?_
                   rotate_left
                   ·intro w'
                    go_simp
                    first | with_reducible rfl | (rw [if_neg (by omega)])
                   rotate_left
                   ·simp only [Act.put, List.setIfInBounds_toArray, List.set_cons_zero, List.set_cons_succ, i64_w, i32_w]
                    rfl
                   refine done_ (done_of HT_.out (by kernel_rfl)) ?_
                   try go_wp2
                   go_ret2
                   exact ⟨by first | rfl | (simp [errW_none, errW_some] <;> rfl) | (simp [*, errW_none, errW_some] <;> rfl), by repeat (first | (with_reducible first | exact HB.out | apply below_alloc | apply pw_below_drewN | apply below_drew1) | exact HB.out)⟩
                 ·rw [if_neg c32] at H
                  exact absurd H (by simp)
                ·rw [if_neg c30] at H
                 exact absurd H (by simp)
               ·rw [if_neg c29] at H
                exact absurd H (by simp)
              ·rw [if_neg c28] at H
               have c28b0 : (a0 == 3) = false := beq_eq_false_iff_ne.mpr c28
               have c28b1 : (a0 != 3) = true := bne_iff_ne.mpr c28
               simp only [Option.some.injEq, Prod.mk.injEq] at H
               obtain ⟨rfl, rfl⟩ := H
               try go_wp2
               have n0_ := Aside0.mk (below_drew1 HB.out)
               clear HB
               have HB := n0_
               clear n0_
               refine start_ (n := 13) (S := fun w' => True) (ds := []) #[false, false, false, false, false, false, false, false, false, false, false, false, false] (by kernel_rfl) rfl rfl trivial (fun hHeld => ?_); refine with_tabW giroref05_Check.tab15 giroref05_Check.bits15 (fun HT_ HW_ => ?_)
               generalize wc.drew = w42 at HB hHeld ⊢
               refine pure_ (i := 0) (N := some 62) (v := ?_) (a' := ?_) #[true, false, false, false, false, false, false, false, false, false, false, false, false] rfl rfl (any_of HT_.out (by kernel_rfl)) (fun _ _ _ h => h) (Or.inl ⟨by rfl, ?_⟩) ?_ ?_
               rotate_left
               ·intro w'
                go_simp
                first | with_reducible rfl | (rw [if_neg (by omega)])
               rotate_left
               ·simp only [Act.put, List.setIfInBounds_toArray, List.set_cons_zero, List.set_cons_succ, i64_w, i32_w]
                rfl
               refine pure_ (i := 1) (N := some 63) (v := ?_) (a' := ?_) #[true, true, false, false, false, false, false, false, false, false, false, false, false] rfl rfl (any_of HT_.out (by kernel_rfl)) (fun _ _ _ h => h) (Or.inl ⟨by rfl, ?_⟩) ?_ ?_
               rotate_left
               ·intro w'
                go_simp
                first | with_reducible rfl | (rw [if_neg (by omega)])
               rotate_left
               ·simp only [Act.put, List.setIfInBounds_toArray, List.set_cons_zero, List.set_cons_succ, i64_w, i32_w]
                rfl
               refine pure_ (i := 2) (N := some 64) (v := ?_) (a' := ?_) #[true, true, true, false, false, false, false, false, false, false, false, false, false] rfl rfl (any_of HT_.out (by kernel_rfl)) (fun _ _ _ h => h) (Or.inl ⟨by rfl, ?_⟩) ?_ ?_
               rotate_left
               ·intro w'
                go_simp
                first | with_reducible rfl | (rw [if_neg (by omega)])
               rotate_left
               ·simp only [Act.put, List.setIfInBounds_toArray, List.set_cons_zero, List.set_cons_succ, i64_w, i32_w]
                rfl
               refine pure_ (i := 3) (N := some 65) (v := undef) (a' := ?_) #[true, true, true, true, false, false, false, false, false, false, false, false, false] rfl rfl (any_of HT_.out (by kernel_rfl)) (fun _ _ _ h => h) (Or.inr ⟨by rfl, rfl⟩) ?_ ?_
               rotate_left
               ·simp only [Act.put, List.setIfInBounds_toArray, List.set_cons_zero, List.set_cons_succ, i64_w, i32_w]
                rfl
               refine pure_ (i := 4) (N := some 66) (v := undef) (a' := ?_) #[true, true, true, true, true, false, false, false, false, false, false, false, false] rfl rfl (any_of HT_.out (by kernel_rfl)) (fun _ _ _ h => h) (Or.inr ⟨by rfl, rfl⟩) ?_ ?_
               rotate_left
               ·simp only [Act.put, List.setIfInBounds_toArray, List.set_cons_zero, List.set_cons_succ, i64_w, i32_w]
                rfl
               refine pure_ (i := 5) (N := some 67) (v := undef) (a' := ?_) #[true, true, true, true, true, true, false, false, false, false, false, false, false] rfl rfl (any_of HT_.out (by kernel_rfl)) (fun _ _ _ h => h) (Or.inr ⟨by rfl, rfl⟩) ?_ ?_
               rotate_left
               ·simp only [Act.put, List.setIfInBounds_toArray, List.set_cons_zero, List.set_cons_succ, i64_w, i32_w]
                rfl
               refine pure_ (i := 6) (N := some 68) (v := undef) (a' := ?_) #[true, true, true, true, true, true, true, false, false, false, false, false, false] rfl rfl (any_of HT_.out (by kernel_rfl)) (fun _ _ _ h => h) (Or.inr ⟨by rfl, rfl⟩) ?_ ?_
               rotate_left
               ·simp only [Act.put, List.setIfInBounds_toArray, List.set_cons_zero, List.set_cons_succ, i64_w, i32_w]
                rfl
               refine pure_ (i := 7) (N := some 69) (v := undef) (a' := ?_) #[true, true, true, true, true, true, true, true, false, false, false, false, false] rfl rfl (any_of HT_.out (by kernel_rfl)) (fun _ _ _ h => h) (Or.inr ⟨by rfl, rfl⟩) ?_ ?_
               rotate_left
               ·simp only [Act.put, List.setIfInBounds_toArray, List.set_cons_zero, List.set_cons_succ, i64_w, i32_w]
                rfl
               refine pure_ (i := 8) (N := some 70) (v := undef) (a' := ?_) #[true, true, true, true, true, true, true, true, true, false, false, false, false] rfl rfl (any_of HT_.out (by kernel_rfl)) (fun _ _ _ h => h) (Or.inr ⟨by rfl, rfl⟩) ?_ ?_
               rotate_left
               ·simp only [Act.put, List.setIfInBounds_toArray, List.set_cons_zero, List.set_cons_succ, i64_w, i32_w]
                rfl
               refine pure_ (i := 9) (N := some 71) (v := undef) (a' := ?_) #[true, true, true, true, true, true, true, true, true, true, false, false, false] rfl rfl (any_of HT_.out (by kernel_rfl)) (fun _ _ _ h => h) (Or.inr ⟨by rfl, rfl⟩) ?_ ?_
               rotate_left
               ·simp only [Act.put, List.setIfInBounds_toArray, List.set_cons_zero, List.set_cons_succ, i64_w, i32_w]
                rfl
               refine pure_ (i := 10) (N := some 72) (v := undef) (a' := ?_) #[true, true, true, true, true, true, true, true, true, true, true, false, false] rfl rfl (any_of HT_.out (by kernel_rfl)) (fun _ _ _ h => h) (Or.inr ⟨by rfl, rfl⟩) ?_ ?_
               rotate_left
               ·simp only [Act.put, List.setIfInBounds_toArray, List.set_cons_zero, List.set_cons_succ, i64_w, i32_w]
                rfl
               refine pure_ (i := 11) (N := some 73) (v := undef) (a' := ?_) #[true, true, true, true, true, true, true, true, true, true, true, true, false] rfl rfl (any_of HT_.out (by kernel_rfl)) (fun _ _ _ h => h) (Or.inr ⟨by rfl, rfl⟩) ?_ ?_
               rotate_left
               ·simp only [Act.put, List.setIfInBounds_toArray, List.set_cons_zero, List.set_cons_succ, i64_w, i32_w]
                rfl
               refine pure_ (i := 12) (N := some 74) (v := ?_) (a' := ?_) #[true, true, true, true, true, true, true, true, true, true, true, true, true] rfl rfl (any_of HT_.out (by kernel_rfl)) (fun _ _ _ h => h) (Or.inl ⟨by rfl, ?_⟩) ?_ ?_
               rotate_left
               ·intro w'
                go_simp
                first | with_reducible rfl | (rw [if_neg (by omega)])
               rotate_left
               ·simp only [Act.put, List.setIfInBounds_toArray, List.set_cons_zero, List.set_cons_succ, i64_w, i32_w]
                rfl
               refine done_ (done_of HT_.out (by kernel_rfl)) ?_
               try go_wp2
               go_ret2
               exact ⟨by first | rfl | (simp [errW_none, errW_some] <;> rfl) | (simp [*, errW_none, errW_some] <;> rfl), by repeat (first | (with_reducible first | exact HB.out | apply below_alloc | apply pw_below_drewN | apply below_drew1) | exact HB.out)⟩
end Go.Proofs.YtpclapnmiacfpaaDoor.Q
end
section
namespace Go.Proofs.YtpclapnmiacfpaaDoor.Q
open Go.RowKit Go.Proofs.YtpclapnmiacfpaaDoorW.PrintWords Go.Proofs.YtpclapnmiacfpaaDoorW.PrintLast Go.Proofs.YtpclapnmiacfpaaDoorW.PrintMore
attribute [local go_sem] max2_int min2_int max_two min_two max_three min_three max_four min_four
set_option linter.unusedVariables false
set_option linter.unusedSimpArgs false
def giroref23_valid.f (k : Nat) (a0 : Int) (a1 : ByteArray) : Option (Bool) := (giroref05_Check.f k a0 a1).bind fun bt170 => (some (bt170.2 == 0))
theorem giroref23_valid.mono : ∀ a0 a1 k, LeO (giroref23_valid.f k a0 a1) (giroref23_valid.f (k + 1) a0 a1) := by
 intro a0 a1 k
 unfold giroref23_valid.f
 repeat' first
   | (with_reducible exact giroref05_Check.mono _ _ _)
   | (with_reducible exact LeO.refl _)
   | (with_reducible exact LeO.none _)
   | (with_reducible refine LeO.ite ?_ ?_)
   | (with_reducible refine LeO.bind ?_ (fun _ => ?_))
   | exact giroref05_Check.mono _ _ _
   | exact LeO.none _
   | refine LeO.ite ?_ ?_
   | refine LeO.bind ?_ (fun _ => ?_)
set_option maxHeartbeats 8000000 in
set_option maxRecDepth 100000 in
theorem giroref23_valid.calls (k : Nat) (a0 : Int) (a1 : ByteArray) (r : Bool) (w : World) (h : giroref23_valid.f k a0 a1 = some r) :
  Calls Tryd.prog 25 #[.int .i64 a0, .string a1] w fun e w' => e = .returned (.bool r) ∧ Below w.heap.size w w' := by
 have HB := Aside0.mk (Below.refl w.heap.size w)
 have H : ((giroref05_Check.f k a0 a1).bind fun bt170 => (some (bt170.2 == 0))) = some r := h
 clear h
 replace H := Option.bind_eq_some_iff.mp H
 obtain ⟨⟨t170, t171⟩, A30, H⟩ := H
 replace H : (some (t171 == 0)) = some r := H
 have A3 := Aside0.mk A30
 clear A30
 obtain rfl := Option.some.inj H
 go_enter Tryd.func25, Tryd.ntmps25
 go_wp2_with (first | ((with_reducible refine gate_callee (f := 43) rfl ?_); refine goesL_ (some 10) rfl rfl Tryd.func43 (by kernel_rfl) rfl #[.int .i64 a0, .string a1] rfl (by (try simp only [List.map_toArray, List.map_cons, List.map_nil]); first | done | rfl | (simp only [List.length_drop, List.length_take]; rfl)) ?_; (with_reducible refine (giroref05_Check.calls k a0 a1 t170 t171 _ A3.out).mono ?_); rintro e w4 ⟨rfl, hb⟩; refine ⟨_, rfl, ?_⟩; have n0_ := Aside0.mk (below_step (by repeat (first | (with_reducible first | exact HB.out | apply below_alloc | apply pw_below_drewN | apply below_drew1) | exact HB.out)) hb); clear HB; have HB := n0_; clear n0_; (try clear hb); (try clear hb2); (try clear hk); (try clear hi)))
 go_ret
 exact ⟨by first | rfl | (simp [errW_none, errW_some] <;> rfl) | (simp [*, errW_none, errW_some] <;> rfl), by repeat (first | (with_reducible first | exact HB.out | apply below_alloc | apply pw_below_drewN | apply below_drew1) | exact HB.out)⟩
end Go.Proofs.YtpclapnmiacfpaaDoor.Q
end
section
set_option linter.unusedVariables false
namespace Go.Proofs.YtpclapnmiacfpaaDoor.Q
open Go.RowKit Go.Proofs.YtpclapnmiacfpaaDoorW.PrintWords Go.Proofs.YtpclapnmiacfpaaDoorW.PrintLast Go.Proofs.YtpclapnmiacfpaaDoorW.PrintMore
open Hand (upC dgC anC rfC prOf spanL idG idS idv luE luS luV luC expL expC expB DigB ChkTo)
theorem letter_f (a : Int) : giroref05_letter.f a = some (upC a) := by
  unfold giroref05_letter.f upC
  by_cases h : 65 ≤ a
  · rw [if_pos h]; simp [h]
  · rw [if_neg h]; simp [h]
theorem digit_f (a : Int) : giroref05_digit.f a = some (dgC a) := by
  unfold giroref05_digit.f dgC
  by_cases h : 48 ≤ a
  · rw [if_pos h]; simp [h]
  · rw [if_neg h]; simp [h]
theorem gs0 : ∀ i, i < 12 → (spanL (idG 0)).getD i 0 = if i < 2 then 0 else if i < 11 then 1 else 2 := by decide
theorem gs1 : ∀ i, i < 8 → (spanL (idG 1)).getD i 0 = if i < 1 then 0 else 1 := by decide
theorem gs2 : ∀ i, i < 16 → (spanL (idG 2)).getD i 0 = 3 := by decide
theorem may0 (i : Nat) (h : i < 12) (c : Int) : giroref05_may.f 0 i c = some (prOf ((spanL (idG 0)).getD i 0) c) := by
  rw [gs0 i h]
  unfold giroref05_may.f
  rw [if_pos rfl]
  simp only [letter_f, digit_f, Option.bind_some]
  by_cases h2 : i < 2
  · rw [if_pos (show (i : Int) < 2 by omega), if_pos h2, if_neg (show ¬ (i : Int) ≥ 2 by omega), if_neg (show ¬ (i : Int) = 11 by omega)]
    show _ = some (upC c)
    cases upC c <;> rfl
  · rw [if_neg (show ¬ (i : Int) < 2 by omega), if_neg h2, if_pos (show (i : Int) ≥ 2 by omega)]
    by_cases h11 : i < 11
    · rw [if_pos (show (i : Int) < 11 by omega), if_pos h11, if_neg (show ¬ (i : Int) = 11 by omega)]
      show _ = some (anC c)
      unfold anC
      cases upC c <;> cases dgC c <;> rfl
    · rw [if_neg (show ¬ (i : Int) < 11 by omega), if_neg h11, if_pos (show (i : Int) = 11 by omega)]
      rfl
theorem may1 (i : Nat) (h : i < 8) (c : Int) : giroref05_may.f 1 i c = some (prOf ((spanL (idG 1)).getD i 0) c) := by
  rw [gs1 i h]
  unfold giroref05_may.f
  rw [if_neg (by decide), if_pos rfl]
  simp only [letter_f, digit_f, Option.bind_some]
  by_cases h2 : i < 1
  · rw [if_neg (show ¬ (i : Int) > 0 by omega), if_pos h2]
    show _ = some (upC c)
    cases upC c <;> rfl
  · rw [if_pos (show (i : Int) > 0 by omega), if_neg h2]
    show _ = some (anC c)
    unfold anC
    cases upC c <;> rfl
theorem may2 (i : Nat) (h : i < 16) (c : Int) : giroref05_may.f 2 i c = some (prOf ((spanL (idG 2)).getD i 0) c) := by
  rw [gs2 i h]
  unfold giroref05_may.f
  rw [if_neg (by decide), if_neg (by decide), if_pos rfl]
  simp only [letter_f, digit_f, Option.bind_some]
  show _ = some (rfC c)
  unfold rfC anC
  cases upC c <;> cases dgC c <;> rfl
theorem may_q (q : Int) (hq : q = 0 ∨ q = 1 ∨ q = 2) (i : Nat) (h : i < (spanL (idG q)).length) (c : Int) : giroref05_may.f q i c = some (prOf ((spanL (idG q)).getD i 0) c) := by
  rcases hq with rfl | rfl | rfl
  · exact may0 i h c
  · exact may1 i h c
  · exact may2 i h c
def digs (l : List UInt8) : List Int := l.map fun c => (c.toNat : Int) - 48
theorem digs_app (a b : List UInt8) : digs (a ++ b) = digs a ++ digs b := by simp [digs]
theorem bt_get (s : ByteArray) (i : Nat) (h : i < s.size) : bt s (i : Int) = (s[i].toNat : Int) := by
  unfold bt; rw [dif_pos (by simpa using h)]; rfl
theorem digs_expC (c : UInt8) (h : anC c.toNat = true) : digs (expC c) = if dgC c.toNat then [((c.toNat : Int) - 48) % 256] else [((((c.toNat : Int) - 65) % 256) + 10) / 10, ((((c.toNat : Int) - 65) % 256) + 10) % 10] := by
  have hc := (Hand.anC_iff _).1 h
  unfold expC
  by_cases hd : dgC (c.toNat : Int) = true
  · rw [if_pos hd, if_pos hd]
    have := (Hand.dgC_iff _).1 hd
    simp only [digs, List.map_cons, List.map_nil]
    congr 1
    omega
  · rw [if_neg hd, if_neg hd]
    have h65 : 65 ≤ (c.toNat : Int) := by
      rcases hc with h | h
      · exact h.1
      · exact absurd ((Hand.dgC_iff _).2 h) hd
    obtain ⟨n, hn⟩ : ∃ n : Nat, n = c.toNat - 55 := ⟨_, rfl⟩
    have hn1 : 10 ≤ n ∧ n < 100 := by omega
    rw [← hn, Lib.decDigits, dif_neg (by omega), Lib.decDigits, dif_pos (by omega)]
    have e1 : ((UInt8.ofNat (48 + n / 10)).toNat : Int) = 48 + (n : Int) / 10 := by rw [Hand.ofNat_toNat _ (by omega)]; omega
    have e2 : ((UInt8.ofNat (48 + n % 10)).toNat : Int) = 48 + (n : Int) % 10 := by rw [Hand.ofNat_toNat _ (by omega)]; omega
    simp only [digs, List.map_cons, List.map_nil, e1, e2, List.cons_append, List.nil_append]
    have e3 : ((c.toNat : Int) - 65) % 256 + 10 = (n : Int) := by omega
    rw [e3]
    congr 1
    · omega
    · congr 1; omega
theorem exp_loop (s : ByteArray) (hs : s.size ≤ 1000) (hall : ∀ c ∈ s.data.toList, anC c.toNat = true) : ∀ (d i k : Nat), i + d = s.size → d < k →
    giroref05_Expand.l0 k s (digs (expL (s.data.toList.take i))) (i : Int) = some (digs (expL s.data.toList))
  | 0, i, k, h, hk => by
    obtain ⟨k, rfl⟩ : ∃ m, k = m + 1 := ⟨k - 1, by omega⟩
    have c1 : ¬ (i : Int) < (s.size : Int) := by omega
    have c2 : s.data.toList.length ≤ i := by simp; omega
    simp only [giroref05_Expand.l0]
    rw [if_neg c1, List.take_of_length_le c2]
  | d + 1, i, k, h, hk => by
    obtain ⟨k, rfl⟩ : ∃ m, k = m + 1 := ⟨k - 1, by omega⟩
    have hi : i < s.size := by omega
    have ih := exp_loop s hs hall d (i + 1) k (by omega) (by omega)
    have hm := hall _ (Hand.mem_at s i hi)
    have w2 : wrap64 ((i : Int) + 1) = ((i + 1 : Nat) : Int) := by unfold wrap64; omega
    have hl : (expL (s.data.toList.take i)).length ≤ 2 * i := by
      have h1 := Hand.expL_len (s.data.toList.take i) (fun c hc => hall c (List.mem_of_mem_take hc))
      have h2 : (s.data.toList.take i).length ≤ i := List.length_take_le _ _
      omega
    have hdl : (digs (expL (s.data.toList.take i))).length ≤ 2 * i := by simpa [digs] using hl
    rw [Hand.take_snoc' s i hi, Hand.expL_snoc, digs_app, digs_expC _ hm] at ih
    have c1 : (i : Int) < (s.size : Int) := by omega
    have c2 : 0 ≤ (i : Int) := by omega
    simp only [giroref05_Expand.l0]
    rw [if_pos c1, if_pos c2, digit_f, Option.bind_some, bt_get s i hi, w2]
    generalize digs (expL (s.data.toList.take i)) = D at ih hdl ⊢
    have c3 : D.length < 17592186044416 := by omega
    by_cases hd : dgC (s[i].toNat : Int) = true
    · rw [if_pos hd] at ih
      rw [if_pos hd, if_pos c3]
      exact ih
    · rw [if_neg hd] at ih
      have c4 : D.length + [(((s[i].toNat : Int) - 65) % 256 + 10) / 10, (((s[i].toNat : Int) - 65) % 256 + 10) % 10].length < 17592186044416 := by
        rw [show [(((s[i].toNat : Int) - 65) % 256 + 10) / 10, (((s[i].toNat : Int) - 65) % 256 + 10) % 10].length = 2 from rfl]; omega
      rw [if_neg hd, Option.bind_some, if_pos c4]
      exact ih
theorem rd_digs (l : List UInt8) (j : Int) (h0 : 0 ≤ j) (h1 : j < (expL l).length) : rd (digs (expL l)) j = bt (expB l) j - 48 := by
  obtain ⟨n, rfl⟩ := Int.eq_ofNat_of_zero_le h0
  have hn : n < (expL l).length := by omega
  have hz : (expB l).size = (expL l).length := by simp [expB, ByteArray.size]
  rw [bt_get _ n (by omega)]
  unfold rd digs
  rw [List.getD_eq_getElem?_getD, List.getElem?_map]
  simp only [Int.toNat_natCast]
  rw [List.getElem?_eq_getElem hn]
  rfl
theorem rluhn_loop (D : List Int) (T : ByteArray) (hl : T.size ≤ 1000) (hd : DigB T) (hdl : D.length = T.size) (hrd : ∀ j : Int, 0 ≤ j → j < T.size → rd D j = bt T j - 48) : ∀ (d i k : Nat), i + d = T.size → d < k →
    giroref05_Luhn.l0 k D (luS T i) (i : Int) = some (luV T)
  | 0, i, k, h, hk => by
    obtain ⟨k, rfl⟩ : ∃ m, k = m + 1 := ⟨k - 1, by omega⟩
    have hb := Hand.luS_bd T hd i (by omega)
    have hi : i = T.size := by omega
    have c1 : ¬ (i : Int) < (D.length : Int) := by omega
    simp only [giroref05_Luhn.l0]
    rw [if_neg c1, hi]
    rw [hi] at hb
    have e1 : Int.tmod (luS T T.size) 10 = luS T T.size % 10 := Int.tmod_eq_emod_of_nonneg hb.1
    rw [e1]
    have e2 : wrap64 (10 - luS T T.size % 10) = 10 - luS T T.size % 10 := by unfold wrap64; omega
    rw [e2, Int.tmod_eq_emod_of_nonneg (by omega), ← Hand.luV_def]
  | d + 1, i, k, h, hk => by
    obtain ⟨k, rfl⟩ : ∃ m, k = m + 1 := ⟨k - 1, by omega⟩
    have hb := Hand.luS_bd T hd i (by omega)
    have hx := hd ((T.size : Int) - 1 - i) (by omega) (by omega)
    have he := Hand.luE_bd i (bt T ((T.size : Int) - 1 - i) - 48) (by omega) (by omega)
    have ih := rluhn_loop D T hl hd hdl hrd d (i + 1) k (by omega) (by omega)
    have w1 : wrap64 (wrap64 ((D.length : Int) - 1) - i) = (T.size : Int) - 1 - i := by rw [hdl]; unfold wrap64; omega
    have w2 : wrap64 ((i : Int) + 1) = ((i + 1 : Nat) : Int) := by unfold wrap64; omega
    have e1 : Int.tmod (i : Int) 2 = (i : Int) % 2 := Int.tmod_eq_emod_of_nonneg (by omega)
    have hsx : luS T (i + 1) = luS T i + luE i (bt T ((T.size : Int) - 1 - i) - 48) := Hand.luS_succ T i
    have c1 : (i : Int) < (D.length : Int) := by omega
    have c2 : 0 ≤ (T.size : Int) - 1 - i := by omega
    have c3 : (T.size : Int) - 1 - i < (D.length : Int) := by omega
    have hb2 : luS T i ≤ 9000 := by omega
    have hr := hrd ((T.size : Int) - 1 - i) c2 (by omega)
    simp only [giroref05_Luhn.l0]
    rw [if_pos c1, w1, if_pos c2, if_pos c3, w2, e1, hr]
    clear w1 w2 e1 c1 c2 c3 hr
    generalize bt T ((T.size : Int) - 1 - i) = B at hx he hsx ⊢
    have hl0 := hb.1
    clear hb hd h hk hl hdl hrd
    generalize luS T i = S at hb2 hl0 hsx ⊢
    by_cases hp : (i : Int) % 2 = 0
    · rw [if_pos hp]
      have hq : i % 2 = 0 := by omega
      have hs : luS T (i + 1) = S + ((B - 48) * 2 / 10 + (B - 48) * 2 % 10) := by rw [hsx]; unfold luE; rw [if_pos hq]
      have t1 : wrap64 (2 * (B - 48)) = (B - 48) * 2 := by unfold wrap64; omega
      have t2 : Int.tdiv ((B - 48) * 2) 10 = (B - 48) * 2 / 10 := Int.tdiv_eq_ediv_of_nonneg (by omega)
      have t3 : Int.tmod ((B - 48) * 2) 10 = (B - 48) * 2 % 10 := Int.tmod_eq_emod_of_nonneg (by omega)
      have t4 : wrap64 ((B - 48) * 2 / 10) = (B - 48) * 2 / 10 := by unfold wrap64; omega
      have t5 : wrap64 (S + (B - 48) * 2 / 10) = S + (B - 48) * 2 / 10 := by unfold wrap64; omega
      have w3 : wrap64 (S + (B - 48) * 2 / 10 + (B - 48) * 2 % 10) = luS T (i + 1) := by rw [hs]; unfold wrap64; omega
      rw [t1, t2, t3, t4, t5, w3]; exact ih
    · rw [if_neg hp]
      have hq : ¬ i % 2 = 0 := by omega
      have hs : luS T (i + 1) = S + ((B - 48) / 10 + (B - 48) % 10) := by rw [hsx]; unfold luE; rw [if_neg hq]
      have t2 : Int.tdiv (B - 48) 10 = (B - 48) / 10 := Int.tdiv_eq_ediv_of_nonneg (by omega)
      have t3 : Int.tmod (B - 48) 10 = (B - 48) % 10 := Int.tmod_eq_emod_of_nonneg (by omega)
      have t4 : wrap64 ((B - 48) / 10) = (B - 48) / 10 := by unfold wrap64; omega
      have t5 : wrap64 (S + (B - 48) / 10) = S + (B - 48) / 10 := by unfold wrap64; omega
      have w3 : wrap64 (S + (B - 48) / 10 + (B - 48) % 10) = luS T (i + 1) := by rw [hs]; unfold wrap64; omega
      rw [t2, t3, t4, t5, w3]; exact ih
theorem rluhn_f (s : ByteArray) (hs : s.size ≤ 100) (hall : ∀ c ∈ s.data.toList, anC c.toNat = true) (k : Nat) (hk : 500 < k) : giroref05_Luhn.f k s = some (luV (expB s.data.toList)) := by
  have hlen := Hand.expL_len s.data.toList hall
  have hl2 : s.data.toList.length = s.size := by simp
  have h1 := exp_loop s (by omega) hall s.size 0 k (by omega) (by omega)
  have hz : (expB s.data.toList).size = (expL s.data.toList).length := by simp [expB, ByteArray.size]
  have hdl : (digs (expL s.data.toList)).length = (expB s.data.toList).size := by rw [hz]; simp [digs]
  have hle : (expB s.data.toList).size ≤ 200 := by rw [hz]; exact Nat.le_trans hlen (by rw [hl2]; exact Nat.mul_le_mul_left 2 hs)
  have h2 := rluhn_loop (digs (expL s.data.toList)) (expB s.data.toList) (Nat.le_trans hle (by decide)) (Hand.expB_dig _ hall) hdl (fun j h0 h1 => rd_digs _ j h0 (by rw [← hz]; exact h1)) (expB s.data.toList).size 0 k (Nat.zero_add _) (Nat.lt_of_le_of_lt hle (Nat.lt_trans (by decide) hk))
  unfold giroref05_Luhn.f giroref05_Expand.f
  rw [show digs (expL (s.data.toList.take 0)) = [] from rfl, show ((0 : Nat) : Int) = 0 from rfl] at h1
  rw [show luS (expB s.data.toList) 0 = 0 from Hand.luS_zero _, show ((0 : Nat) : Int) = 0 from rfl] at h2
  rw [h1, Option.bind_some]
  exact h2
end Go.Proofs.YtpclapnmiacfpaaDoor.Q
end
section
set_option linter.unusedVariables false
namespace Go.Proofs.YtpclapnmiacfpaaDoor.Q
open Go.RowKit Go.Proofs.YtpclapnmiacfpaaDoorW.PrintWords Go.Proofs.YtpclapnmiacfpaaDoorW.PrintLast Go.Proofs.YtpclapnmiacfpaaDoorW.PrintMore
open Hand (upC dgC anC rfC prOf spanL idG idS idv luE luS luV luC expL expC expB DigB ChkTo prefB)
def QOK (q : Int) : Prop := q = 0 ∨ q = 1 ∨ q = 2
theorem idv_bad' {q : Int} {s : ByteArray} (h : ¬ (prefB (spanL (idG q)) (idS q) s.data.toList = true)) : idv q s = false := by
  unfold idv; rw [Bool.eq_false_iff.2 h]; rfl
theorem lens_f (q : Int) (hq : QOK q) : giroref05_Lengths.f q = some ((idS q : Int), ((spanL (idG q)).length : Int)) := by
  rcases hq with rfl | rfl | rfl <;> decide
theorem s11 (s : ByteArray) (h : s.size = 12) : s.data.toList.drop 11 = [s[11]] := by
  have h' : s.data.toList.length = 12 := by simpa using h
  rw [List.drop_eq_getElem_cons (by omega), List.drop_eq_nil_of_le (by omega)]
  rfl
theorem chk_end (q : Int) (hq : QOK q) (s : ByteArray) (i : Int) (hc : ∀ i, i < (spanL (idG q)).length → (h : i < s.size) → prOf ((spanL (idG q)).getD i 0) (s[i].toNat : Int) = true) (k : Nat) (hk : 1000 < k) :
    ∃ a e, giroref05_Check.j2 k q s (idS q : Int) ((spanL (idG q)).length : Int) i false = some (a, e) ∧ (e = 0 ↔ idv q s = true) := by
  obtain ⟨k, rfl⟩ : ∃ m, k = m + 1 := ⟨k - 1, by omega⟩
  have hpe := Hand.pref_end (gs := spanL (idG q)) (sh := idS q) (s := s) (fun i h1 h2 => hc i h1 h2)
  simp only [giroref05_Check.j2]
  rw [if_neg (by decide)]
  by_cases h1 : s.size < idS q
  · rw [if_pos (by omega)]
    refine ⟨_, _, rfl, ?_⟩
    have : idv q s = false := idv_bad' (fun h => by have := hpe.1 h; omega)
    rw [this]; decide
  · rw [if_neg (by omega)]
    by_cases h2 : (spanL (idG q)).length < s.size
    · rw [if_pos (by omega)]
      refine ⟨_, _, rfl, ?_⟩
      have : idv q s = false := idv_bad' (fun h => by have := hpe.1 h; omega)
      rw [this]; decide
    · rw [if_neg (by omega)]
      have hp : prefB (spanL (idG q)) (idS q) s.data.toList = true := hpe.2 (by omega)
      obtain ⟨k, rfl⟩ : ∃ m, k = m + 1 := ⟨k - 1, by omega⟩
      by_cases h0 : q = 0
      · subst h0
        have hs : s.size = 12 := by
          have e1 : (spanL (idG 0)).length = 12 := by decide
          have e2 : idS 0 = 12 := by decide
          omega
        have e11 : 11 < s.size := by omega
        have hlt : (11 : Int) < (s.size : Int) := by omega
        have hle : (11 : Int) ≤ (s.size : Int) := by omega
        have hx : (s.extract 0 11).data.toList = s.data.toList.take 11 := by rw [Lib.extract_data]; simp
        have hex : (s.extract 0 11).size ≤ 100 := by rw [ByteArray.size_extract]; omega
        have hall : ∀ c ∈ (s.extract 0 11).data.toList, anC c.toNat = true := by
          rw [hx]
          intro c hcm
          obtain ⟨j, hj, rfl⟩ := List.mem_take_iff_getElem.1 hcm
          have hj1 : j < 11 := by omega
          have h3 := hc j (by have e1 : (spanL (idG 0)).length = 12 := by decide
                              omega) (by omega)
          rw [gs0 j (by omega)] at h3
          have hb : s[j]'(by omega) = s.data.toList[j]'(by simp; omega) := rfl
          rw [← hb]
          by_cases h5 : j < 2
          · rw [if_pos h5] at h3
            have h6 : upC _ = true := h3
            unfold anC; rw [h6]; rfl
          · rw [if_neg h5, if_pos hj1] at h3
            exact h3
        have h12 := hc 11 (by decide) e11
        rw [gs0 11 (by decide), if_neg (by decide), if_neg (by decide)] at h12
        have hd := (Hand.dgC_iff _).1 (show dgC (s[11].toNat : Int) = true from h12)
        have hl := rluhn_f (s.extract 0 11) hex hall (k + 1) (by omega)
        rw [hx] at hl
        rw [if_pos rfl, if_pos hlt, if_pos (by decide), if_pos hle, hl, Option.bind_some]
        have hbt : bt s 11 = (s[11].toNat : Int) := bt_get s 11 e11
        have hv := Hand.luV_bd (expB (s.data.toList.take 11))
        have hid : idv 0 s = ((s.data.toList.drop 11) == [luC (s.data.toList.take 11)]) := by
          unfold idv; rw [hp]; rfl
        have hid2 : (idv 0 s = true) ↔ (s[11].toNat : Int) - 48 = luV (expB (s.data.toList.take 11)) := by
          rw [hid, beq_iff_eq, s11 s hs]
          have hcn : ((luC (s.data.toList.take 11)).toNat : Int) = 48 + luV (expB (s.data.toList.take 11)) := by
            unfold luC; rw [Hand.ofNat_toNat _ (by omega)]; omega
          constructor
          · intro h
            have h7 : s[11] = luC (s.data.toList.take 11) := by simpa using h
            rw [h7, hcn]; omega
          · intro h
            have h8 : s[11] = luC (s.data.toList.take 11) := UInt8.toNat_inj.1 (by omega)
            rw [h8]
        rw [hbt]
        generalize luV (expB (s.data.toList.take 11)) = V at hv hid2 ⊢
        generalize (s[11].toNat : Int) = S at hd hid2 ⊢
        have hm : (S - 48) % 256 = S - 48 := by omega
        rw [hm]
        simp only [giroref05_Check.j3]
        by_cases hV : S - 48 = V
        · rw [if_neg (by rw [hV]; simp), if_neg (by decide)]
          exact ⟨_, _, rfl, by simp [hid2.2 hV]⟩
        · rw [if_pos (by simpa using hV)]
          refine ⟨_, _, rfl, ?_⟩
          have : ¬ idv 0 s = true := fun h => hV (hid2.1 h)
          simp [this]
      · rw [if_neg h0]
        simp only [giroref05_Check.j3]
        have h3 : ¬ q = 3 := by rcases hq with h | h | h <;> omega
        rw [if_neg (by decide), if_neg h3]
        refine ⟨_, _, rfl, ?_⟩
        have : idv q s = true := by unfold idv; rw [hp, Bool.true_and, Bool.or_eq_true]; exact .inl (by simpa using h0)
        simp [this]
theorem chk_loop (q : Int) (hq : QOK q) (s : ByteArray) (hs : s.size ≤ 281474976710656) : ∀ (d i k : Nat), i + d = (spanL (idG q)).length → 2 * d + 2000 < k → Hand.ChkTo (spanL (idG q)) s i →
    ∃ a e, giroref05_Check.l0 k q s (idS q : Int) ((spanL (idG q)).length : Int) (i : Int) = some (a, e) ∧ (e = 0 ↔ idv q s = true)
  | 0, i, k, h, hk, hc => by
    obtain ⟨k, rfl⟩ : ∃ m, k = m + 1 := ⟨k - 1, by omega⟩
    have hi : i = (spanL (idG q)).length := by omega
    simp only [giroref05_Check.l0]
    have hend := chk_end q hq s (i : Int) (fun j h1 h2 => hc j (by omega) h2) k (by omega)
    by_cases h1 : (i : Int) < (s.size : Int)
    · rw [if_pos h1, show decide ((i : Int) < ((spanL (idG q)).length : Int)) = false from decide_eq_false (by omega)]
      exact hend
    · rw [if_neg h1]; exact hend
  | d + 1, i, k, h, hk, hc => by
    obtain ⟨k, rfl⟩ : ∃ m, k = m + 1 := ⟨k - 1, by omega⟩
    have hi : i < (spanL (idG q)).length := by omega
    simp only [giroref05_Check.l0]
    by_cases h1 : i < s.size
    · rw [if_pos (by omega), show decide ((i : Int) < ((spanL (idG q)).length : Int)) = true from decide_eq_true (by omega)]
      obtain ⟨k, rfl⟩ : ∃ m, k = m + 1 := ⟨k - 1, by omega⟩
      have c0 : (0 : Int) ≤ (i : Int) := by omega
      have c1 : (i : Int) < (s.size : Int) := by omega
      have w2 : wrap64 ((i : Int) + 1) = ((i + 1 : Nat) : Int) := by unfold wrap64; omega
      simp only [giroref05_Check.j2]
      rw [if_pos True.intro, if_pos c0, if_pos c1, bt_get s i h1, may_q q hq i hi, Option.bind_some, w2]
      cases hv : prOf ((spanL (idG q)).getD i 0) (s[i].toNat : Int) with
      | true =>
        rw [if_pos rfl]
        exact chk_loop q hq s hs d (i + 1) k (by omega) (by omega) (Hand.chk_snoc hc (fun _ => hv))
      | false =>
        rw [if_neg (by decide)]
        refine ⟨_, _, rfl, ?_⟩
        have : idv q s = false := idv_bad' (by rw [Hand.pref_bad hi h1 hv]; decide)
        rw [this]; decide
    · rw [if_neg (by omega)]
      exact chk_end q hq s (i : Int) (fun j h3 h4 => hc j (by omega) h4) k (by omega)
theorem rcheck_f (q : Int) (hq : QOK q) (s : ByteArray) (hs : s.size ≤ 281474976710656) (k : Nat) (hk : 3000 < k) : ∃ a e, giroref05_Check.f k q s = some (a, e) ∧ (e = 0 ↔ idv q s = true) := by
  obtain ⟨k, rfl⟩ : ∃ m, k = m + 1 := ⟨k - 1, by omega⟩
  have hn : (spanL (idG q)).length ≤ 16 := by rcases hq with rfl | rfl | rfl <;> decide
  have h0 : ¬ q < 0 := by rcases hq with h | h | h <;> omega
  have h3 : decide (q > 3) = false := decide_eq_false (by rcases hq with h | h | h <;> omega)
  unfold giroref05_Check.f
  rw [if_neg h0, h3]
  simp only [giroref05_Check.j0]
  rw [if_neg (by decide), lens_f q hq, Option.bind_some]
  exact chk_loop q hq s hs (spanL (idG q)).length 0 k (by omega) (by omega) (fun j h => by omega)
theorem rvalid_f (q : Int) (hq : QOK q) (s : ByteArray) (hs : s.size ≤ 281474976710656) (k : Nat) (hk : 3000 < k) : giroref23_valid.f k q s = some (idv q s) := by
  obtain ⟨a, e, h1, h2⟩ := rcheck_f q hq s hs k hk
  unfold giroref23_valid.f
  rw [h1, Option.bind_some]
  congr 1
  rw [Bool.eq_iff_iff, beq_iff_eq]
  exact h2
end Go.Proofs.YtpclapnmiacfpaaDoor.Q
end
section
set_option linter.unusedVariables false
namespace Go.Proofs.YtpclapnmiacfpaaDoor.Q
open Go.RowKit Go.Proofs.YtpclapnmiacfpaaDoorW.PrintWords Go.Proofs.YtpclapnmiacfpaaDoorW.PrintLast Go.Proofs.YtpclapnmiacfpaaDoorW.PrintMore
open Hand (idv)
def inB (n lo hi : Int) : Bool := decide (lo ≤ n) && decide (n ≤ hi)
theorem inB_iff (n lo hi : Int) : inB n lo hi = true ↔ lo ≤ n ∧ n ≤ hi := by simp [inB]
def tc7 (b : Bool) (r0 r1 : ByteArray) : Int := if b = true then 2 else if idv 2 r0 && idv 2 r1 then 0 else 6
def tc5 (b : Bool) (q : Int) (pa : Bool) (ml : Int) (r0 r1 : ByteArray) : Int := if b = true then 2 else tc7 (if pa then !(inB ml 1 q) else ml != 0) r0 r1
def tc4 (b : Bool) (q pr : Int) (pa : Bool) (ml : Int) (r0 r1 : ByteArray) : Int := if b = true then 28 else tc5 (!(inB pr 0 2)) q pa ml r0 r1
def tc3 (b : Bool) (q td sd pr : Int) (pa : Bool) (ml : Int) (r0 r1 : ByteArray) : Int := if b = true then 2 else tc4 (!(inB sd 0 73048) || !(inB td 0 sd)) q pr pa ml r0 r1
def tc1 (b : Bool) (kd : Int) (dl rc aa : ByteArray) (q am td sd pr : Int) (pa : Bool) (ml : Int) (r0 r1 : ByteArray) : Int :=
  if b = true then 6 else if dl.toList = rc.toList then 1 else if idv 0 aa then (if inB q 1 1000000000000000 then tc3 (if kd = 1 then !(inB am 1 1000000000000000) else kd == 2 && am != 0) q td sd pr pa ml r0 r1 else 2) else 6
def tc (kd : Int) (dl rc aa : ByteArray) (q am td sd pr : Int) (pa : Bool) (ml : Int) (r0 r1 : ByteArray) : Int :=
  if kd = 1 ∨ kd = 2 then tc1 (!(idv 1 dl && idv 1 rc)) kd dl rc aa q am td sd pr pa ml r0 r1 else 11
def Sz (s : ByteArray) : Prop := s.size ≤ 281474976710656
theorem valid_f (q : Int) (hq : QOK q) (s : ByteArray) (hs : Sz s) : ident_Valid.f q s = some (idv q s) := by
  unfold ident_Valid.f; rw [if_pos ⟨hq, hs⟩]
theorem m1_f (s : ByteArray) (hs : Sz s) : matching_Trade_Check_1.f s = some (idv 1 s) := by
  unfold matching_Trade_Check_1.f; rw [valid_f 1 (.inr (.inl rfl)) s hs]; rfl
theorem m2_f (s : ByteArray) (hs : Sz s) : matching_Trade_Check_2.f s = some (idv 2 s) := by
  unfold matching_Trade_Check_2.f; rw [valid_f 2 (.inr (.inr rfl)) s hs]; rfl
theorem mw_f (n lo hi : Int) : matching_within.f n lo hi = some (inB n lo hi) := by
  unfold matching_within.f inB
  by_cases h : lo ≤ n
  · rw [if_pos h]; simp [h]
  · rw [if_neg h]; simp [h]
section
variable (kd : Int) (dl rc aa : ByteArray) (q am td sd pr : Int) (pa : Bool) (ml : Int) (r0 r1 : ByteArray) (h0 : Sz r0) (h1 : Sz r1)
include h0 h1
theorem mj7 (b : Bool) (k : Nat) : matching_Trade_Check.j7 (k + 1) b kd dl rc aa q am td sd pr pa ml r0 r1 = some (tc7 b r0 r1) := by
  simp only [matching_Trade_Check.j7]
  unfold tc7
  cases b with
  | true => rfl
  | false =>
    rw [if_neg Bool.false_ne_true, if_neg Bool.false_ne_true, m2_f r0 h0, m2_f r1 h1]
    simp only [Option.bind_some]
    cases idv 2 r0 <;> cases idv 2 r1 <;> rfl
theorem mj6 (b : Bool) (k : Nat) : matching_Trade_Check.j6 (k + 2) b kd dl rc aa q am td sd pr pa ml r0 r1 = some (tc7 (b || (!pa && ml != 0)) r0 r1) := by
  simp only [matching_Trade_Check.j6]
  cases b with
  | true => rw [if_pos (rfl : true = true), mj7 _ _ _ _ _ _ _ _ _ _ _ _ _ h0 h1]; rfl
  | false =>
    rw [if_neg Bool.false_ne_true]
    cases pa with
    | true => rw [if_pos (rfl : true = true), mj7 _ _ _ _ _ _ _ _ _ _ _ _ _ h0 h1]; rfl
    | false => rw [if_neg Bool.false_ne_true, mj7 _ _ _ _ _ _ _ _ _ _ _ _ _ h0 h1]; rfl
theorem mj5 (b : Bool) (k : Nat) : matching_Trade_Check.j5 (k + 3) b kd dl rc aa q am td sd pr pa ml r0 r1 = some (tc5 b q pa ml r0 r1) := by
  simp only [matching_Trade_Check.j5]
  unfold tc5
  cases b with
  | true => rfl
  | false =>
    rw [if_neg Bool.false_ne_true, if_neg Bool.false_ne_true]
    cases pa with
    | true => rw [if_pos (rfl : true = true), mw_f, Option.bind_some, mj6 _ _ _ _ _ _ _ _ _ _ _ _ _ h0 h1]; simp
    | false => rw [if_neg Bool.false_ne_true, mj6 _ _ _ _ _ _ _ _ _ _ _ _ _ h0 h1]; simp
theorem mj4 (b : Bool) (k : Nat) : matching_Trade_Check.j4 (k + 4) b kd dl rc aa q am td sd pr pa ml r0 r1 = some (tc4 b q pr pa ml r0 r1) := by
  simp only [matching_Trade_Check.j4]
  unfold tc4
  cases b with
  | true => rfl
  | false =>
    rw [if_neg Bool.false_ne_true, if_neg Bool.false_ne_true]
    by_cases h : pr < 0
    · rw [if_pos h, mj5 _ _ _ _ _ _ _ _ _ _ _ _ _ h0 h1, show (!(inB pr 0 2)) = true from by simp [inB]; omega]
    · rw [if_neg h, mj5 _ _ _ _ _ _ _ _ _ _ _ _ _ h0 h1]
      congr 2
      rw [Bool.eq_iff_iff]; simp [inB]; omega
theorem mj3 (b : Bool) (k : Nat) : matching_Trade_Check.j3 (k + 5) b kd dl rc aa q am td sd pr pa ml r0 r1 = some (tc3 b q td sd pr pa ml r0 r1) := by
  simp only [matching_Trade_Check.j3]
  unfold tc3
  cases b with
  | true => rfl
  | false =>
    rw [if_neg Bool.false_ne_true, if_neg Bool.false_ne_true]
    by_cases g1 : sd < 0
    · rw [if_pos g1, mj4 _ _ _ _ _ _ _ _ _ _ _ _ _ h0 h1, show (!(inB sd 0 73048) || !(inB td 0 sd)) = true from by simp [inB]; omega]
    · rw [if_neg g1]
      by_cases g2 : sd > 73048
      · rw [if_pos g2, mj4 _ _ _ _ _ _ _ _ _ _ _ _ _ h0 h1, show (!(inB sd 0 73048) || !(inB td 0 sd)) = true from by simp [inB]; omega]
      · rw [if_neg g2]
        by_cases g3 : td < 0
        · rw [if_pos g3, mj4 _ _ _ _ _ _ _ _ _ _ _ _ _ h0 h1, show (!(inB sd 0 73048) || !(inB td 0 sd)) = true from by simp [inB]; omega]
        · rw [if_neg g3, mj4 _ _ _ _ _ _ _ _ _ _ _ _ _ h0 h1]
          congr 2
          rw [Bool.eq_iff_iff]; simp [inB]; omega
theorem mj2 (b : Bool) (k : Nat) : matching_Trade_Check.j2 (k + 6) b kd dl rc aa q am td sd pr pa ml r0 r1 = some (tc3 (b || (kd == 2 && am != 0)) q td sd pr pa ml r0 r1) := by
  simp only [matching_Trade_Check.j2]
  cases b with
  | true => rw [if_pos (rfl : true = true), mj3 _ _ _ _ _ _ _ _ _ _ _ _ _ h0 h1]; rfl
  | false =>
    rw [if_neg Bool.false_ne_true]
    by_cases g : kd = 2
    · rw [if_pos g, mj3 _ _ _ _ _ _ _ _ _ _ _ _ _ h0 h1, g]; rfl
    · rw [if_neg g, mj3 _ _ _ _ _ _ _ _ _ _ _ _ _ h0 h1, beq_eq_false_iff_ne.2 g]; rfl
theorem mj1 (ha : Sz aa) (b : Bool) (k : Nat) : matching_Trade_Check.j1 (k + 7) b kd dl rc aa q am td sd pr pa ml r0 r1 = some (tc1 b kd dl rc aa q am td sd pr pa ml r0 r1) := by
  simp only [matching_Trade_Check.j1]
  unfold tc1
  cases b with
  | true => rfl
  | false =>
    rw [if_neg Bool.false_ne_true, if_neg Bool.false_ne_true]
    by_cases g : dl.toList = rc.toList
    · rw [if_pos g, if_pos g]
    · rw [if_neg g, if_neg g, valid_f 0 (.inl rfl) aa ha, Option.bind_some]
      cases idv 0 aa with
      | false => rfl
      | true =>
        rw [if_pos (rfl : true = true), if_pos (rfl : true = true), mw_f, Option.bind_some]
        cases inB q 1 1000000000000000 with
        | false => rfl
        | true =>
          rw [if_pos (rfl : true = true), if_pos (rfl : true = true)]
          by_cases g1 : kd = 1
          · rw [if_pos g1, if_pos g1, mw_f, Option.bind_some, mj2 _ _ _ _ _ _ _ _ _ _ _ _ _ h0 h1, g1]
            simp
          · rw [if_neg g1, if_neg g1, mj2 _ _ _ _ _ _ _ _ _ _ _ _ _ h0 h1]
            simp
theorem mcheck_f (hd : Sz dl) (hr : Sz rc) (ha : Sz aa) (k : Nat) (hk : 10 < k) : matching_Trade_Check.f k kd dl rc aa q am td sd pr pa ml r0 r1 = some (tc kd dl rc aa q am td sd pr pa ml r0 r1) := by
  obtain ⟨k, rfl⟩ : ∃ m, k = m + 8 := ⟨k - 8, by omega⟩
  have key : ∀ b, matching_Trade_Check.j0 (k + 8) b kd dl rc aa q am td sd pr pa ml r0 r1 = some (if b = true then 11 else tc1 (!(idv 1 dl && idv 1 rc)) kd dl rc aa q am td sd pr pa ml r0 r1) := by
    intro b
    simp only [matching_Trade_Check.j0]
    cases b with
    | true => rfl
    | false =>
      rw [if_neg Bool.false_ne_true, if_neg Bool.false_ne_true, m1_f dl hd, m1_f rc hr]
      simp only [Option.bind_some]
      cases idv 1 dl with
      | false => rw [if_neg Bool.false_ne_true, mj1 _ _ _ _ _ _ _ _ _ _ _ _ _ h0 h1 ha]; rfl
      | true => rw [if_pos (rfl : true = true), mj1 _ _ _ _ _ _ _ _ _ _ _ _ _ h0 h1 ha]; rfl
  unfold matching_Trade_Check.f tc
  by_cases g : kd = 1
  · rw [if_pos g, key, if_neg Bool.false_ne_true, if_pos (.inl g)]
  · rw [if_neg g, key]
    by_cases g2 : kd = 2
    · rw [if_neg (by simp [g2]), if_pos (.inr g2)]
    · rw [if_pos (by simpa using g2), if_neg (by simp [g, g2])]
end
end Go.Proofs.YtpclapnmiacfpaaDoor.Q
end
