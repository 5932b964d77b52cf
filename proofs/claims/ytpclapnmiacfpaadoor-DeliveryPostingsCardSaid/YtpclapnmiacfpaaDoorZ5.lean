/- Proved at the end of this text: the given card of DeliveryPostings, whole: the law answers true at every input that the card lets in. Conditions: none beyond the card's own. Laid together out of this session's texts. -/
import Derived.Test.YtpclapnmiacfpaaDoorZ4
import Derived.Test.YtpclapnmiacfpaaDoorCards
import Derived.Test.YtpclapnmiacfpaaDoorTie
import Derived.SevenTiedAt
set_option linter.unusedVariables false
set_option linter.unusedSimpArgs false
section
namespace Go.Proofs.YtpclapnmiacfpaaDoor.Q
open Go.RowKit Go.Proofs.YtpclapnmiacfpaaDoorW.PrintWords Go.Proofs.YtpclapnmiacfpaaDoorW.PrintLast Go.Proofs.YtpclapnmiacfpaaDoorW.PrintMore
attribute [local go_sem] max2_int min2_int max_two min_two max_three min_three max_four min_four
set_option linter.unusedVariables false
set_option linter.unusedSimpArgs false
def giroref39_Postings.l0 : Nat → Int → List (S77) → List (S49) → Int → Option ((List (S77)))
 | 0, _, _, _, _ => none
 | k + 1, x1, x5, x6, x7 => if x7 < (x6.length : Int) then (if 0 ≤ x7 then (if x7 = 0 then ((some (([(⟨(⟨(rd_T49 x6 x7).f0, x1, (rd_T49 x6 x7).f2⟩ : S75), wrap64 (-((rd_T49 x6 x7).f3))⟩ : S77), (⟨(⟨(rd_T49 x6 x7).f1, 0, (rd_T49 x6 x7).f2⟩ : S75), (rd_T49 x6 x7).f3⟩ : S77)] : List (S77)) : List (S77))).bind fun y198 => (if x5.length + y198.length < 2932031007402 then (giroref39_Postings.l0 k x1 (x5 ++ y198) x6 (wrap64 (x7 + 1))) else (none))) else ((some (([(⟨(⟨(rd_T49 x6 x7).f0, 0, (rd_T49 x6 x7).f2⟩ : S75), wrap64 (-((rd_T49 x6 x7).f3))⟩ : S77), (⟨(⟨(rd_T49 x6 x7).f1, 0, (rd_T49 x6 x7).f2⟩ : S75), (rd_T49 x6 x7).f3⟩ : S77)] : List (S77)) : List (S77))).bind fun y208 => (if x5.length + y208.length < 2932031007402 then (giroref39_Postings.l0 k x1 (x5 ++ y208) x6 (wrap64 (x7 + 1))) else (none)))) else (none)) else (some x5)
def giroref39_Postings.f (k : Nat) (a0_0 : Int) (a0_1 : ByteArray) (a0_2 : ByteArray) (a0_3 : ByteArray) (a0_4 : Int) (a0_5 : Int) (a0_6 : Int) (a0_7 : Int) (a0_8 : Int) (a0_9 : Bool) (a0_10 : Int) (a0_11 : ByteArray) (a0_12 : ByteArray) (a1 : Int) : Option ((List (S77))) := (giroref39_Legs.f a0_0 a0_1 a0_2 a0_3 a0_4 a0_5 a0_6 a0_7 a0_8 a0_9 a0_10 a0_11 a0_12).bind fun t188 => (giroref39_Postings.l0 k a1 ([] : List (S77)) t188 0)
theorem giroref39_Postings.mono_l : ∀ k, (∀ y0 y1 y2 y3, LeO (giroref39_Postings.l0 k y0 y1 y2 y3) (giroref39_Postings.l0 (k + 1) y0 y1 y2 y3))
 | 0 => fun _ _ _ _ r h => by simp [giroref39_Postings.l0] at h
 | k + 1 => by
  have ih0 := giroref39_Postings.mono_l k
  ·intro y0 y1 y2 y3
   unfold giroref39_Postings.l0
   repeat' first
   | (with_reducible exact ih0 _ _ _ _)
   | (with_reducible exact LeO.refl _)
   | (with_reducible exact LeO.none _)
   | (with_reducible refine LeO.ite ?_ ?_)
   | (with_reducible refine LeO.bind ?_ (fun _ => ?_))
   | exact ih0 _ _ _ _
   | exact LeO.none _
   | refine LeO.ite ?_ ?_
   | refine LeO.bind ?_ (fun _ => ?_)
theorem giroref39_Postings.mono : ∀ a0 a1 a2 a3 a4 a5 a6 a7 a8 a9 a10 a11 a12 a13 k, LeO (giroref39_Postings.f k a0 a1 a2 a3 a4 a5 a6 a7 a8 a9 a10 a11 a12 a13) (giroref39_Postings.f (k + 1) a0 a1 a2 a3 a4 a5 a6 a7 a8 a9 a10 a11 a12 a13) := by
 intro a0 a1 a2 a3 a4 a5 a6 a7 a8 a9 a10 a11 a12 a13 k
 have ih0 := giroref39_Postings.mono_l k
 unfold giroref39_Postings.f
 repeat' first
   | (with_reducible exact ih0 _ _ _ _)
   | (with_reducible exact LeO.refl _)
   | (with_reducible exact LeO.none _)
   | (with_reducible refine LeO.ite ?_ ?_)
   | (with_reducible refine LeO.bind ?_ (fun _ => ?_))
   | exact ih0 _ _ _ _
   | exact LeO.none _
   | refine LeO.ite ?_ ?_
   | refine LeO.bind ?_ (fun _ => ?_)
def giroref39_Postings.T6 : Bool × List (List Nat × List Nat) := (true, [([], []), ([], []), ([0, 1], [0, 1]), ([2], [2]), ([3], [3]), ([], []), ([], []), ([5, 6], [5, 6]), ([7], [7]), ([8], [8]), ([4, 9], [4, 9]), ([], []), ([11, 10, 0, 1, 2, 3, 4, 5, 6, 7, 8, 9, 10, 11], [10, 11])])
def giroref39_Postings.B6 : List Nat := [0, 0, 3, 7, 15, 0, 0, 96, 224, 480, 1023, 0, 4095]
theorem giroref39_Postings.tab6 : rtab .any (opsOf Tryd.f14 6) = giroref39_Postings.T6 := by kernel_rfl
theorem giroref39_Postings.bits6 : waitsOk giroref39_Postings.T6.2 giroref39_Postings.B6 = true := by kernel_rfl
def giroref39_Postings.T9 : Bool × List (List Nat × List Nat) := (true, [([], []), ([], []), ([], []), ([], []), ([2, 3], [2, 3]), ([4], [4]), ([5], [5]), ([6], [6]), ([1, 7], [1, 7]), ([], []), ([], []), ([9, 10], [9, 10]), ([11], [11]), ([12], [12]), ([], []), ([], []), ([14, 15], [14, 15]), ([16], [16]), ([17], [17]), ([13, 18], [13, 18]), ([], []), ([], []), ([20, 21], [20, 21]), ([22], [22]), ([23], [23]), ([19, 24], [19, 24]), ([8, 25], [8, 25]), ([0, 26], [0, 26]), ([27, 27, 0, 1, 2, 3, 4, 5, 6, 7, 8, 9, 10, 11, 12, 13, 14, 15, 16, 17, 18, 19, 20, 21, 22, 23, 24, 25, 26, 27], [0, 27])])
def giroref39_Postings.B9 : List Nat := [0, 0, 0, 0, 12, 28, 60, 124, 254, 0, 0, 1536, 3584, 7680, 0, 0, 49152, 114688, 245760, 523776, 0, 0, 3145728, 7340032, 15728640, 33553920, 67108862, 134217727, 268435455]
theorem giroref39_Postings.tab9 : rtab .any (opsOf Tryd.f14 9) = giroref39_Postings.T9 := by kernel_rfl
theorem giroref39_Postings.bits9 : waitsOk giroref39_Postings.T9.2 giroref39_Postings.B9 = true := by kernel_rfl
set_option maxHeartbeats 8000000 in
set_option maxRecDepth 100000 in
theorem giroref39_Postings.calls (k : Nat) (a0_0 : Int) (a0_1 : ByteArray) (a0_2 : ByteArray) (a0_3 : ByteArray) (a0_4 : Int) (a0_5 : Int) (a0_6 : Int) (a0_7 : Int) (a0_8 : Int) (a0_9 : Bool) (a0_10 : Int) (a0_11 : ByteArray) (a0_12 : ByteArray) (a1 : Int) (r : List (S77)) (w : World) (h : giroref39_Postings.f k a0_0 a0_1 a0_2 a0_3 a0_4 a0_5 a0_6 a0_7 a0_8 a0_9 a0_10 a0_11 a0_12 a1 = some r) :
  Calls Tryd.prog 14 #[.agg #[.int .i64 a0_0, .string a0_1, .string a0_2, .string a0_3, .int .i64 a0_4, .int .i64 a0_5, .int .i64 a0_6, .int .i64 a0_7, .int .i64 a0_8, .bool a0_9, .int .i64 a0_10, .string a0_11, .string a0_12], .int .i64 a1] w fun e w' => ∃ v0_ : Value, e = .returned (v0_) ∧ Kd.R k77 77 w' w.heap.size (fun _ => True) v0_ r ∧ Below w.heap.size w w' := by
 have hu24 := Tryd.underlying24
 have hu75 := Tryd.underlying75
 have hu77 := Tryd.underlying77
 have HB := Aside0.mk (Below.refl w.heap.size w)
 have H : ((giroref39_Legs.f a0_0 a0_1 a0_2 a0_3 a0_4 a0_5 a0_6 a0_7 a0_8 a0_9 a0_10 a0_11 a0_12).bind fun t188 => (giroref39_Postings.l0 k a1 ([] : List (S77)) t188 0)) = some r := h
 clear h
 replace H := Option.bind_eq_some_iff.mp H
 obtain ⟨t188, A30, H⟩ := H
 replace H : (giroref39_Postings.l0 k a1 ([] : List (S77)) t188 0) = some r := H
 have A3 := Aside0.mk A30
 clear A30
 have H' := Aside0.mk H
 clear H
 go_enter Tryd.func14, Tryd.ntmps14
 go_wp2_with (first | ((with_reducible refine gate_dst (N := 2) rfl ?_); refine box_event ?hg (N := 2) ?hd (cs := #[.int .i64 a0_0, .string a0_1, .string a0_2, .string a0_3, .int .i64 a0_4, .int .i64 a0_5, .int .i64 a0_6, .int .i64 a0_7, .int .i64 a0_8, .bool a0_9, .int .i64 a0_10, .string a0_11, .string a0_12]) (t := 24) ?hr ?_; (case hd => rfl); (case hg => rfl); (case hr => first | (go_simp; done) | (go_simp; rfl)); intro gb187 hg w4 hbox hb; have n0_ := Aside0.mk (below_step (by repeat (first | (with_reducible first | exact HB.out | apply below_alloc | apply pw_below_drewN | apply below_drew1) | exact HB.out)) hb); have n1_ := Aside0.mk (hbox); have n2_ := Aside0.mk ((by rw [hg]; exact (below_size (by repeat (first | (with_reducible first | exact HB.out | apply below_alloc | apply pw_below_drewN | apply below_drew1) | exact HB.out))) : w.heap.size ≤ gb187)); have n3_ := Aside0.mk ((by rw [hg]; exact (below_size (by repeat (first | (with_reducible first | exact HB.out | apply below_alloc | apply pw_below_drewN | apply below_drew1) | exact HB.out))) : w.heap.size ≤ gb187)); clear HB; have HB := n0_; have BK187 := n1_; have GW187 := n2_; have GE187 := n3_; clear n0_ n1_ n2_ n3_; clear hb hbox hg; have hcz5_0 : w4.cell? ⟨gb187, 0, none⟩ = some (.int .i64 a0_0) := (blk_cell BK187.out 0).trans rfl; have hcz5_1 : w4.cell? ⟨gb187, 1, none⟩ = some (.string a0_1) := (blk_cell BK187.out 1).trans rfl; have hcz5_2 : w4.cell? ⟨gb187, 2, none⟩ = some (.string a0_2) := (blk_cell BK187.out 2).trans rfl; have hcz5_3 : w4.cell? ⟨gb187, 3, none⟩ = some (.string a0_3) := (blk_cell BK187.out 3).trans rfl; have hcz5_4 : w4.cell? ⟨gb187, 4, none⟩ = some (.int .i64 a0_4) := (blk_cell BK187.out 4).trans rfl; have hcz5_5 : w4.cell? ⟨gb187, 5, none⟩ = some (.int .i64 a0_5) := (blk_cell BK187.out 5).trans rfl; have hcz5_6 : w4.cell? ⟨gb187, 6, none⟩ = some (.int .i64 a0_6) := (blk_cell BK187.out 6).trans rfl; have hcz5_7 : w4.cell? ⟨gb187, 7, none⟩ = some (.int .i64 a0_7) := (blk_cell BK187.out 7).trans rfl; have hcz5_8 : w4.cell? ⟨gb187, 8, none⟩ = some (.int .i64 a0_8) := (blk_cell BK187.out 8).trans rfl; have hcz5_9 : w4.cell? ⟨gb187, 9, none⟩ = some (.bool a0_9) := (blk_cell BK187.out 9).trans rfl; have hcz5_10 : w4.cell? ⟨gb187, 10, none⟩ = some (.int .i64 a0_10) := (blk_cell BK187.out 10).trans rfl; have hcz5_11 : w4.cell? ⟨gb187, 11, none⟩ = some (.string a0_11) := (blk_cell BK187.out 11).trans rfl; have hcz5_12 : w4.cell? ⟨gb187, 12, none⟩ = some (.string a0_12) := (blk_cell BK187.out 12).trans rfl; have hfz5_0 := blk_frozen BK187.out 0; have hfz5_1 := blk_frozen BK187.out 1; have hfz5_2 := blk_frozen BK187.out 2; have hfz5_3 := blk_frozen BK187.out 3; have hfz5_4 := blk_frozen BK187.out 4; have hfz5_5 := blk_frozen BK187.out 5; have hfz5_6 := blk_frozen BK187.out 6; have hfz5_7 := blk_frozen BK187.out 7; have hfz5_8 := blk_frozen BK187.out 8; have hfz5_9 := blk_frozen BK187.out 9; have hfz5_10 := blk_frozen BK187.out 10; have hfz5_11 := blk_frozen BK187.out 11; have hfz5_12 := blk_frozen BK187.out 12) | ((with_reducible refine gate_callee (f := 20) rfl ?_); refine goesL_ (some 10) rfl rfl Tryd.func20 (by kernel_rfl) rfl #[.agg #[.int .i64 a0_0, .string a0_1, .string a0_2, .string a0_3, .int .i64 a0_4, .int .i64 a0_5, .int .i64 a0_6, .int .i64 a0_7, .int .i64 a0_8, .bool a0_9, .int .i64 a0_10, .string a0_11, .string a0_12]] rfl (by (try simp only [List.map_toArray, List.map_cons, List.map_nil]); first | done | rfl | (simp only [List.length_drop, List.length_take]; rfl)) ?_; (with_reducible refine (giroref39_Legs.calls a0_0 a0_1 a0_2 a0_3 a0_4 a0_5 a0_6 a0_7 a0_8 a0_9 a0_10 a0_11 a0_12 t188 _ A3.out).mono ?_); rintro e w6 ⟨v189, rfl, ho0, hb⟩; refine ⟨_, rfl, ?_⟩; have n0_ := Aside0.mk (Kd.R_lower ho0 (below_size (by repeat (first | (with_reducible first | exact HB.out | apply below_alloc | apply pw_below_drewN | apply below_drew1 | refine below_set ?_ GE187.out) | exact HB.out)))); have n1_ := Aside0.mk (blk_below (g := gb187) (o := .cells #[.int .i64 a0_0, .string a0_1, .string a0_2, .string a0_3, .int .i64 a0_4, .int .i64 a0_5, .int .i64 a0_6, .int .i64 a0_7, .int .i64 a0_8, .bool a0_9, .int .i64 a0_10, .string a0_11, .string a0_12] 24 (0, 0)) (by (with_reducible repeat (first | refine blk_drewN ?_ _ | refine blk_drew ?_ | refine blk_alloc ?_ _)); exact BK187.out) hb); have n2_ := Aside0.mk (below_step (by repeat (first | (with_reducible first | exact HB.out | apply below_alloc | apply pw_below_drewN | apply below_drew1 | refine below_set ?_ GE187.out) | exact HB.out)) hb); clear BK187; clear HB; have HO190 := n0_; have BK187 := n1_; have HB := n2_; clear n0_ n1_ n2_; (try clear hb); (try clear hb2); (try clear hk); (try clear hi); (try clear ho0)))
 go_loopg [5, 7] k (fun kq v5 v7 w' => ∃ (x5_1 : List (S77)) (x7_1 : Int), v7 = .int .i64 x7_1 ∧ Aside0 (giroref39_Postings.l0 kq a1 x5_1 t188 x7_1 = some r) ∧ Aside0 (kq ≤ k) ∧ Aside0 (Kd.R k77 77 w' w.heap.size (fun _ => True) v5 x5_1) ∧ Aside0 (Kd.R k49 49 w' w.heap.size (fun _ => True) v189 t188) ∧ Aside0 (w'.heap[gb187]? = some (.cells #[.int .i64 a0_0, .string a0_1, .string a0_2, .string a0_3, .int .i64 a0_4, .int .i64 a0_5, .int .i64 a0_6, .int .i64 a0_7, .int .i64 a0_8, .bool a0_9, .int .i64 a0_10, .string a0_11, .string a0_12] 24 (0, 0))) ∧ Aside0 (Below w.heap.size w w'))
 case atStart => exact ⟨(([] : List (S77))), (0), (by first | rfl | (simp; done) | (simp [*]; done)), H', ⟨Nat.le_refl _⟩, ⟨by first | exact Kd.R_nil _ _ _ _ _ | exact Kd.N_nil _ _ _ _ _ | exact Kd.V_nil _ _ _ _ _ | exact Kd.Q_nil _ _ _ _ _ | exact Kd.S_nil _ _ _ _ _⟩, ⟨by (with_reducible repeat (first | apply Kd.R_alloc | apply Kd.R_drewN | apply Kd.R_drew)); exact HO190.out⟩, ⟨by (with_reducible repeat (first | refine blk_drewN ?_ _ | refine blk_drew ?_ | refine blk_alloc ?_ _)); exact BK187.out⟩, ⟨by repeat (first | (with_reducible first | exact HB.out | apply below_alloc | apply pw_below_drewN | apply below_drew1 | refine below_set ?_ GE187.out) | exact HB.out)⟩⟩
 case round =>
  clear H'
  try clear c1
  try clear c2
  try clear p2
  try clear hcz5_0 hcz5_1 hcz5_10 hcz5_11 hcz5_12 hcz5_2 hcz5_3 hcz5_4 hcz5_5 hcz5_6 hcz5_7 hcz5_8 hcz5_9
  try clear hfz5_0 hfz5_1 hfz5_10 hfz5_11 hfz5_12 hfz5_2 hfz5_3 hfz5_4 hfz5_5 hfz5_6 hfz5_7 hfz5_8 hfz5_9
  obtain ⟨x5_1, x7_1, rfl, HA, HK1, HO_5, HO_6, BK187, HB⟩ := hrel
  cases gk with
  | zero => exact absurd HA.out (by simp [giroref39_Postings.l0])
  | succ k1 =>
   have H := HA.out
   clear HA
   simp only [giroref39_Postings.l0] at H
   by_cases c7 : x7_1 < (t188.length : Int)
   ·rw [if_pos c7] at H
    have c7b0 : decide (x7_1 < (t188.length : Int)) = true := decide_eq_true c7
    clear c7
    by_cases c8 : 0 ≤ x7_1
    ·rw [if_pos c8] at H
     have c8b0 : decide (0 ≤ x7_1) = true := decide_eq_true c8
     clear c8
     by_cases c9 : x7_1 = 0
     ·rw [if_pos c9] at H
      have c9b0 : (x7_1 == 0) = true := beq_iff_eq.mpr c9
      have c9b1 : (x7_1 != 0) = false := bne_eq_false_iff_eq.mpr c9
      clear c9
      obtain ⟨y198, hy198⟩ : ∃ y_ : List (S77), y_ = (([(⟨(⟨(rd_T49 t188 x7_1).f0, a1, (rd_T49 t188 x7_1).f2⟩ : S75), wrap64 (-((rd_T49 t188 x7_1).f3))⟩ : S77), (⟨(⟨(rd_T49 t188 x7_1).f1, 0, (rd_T49 t188 x7_1).f2⟩ : S75), (rd_T49 t188 x7_1).f3⟩ : S77)] : List (S77))) := ⟨_, rfl⟩
      replace H : (if x5_1.length + y198.length < 2932031007402 then (giroref39_Postings.l0 k1 a1 (x5_1 ++ y198) t188 (wrap64 (x7_1 + 1))) else (none)) = some r := by first | (rw [hy198]; with_reducible exact H) | (have H2_ := (Option.bind_some _ _).symm.trans H; rw [hy198]; with_reducible exact H2_) | (have H2_ := (Option.bind_some _ _).symm.trans H; with_reducible exact H2_) | with_reducible exact H | (rw [hy198]; exact H) | exact H
      have Ny198 := Aside0.mk hy198
      clear hy198
      by_cases c10 : x5_1.length + y198.length < 2932031007402
      ·rw [if_pos c10] at H
       have LMc10 := Aside0.mk c10
       clear c10
       obtain ⟨y201, hy201⟩ : ∃ y_ : List (S77), y_ = (x5_1 ++ y198) := ⟨_, rfl⟩
       replace H : (giroref39_Postings.l0 k1 a1 y201 t188 (wrap64 (x7_1 + 1))) = some r := by first | (rw [hy201]; with_reducible exact H) | (have H2_ := (Option.bind_some _ _).symm.trans H; rw [hy201]; with_reducible exact H2_) | (have H2_ := (Option.bind_some _ _).symm.trans H; with_reducible exact H2_) | with_reducible exact H | (rw [hy201]; exact H) | exact H
       have Ny201 := Aside0.mk hy201
       clear hy201
       have H' := Aside0.mk H
       clear H
       obtain ⟨Ao11, co11, eo11⟩ := Kd.R_slice HO_6.out
       subst eo11
       try go_wp2
       have n0_ := Aside0.mk (Kd.R_drew HO_5.out)
       have n1_ := Aside0.mk (Kd.R_drew HO_6.out)
       have n2_ := Aside0.mk (blk_drew BK187.out)
       have n3_ := Aside0.mk (below_drew1 HB.out)
       clear HO_5
       clear HO_6
       clear BK187
       clear HB
       have HO_5 := n0_
       have HO_6 := n1_
       have BK187 := n2_
       have HB := n3_
       clear n0_ n1_ n2_ n3_
       have p191 : 0 ≤ (x7_1 : Int) := of_decide_eq_true (by first | (with_reducible assumption) | assumption)
       have q191 : x7_1 < (t188.length : Int) := of_decide_eq_true (by first | (with_reducible assumption) | assumption)
       obtain ⟨ad191, e191, hx191_0, hx191_1, hx191_2, hx191_3⟩ := at_T49 (Kd.R_reads' HO_6.out).2.2 x7_1 p191 q191
       cases e191
       replace p191 := eq_true p191
       replace q191 := eq_true q191
       have p192 : 0 ≤ (x7_1 : Int) := of_decide_eq_true (by first | (with_reducible assumption) | assumption)
       have q192 : x7_1 < (t188.length : Int) := of_decide_eq_true (by first | (with_reducible assumption) | assumption)
       obtain ⟨ad192, e192, hx192_0, hx192_1, hx192_2, hx192_3⟩ := at_T49 (Kd.R_reads' HO_6.out).2.2 x7_1 p192 q192
       obtain rfl : ad191 = ad192 := (by injection e192)
       replace p192 := eq_true p192
       replace q192 := eq_true q192
       refine start_ (n := 13) (S := fun w' => w'.cell? (ad191.add ((x7_1).toNat * 4)) = some (.string ((rd_T49 t188 x7_1).f0)) ∧ w'.cell? ⟨(ad191.add ((x7_1).toNat * 4)).block, (ad191.add ((x7_1).toNat * 4)).off + 1, none⟩ = some (.string ((rd_T49 t188 x7_1).f1)) ∧ w'.cell? ⟨(ad191.add ((x7_1).toNat * 4)).block, (ad191.add ((x7_1).toNat * 4)).off + 2, none⟩ = some (.string ((rd_T49 t188 x7_1).f2)) ∧ w'.cell? ⟨(ad191.add ((x7_1).toNat * 4)).block, (ad191.add ((x7_1).toNat * 4)).off + 3, none⟩ = some (.int .i64 ((rd_T49 t188 x7_1).f3)) ∧ w'.cell? (ad191.add ((x7_1).toNat * 4)) = some (.string ((rd_T49 t188 x7_1).f0)) ∧ w'.cell? ⟨(ad191.add ((x7_1).toNat * 4)).block, (ad191.add ((x7_1).toNat * 4)).off + 1, none⟩ = some (.string ((rd_T49 t188 x7_1).f1)) ∧ w'.cell? ⟨(ad191.add ((x7_1).toNat * 4)).block, (ad191.add ((x7_1).toNat * 4)).off + 2, none⟩ = some (.string ((rd_T49 t188 x7_1).f2)) ∧ w'.cell? ⟨(ad191.add ((x7_1).toNat * 4)).block, (ad191.add ((x7_1).toNat * 4)).off + 3, none⟩ = some (.int .i64 ((rd_T49 t188 x7_1).f3))) (ds := []) #[false, false, false, false, false, false, false, false, false, false, false, false, false] (by kernel_rfl) rfl rfl ⟨hx191_0, hx191_1, hx191_2, hx191_3, hx192_0, hx192_1, hx192_2, hx192_3⟩ (fun hHeld => ?_); refine with_tabW giroref39_Postings.tab6 giroref39_Postings.bits6 (fun HT_ HW_ => ?_)
       generalize wr.drew = w12 at HO_5 HO_6 BK187 HB hx191_0 hx191_1 hx191_2 hx191_3 hx192_0 hx192_1 hx192_2 hx192_3 hHeld ⊢
       refine pure_ (i := 0) (N := some 17) (v := ?_) (a' := ?_) #[true, false, false, false, false, false, false, false, false, false, false, false, false] rfl rfl (any_of HT_.out (by kernel_rfl)) (fun _ _ _ h => h) (Or.inl ⟨by rfl, ?_⟩) ?_ ?_
       rotate_left
       ·intro w'
        go_simp
        with_reducible rfl
       rotate_left
       ·simp only [Act.put, List.setIfInBounds_toArray, List.set_cons_zero, List.set_cons_succ, i64_w, i32_w]
        rfl
       refine pure_ (i := 1) (N := some 18) (v := ?_) (a' := ?_) #[true, true, false, false, false, false, false, false, false, false, false, false, false] rfl rfl (any_of HT_.out (by kernel_rfl)) (fun _ _ _ h => h) (Or.inl ⟨by rfl, ?_⟩) ?_ ?_
       rotate_left
       ·intro w'
        go_simp
        with_reducible rfl
       rotate_left
       ·simp only [Act.put, List.setIfInBounds_toArray, List.set_cons_zero, List.set_cons_succ, i64_w, i32_w]
        rfl
       refine pure_ (i := 2) (N := some 19) (v := ?_) (a' := ?_) #[true, true, true, false, false, false, false, false, false, false, false, false, false] rfl rfl (any_of HT_.out (by kernel_rfl)) (fun _ _ _ h => h) (Or.inl ⟨by rfl, ?_⟩) ?_ ?_
       rotate_left
       ·intro w'
        go_simp
        with_reducible rfl
       rotate_left
       ·simp only [Act.put, List.setIfInBounds_toArray, List.set_cons_zero, List.set_cons_succ, i64_w, i32_w]
        rfl
       refine pure_ (i := 3) (N := some 20) (v := ?_) (a' := ?_) #[true, true, true, true, false, false, false, false, false, false, false, false, false] rfl rfl (any_of HT_.out (by kernel_rfl)) (fun _ _ _ h => h) (Or.inl ⟨by rfl, ?_⟩) ?_ ?_
       rotate_left
       ·intro w'
        go_simp
        with_reducible rfl
       rotate_left
       ·simp only [Act.put, List.setIfInBounds_toArray, List.set_cons_zero, List.set_cons_succ, i64_w, i32_w]
        rfl
       refine pure_ (i := 5) (N := some 22) (v := ?_) (a' := ?_) #[true, true, true, true, false, true, false, false, false, false, false, false, false] rfl rfl (any_of HT_.out (by kernel_rfl)) (fun _ _ _ h => h) (Or.inl ⟨by rfl, ?_⟩) ?_ ?_
       rotate_left
       ·intro w'
        go_simp
        with_reducible rfl
       rotate_left
       ·simp only [Act.put, List.setIfInBounds_toArray, List.set_cons_zero, List.set_cons_succ, i64_w, i32_w]
        rfl
       refine pure_ (i := 6) (N := some 23) (v := ?_) (a' := ?_) #[true, true, true, true, false, true, true, false, false, false, false, false, false] rfl rfl (any_of HT_.out (by kernel_rfl)) (fun _ _ _ h => h) (Or.inl ⟨by rfl, ?_⟩) ?_ ?_
       rotate_left
       ·intro w'
        go_simp
        with_reducible rfl
       rotate_left
       ·simp only [Act.put, List.setIfInBounds_toArray, List.set_cons_zero, List.set_cons_succ, i64_w, i32_w]
        rfl
       refine pure_ (i := 7) (N := some 24) (v := ?_) (a' := ?_) #[true, true, true, true, false, true, true, true, false, false, false, false, false] rfl rfl (any_of HT_.out (by kernel_rfl)) (fun _ _ _ h => h) (Or.inl ⟨by rfl, ?_⟩) ?_ ?_
       rotate_left
       ·intro w'
        go_simp
        with_reducible rfl
       rotate_left
       ·simp only [Act.put, List.setIfInBounds_toArray, List.set_cons_zero, List.set_cons_succ, i64_w, i32_w]
        rfl
       refine pure_ (i := 8) (N := some 25) (v := ?_) (a' := ?_) #[true, true, true, true, false, true, true, true, true, false, false, false, false] rfl rfl (any_of HT_.out (by kernel_rfl)) (fun _ _ _ h => h) (Or.inl ⟨by rfl, ?_⟩) ?_ ?_
       rotate_left
       ·intro w'
        go_simp
        with_reducible rfl
       rotate_left
       ·simp only [Act.put, List.setIfInBounds_toArray, List.set_cons_zero, List.set_cons_succ, i64_w, i32_w]
        rfl
       refine take_ (i := 4) (N := some 21) (v := ?_) (a' := ?_) #[true, true, true, true, true, true, true, true, true, false, false, false, false] rfl rfl (take_ofW HT_.out HW_.out (by kernel_rfl)) (fun _ _ _ h => h) (Or.inl ⟨by rfl, ?_⟩) hHeld ?_ ?_
       rotate_left
       ·rintro w' ⟨s0, s1, s2, s3, s4, s5, s6, s7⟩
        go_simp
        with_reducible rfl
       rotate_left
       ·simp only [Act.put, List.setIfInBounds_toArray, List.set_cons_zero, List.set_cons_succ, i64_w, i32_w]
        rfl
       refine take_ (i := 9) (N := some 26) (v := ?_) (a' := ?_) #[true, true, true, true, true, true, true, true, true, true, false, false, false] rfl rfl (take_ofW HT_.out HW_.out (by kernel_rfl)) (fun _ _ _ h => h) (Or.inl ⟨by rfl, ?_⟩) hHeld ?_ ?_
       rotate_left
       ·rintro w' ⟨s0, s1, s2, s3, s4, s5, s6, s7⟩
        go_simp
        with_reducible rfl
       rotate_left
       ·simp only [Act.put, List.setIfInBounds_toArray, List.set_cons_zero, List.set_cons_succ, i64_w, i32_w]
        rfl
       refine pure_ (i := 10) (N := some 27) (v := ?_) (a' := ?_) #[true, true, true, true, true, true, true, true, true, true, true, false, false] rfl rfl (any_of HT_.out (by kernel_rfl)) (fun _ _ _ h => h) (Or.inl ⟨by rfl, ?_⟩) ?_ ?_
       rotate_left
       ·intro w'
        go_simp
        with_reducible rfl
       rotate_left
       ·simp only [Act.put, List.setIfInBounds_toArray, List.set_cons_zero, List.set_cons_succ, i64_w, i32_w]
        rfl
       refine one_ (i := 11) (N := some 8) #[true, true, true, true, true, true, true, true, true, true, true, true, false] rfl rfl (one_of HT_.out (by kernel_rfl)) (by decide) (fun K hK => ?_)
       refine box_step ?hg (N := 8) ?hd (cs := #[.string (⟨#[]⟩ : ByteArray), .int .i64 0, .string (⟨#[]⟩ : ByteArray)]) (t := 75) ?hr ?_; (case hd => rfl); (case hg => rfl); (case hr => first | (go_simp; done) | (go_simp; rfl))
       intro gb193 hg w13 hbox hb
       have HS0_ := (hb.cell (World.block_lt_of_cell? _ _ (hHeld.1))).trans (hHeld.1)
       have HS1_ := (hb.cell (World.block_lt_of_cell? _ _ (hHeld.2.1))).trans (hHeld.2.1)
       have HS2_ := (hb.cell (World.block_lt_of_cell? _ _ (hHeld.2.2.1))).trans (hHeld.2.2.1)
       have HS3_ := (hb.cell (World.block_lt_of_cell? _ _ (hHeld.2.2.2.1))).trans (hHeld.2.2.2.1)
       have HS4_ := (hb.cell (World.block_lt_of_cell? _ _ (hHeld.2.2.2.2.1))).trans (hHeld.2.2.2.2.1)
       have HS5_ := (hb.cell (World.block_lt_of_cell? _ _ (hHeld.2.2.2.2.2.1))).trans (hHeld.2.2.2.2.2.1)
       have HS6_ := (hb.cell (World.block_lt_of_cell? _ _ (hHeld.2.2.2.2.2.2.1))).trans (hHeld.2.2.2.2.2.2.1)
       have HS7_ := (hb.cell (World.block_lt_of_cell? _ _ (hHeld.2.2.2.2.2.2.2))).trans (hHeld.2.2.2.2.2.2.2)
       have n0_ := Aside0.mk (Kd.R_below (by (with_reducible repeat (first | apply Kd.R_alloc | apply Kd.R_drewN | apply Kd.R_drew)); exact HO_5.out) hb)
       have n1_ := Aside0.mk (Kd.R_below (by (with_reducible repeat (first | apply Kd.R_alloc | apply Kd.R_drewN | apply Kd.R_drew)); exact HO_6.out) hb)
       have n2_ := Aside0.mk (blk_below (g := gb187) (o := .cells #[.int .i64 a0_0, .string a0_1, .string a0_2, .string a0_3, .int .i64 a0_4, .int .i64 a0_5, .int .i64 a0_6, .int .i64 a0_7, .int .i64 a0_8, .bool a0_9, .int .i64 a0_10, .string a0_11, .string a0_12] 24 (0, 0)) (by (with_reducible repeat (first | refine blk_drewN ?_ _ | refine blk_drew ?_ | refine blk_alloc ?_ _)); exact BK187.out) hb)
       have n3_ := Aside0.mk (below_step (by repeat (first | (with_reducible first | exact HB.out | apply below_alloc | apply pw_below_drewN | apply below_drew1 | refine below_set ?_ GE187.out) | exact HB.out)) hb)
       have n4_ := Aside0.mk (hbox)
       have n5_ := Aside0.mk ((by rw [hg]; exact (below_size (by repeat (first | (with_reducible first | exact HB.out | apply below_alloc | apply pw_below_drewN | apply below_drew1 | refine below_set ?_ GE187.out) | exact HB.out))) : w.heap.size ≤ gb193))
       have n6_ := Aside0.mk ((by rw [hg]; exact (below_size (by repeat (first | (with_reducible first | exact HB.out | apply below_alloc | apply pw_below_drewN | apply below_drew1 | refine below_set ?_ GE187.out) | exact HB.out))) : w.heap.size ≤ gb193))
       have n7_ := Aside0.mk ((by rw [hg]; exact Nat.ne_of_lt (blk_lt (g := gb187) (o := .cells #[.int .i64 a0_0, .string a0_1, .string a0_2, .string a0_3, .int .i64 a0_4, .int .i64 a0_5, .int .i64 a0_6, .int .i64 a0_7, .int .i64 a0_8, .bool a0_9, .int .i64 a0_10, .string a0_11, .string a0_12] 24 (0, 0)) (by (with_reducible repeat (first | refine blk_drewN ?_ _ | refine blk_drew ?_ | refine blk_alloc ?_ _)); exact BK187.out)) : gb187 ≠ gb193))
       have n8_ := Aside0.mk ((by rw [hg]; exact Nat.ne_of_gt (blk_lt (g := gb187) (o := .cells #[.int .i64 a0_0, .string a0_1, .string a0_2, .string a0_3, .int .i64 a0_4, .int .i64 a0_5, .int .i64 a0_6, .int .i64 a0_7, .int .i64 a0_8, .bool a0_9, .int .i64 a0_10, .string a0_11, .string a0_12] 24 (0, 0)) (by (with_reducible repeat (first | refine blk_drewN ?_ _ | refine blk_drew ?_ | refine blk_alloc ?_ _)); exact BK187.out)) : gb193 ≠ gb187))
       clear HO_5
       clear HO_6
       clear BK187
       clear HB
       have HO_5 := n0_
       have HO_6 := n1_
       have BK187 := n2_
       have HB := n3_
       have BK193 := n4_
       have GW193 := n5_
       have GE193 := n6_
       have NB187_193 := n7_
       have NB193_187 := n8_
       clear n0_ n1_ n2_ n3_ n4_ n5_ n6_ n7_ n8_
       clear hb hbox hg
       refine hK.out _ _ ⟨HS0_, HS1_, HS2_, HS3_, HS4_, HS5_, HS6_, HS7_⟩ (fun hHeld => ?_)
       clear hK K
       refine norm_ (a' := ?_) ?_ ?_
       rotate_left
       ·show Act.put _ (some 8) _ = _
        simp only [Act.put, List.setIfInBounds_toArray, List.set_cons_zero, List.set_cons_succ, i64_w, i32_w]
        rfl
       refine one_ (i := 12) (N := none) #[true, true, true, true, true, true, true, true, true, true, true, true, true] rfl rfl (one_of HT_.out (by kernel_rfl)) (by decide) (fun K hK => ?_)
       have hs14 : w13.cell? ⟨gb193, 0, none⟩ = some (.string (⟨#[]⟩ : ByteArray)) := (blk_cell BK193.out 0).trans rfl
       have hfs14 := blk_frozen BK193.out 0
       have hns14_0 := NB187_193.out
       have hms14_0 := NB193_187.out
       have hs15 : w13.cell? ⟨gb193, 1, none⟩ = some (.int .i64 0) := (blk_cell BK193.out 1).trans rfl
       have hfs15 := blk_frozen BK193.out 1
       have hns15_0 := NB187_193.out
       have hms15_0 := NB193_187.out
       have hs16 : w13.cell? ⟨gb193, 2, none⟩ = some (.string (⟨#[]⟩ : ByteArray)) := (blk_cell BK193.out 2).trans rfl
       have hfs16 := blk_frozen BK193.out 2
       have hns16_0 := NB187_193.out
       have hms16_0 := NB193_187.out
       refine skip_ (w1 := ?_) (by rfl) rfl ?_ ?_
       rotate_left
       ·go_simp
        rfl
       refine hK.out _ _ ⟨((cell_far (p := ⟨gb193, _, none⟩) (by first | exact Kd.own_blk (Kd.R_ne HO_6.out BK193.out (by decide)) | (rw [add_block]; exact Kd.own_blk (Kd.R_ne HO_6.out BK193.out (by decide))) | (show (Addr.add _ _).block ≠ _; rw [add_block]; exact Kd.own_blk (Kd.R_ne HO_6.out BK193.out (by decide))) | (dsimp only; exact Kd.own_blk (Kd.R_ne HO_6.out BK193.out (by decide)))) _).trans (((cell_far (p := ⟨gb193, _, none⟩) (by first | exact Kd.own_blk (Kd.R_ne HO_6.out BK193.out (by decide)) | (rw [add_block]; exact Kd.own_blk (Kd.R_ne HO_6.out BK193.out (by decide))) | (show (Addr.add _ _).block ≠ _; rw [add_block]; exact Kd.own_blk (Kd.R_ne HO_6.out BK193.out (by decide))) | (dsimp only; exact Kd.own_blk (Kd.R_ne HO_6.out BK193.out (by decide)))) _).trans (((cell_far (p := ⟨gb193, _, none⟩) (by first | exact Kd.own_blk (Kd.R_ne HO_6.out BK193.out (by decide)) | (rw [add_block]; exact Kd.own_blk (Kd.R_ne HO_6.out BK193.out (by decide))) | (show (Addr.add _ _).block ≠ _; rw [add_block]; exact Kd.own_blk (Kd.R_ne HO_6.out BK193.out (by decide))) | (dsimp only; exact Kd.own_blk (Kd.R_ne HO_6.out BK193.out (by decide)))) _).trans (hHeld.1)))))), ((cell_far (p := ⟨gb193, _, none⟩) (by first | exact Kd.own_blk (Kd.R_ne HO_6.out BK193.out (by decide)) | (rw [add_block]; exact Kd.own_blk (Kd.R_ne HO_6.out BK193.out (by decide))) | (show (Addr.add _ _).block ≠ _; rw [add_block]; exact Kd.own_blk (Kd.R_ne HO_6.out BK193.out (by decide))) | (dsimp only; exact Kd.own_blk (Kd.R_ne HO_6.out BK193.out (by decide)))) _).trans (((cell_far (p := ⟨gb193, _, none⟩) (by first | exact Kd.own_blk (Kd.R_ne HO_6.out BK193.out (by decide)) | (rw [add_block]; exact Kd.own_blk (Kd.R_ne HO_6.out BK193.out (by decide))) | (show (Addr.add _ _).block ≠ _; rw [add_block]; exact Kd.own_blk (Kd.R_ne HO_6.out BK193.out (by decide))) | (dsimp only; exact Kd.own_blk (Kd.R_ne HO_6.out BK193.out (by decide)))) _).trans (((cell_far (p := ⟨gb193, _, none⟩) (by first | exact Kd.own_blk (Kd.R_ne HO_6.out BK193.out (by decide)) | (rw [add_block]; exact Kd.own_blk (Kd.R_ne HO_6.out BK193.out (by decide))) | (show (Addr.add _ _).block ≠ _; rw [add_block]; exact Kd.own_blk (Kd.R_ne HO_6.out BK193.out (by decide))) | (dsimp only; exact Kd.own_blk (Kd.R_ne HO_6.out BK193.out (by decide)))) _).trans (hHeld.2.1)))))), ((cell_far (p := ⟨gb193, _, none⟩) (by first | exact Kd.own_blk (Kd.R_ne HO_6.out BK193.out (by decide)) | (rw [add_block]; exact Kd.own_blk (Kd.R_ne HO_6.out BK193.out (by decide))) | (show (Addr.add _ _).block ≠ _; rw [add_block]; exact Kd.own_blk (Kd.R_ne HO_6.out BK193.out (by decide))) | (dsimp only; exact Kd.own_blk (Kd.R_ne HO_6.out BK193.out (by decide)))) _).trans (((cell_far (p := ⟨gb193, _, none⟩) (by first | exact Kd.own_blk (Kd.R_ne HO_6.out BK193.out (by decide)) | (rw [add_block]; exact Kd.own_blk (Kd.R_ne HO_6.out BK193.out (by decide))) | (show (Addr.add _ _).block ≠ _; rw [add_block]; exact Kd.own_blk (Kd.R_ne HO_6.out BK193.out (by decide))) | (dsimp only; exact Kd.own_blk (Kd.R_ne HO_6.out BK193.out (by decide)))) _).trans (((cell_far (p := ⟨gb193, _, none⟩) (by first | exact Kd.own_blk (Kd.R_ne HO_6.out BK193.out (by decide)) | (rw [add_block]; exact Kd.own_blk (Kd.R_ne HO_6.out BK193.out (by decide))) | (show (Addr.add _ _).block ≠ _; rw [add_block]; exact Kd.own_blk (Kd.R_ne HO_6.out BK193.out (by decide))) | (dsimp only; exact Kd.own_blk (Kd.R_ne HO_6.out BK193.out (by decide)))) _).trans (hHeld.2.2.1)))))), ((cell_far (p := ⟨gb193, _, none⟩) (by first | exact Kd.own_blk (Kd.R_ne HO_6.out BK193.out (by decide)) | (rw [add_block]; exact Kd.own_blk (Kd.R_ne HO_6.out BK193.out (by decide))) | (show (Addr.add _ _).block ≠ _; rw [add_block]; exact Kd.own_blk (Kd.R_ne HO_6.out BK193.out (by decide))) | (dsimp only; exact Kd.own_blk (Kd.R_ne HO_6.out BK193.out (by decide)))) _).trans (((cell_far (p := ⟨gb193, _, none⟩) (by first | exact Kd.own_blk (Kd.R_ne HO_6.out BK193.out (by decide)) | (rw [add_block]; exact Kd.own_blk (Kd.R_ne HO_6.out BK193.out (by decide))) | (show (Addr.add _ _).block ≠ _; rw [add_block]; exact Kd.own_blk (Kd.R_ne HO_6.out BK193.out (by decide))) | (dsimp only; exact Kd.own_blk (Kd.R_ne HO_6.out BK193.out (by decide)))) _).trans (((cell_far (p := ⟨gb193, _, none⟩) (by first | exact Kd.own_blk (Kd.R_ne HO_6.out BK193.out (by decide)) | (rw [add_block]; exact Kd.own_blk (Kd.R_ne HO_6.out BK193.out (by decide))) | (show (Addr.add _ _).block ≠ _; rw [add_block]; exact Kd.own_blk (Kd.R_ne HO_6.out BK193.out (by decide))) | (dsimp only; exact Kd.own_blk (Kd.R_ne HO_6.out BK193.out (by decide)))) _).trans (hHeld.2.2.2.1)))))), ((cell_far (p := ⟨gb193, _, none⟩) (by first | exact Kd.own_blk (Kd.R_ne HO_6.out BK193.out (by decide)) | (rw [add_block]; exact Kd.own_blk (Kd.R_ne HO_6.out BK193.out (by decide))) | (show (Addr.add _ _).block ≠ _; rw [add_block]; exact Kd.own_blk (Kd.R_ne HO_6.out BK193.out (by decide))) | (dsimp only; exact Kd.own_blk (Kd.R_ne HO_6.out BK193.out (by decide)))) _).trans (((cell_far (p := ⟨gb193, _, none⟩) (by first | exact Kd.own_blk (Kd.R_ne HO_6.out BK193.out (by decide)) | (rw [add_block]; exact Kd.own_blk (Kd.R_ne HO_6.out BK193.out (by decide))) | (show (Addr.add _ _).block ≠ _; rw [add_block]; exact Kd.own_blk (Kd.R_ne HO_6.out BK193.out (by decide))) | (dsimp only; exact Kd.own_blk (Kd.R_ne HO_6.out BK193.out (by decide)))) _).trans (((cell_far (p := ⟨gb193, _, none⟩) (by first | exact Kd.own_blk (Kd.R_ne HO_6.out BK193.out (by decide)) | (rw [add_block]; exact Kd.own_blk (Kd.R_ne HO_6.out BK193.out (by decide))) | (show (Addr.add _ _).block ≠ _; rw [add_block]; exact Kd.own_blk (Kd.R_ne HO_6.out BK193.out (by decide))) | (dsimp only; exact Kd.own_blk (Kd.R_ne HO_6.out BK193.out (by decide)))) _).trans (hHeld.2.2.2.2.1)))))), ((cell_far (p := ⟨gb193, _, none⟩) (by first | exact Kd.own_blk (Kd.R_ne HO_6.out BK193.out (by decide)) | (rw [add_block]; exact Kd.own_blk (Kd.R_ne HO_6.out BK193.out (by decide))) | (show (Addr.add _ _).block ≠ _; rw [add_block]; exact Kd.own_blk (Kd.R_ne HO_6.out BK193.out (by decide))) | (dsimp only; exact Kd.own_blk (Kd.R_ne HO_6.out BK193.out (by decide)))) _).trans (((cell_far (p := ⟨gb193, _, none⟩) (by first | exact Kd.own_blk (Kd.R_ne HO_6.out BK193.out (by decide)) | (rw [add_block]; exact Kd.own_blk (Kd.R_ne HO_6.out BK193.out (by decide))) | (show (Addr.add _ _).block ≠ _; rw [add_block]; exact Kd.own_blk (Kd.R_ne HO_6.out BK193.out (by decide))) | (dsimp only; exact Kd.own_blk (Kd.R_ne HO_6.out BK193.out (by decide)))) _).trans (((cell_far (p := ⟨gb193, _, none⟩) (by first | exact Kd.own_blk (Kd.R_ne HO_6.out BK193.out (by decide)) | (rw [add_block]; exact Kd.own_blk (Kd.R_ne HO_6.out BK193.out (by decide))) | (show (Addr.add _ _).block ≠ _; rw [add_block]; exact Kd.own_blk (Kd.R_ne HO_6.out BK193.out (by decide))) | (dsimp only; exact Kd.own_blk (Kd.R_ne HO_6.out BK193.out (by decide)))) _).trans (hHeld.2.2.2.2.2.1)))))), ((cell_far (p := ⟨gb193, _, none⟩) (by first | exact Kd.own_blk (Kd.R_ne HO_6.out BK193.out (by decide)) | (rw [add_block]; exact Kd.own_blk (Kd.R_ne HO_6.out BK193.out (by decide))) | (show (Addr.add _ _).block ≠ _; rw [add_block]; exact Kd.own_blk (Kd.R_ne HO_6.out BK193.out (by decide))) | (dsimp only; exact Kd.own_blk (Kd.R_ne HO_6.out BK193.out (by decide)))) _).trans (((cell_far (p := ⟨gb193, _, none⟩) (by first | exact Kd.own_blk (Kd.R_ne HO_6.out BK193.out (by decide)) | (rw [add_block]; exact Kd.own_blk (Kd.R_ne HO_6.out BK193.out (by decide))) | (show (Addr.add _ _).block ≠ _; rw [add_block]; exact Kd.own_blk (Kd.R_ne HO_6.out BK193.out (by decide))) | (dsimp only; exact Kd.own_blk (Kd.R_ne HO_6.out BK193.out (by decide)))) _).trans (((cell_far (p := ⟨gb193, _, none⟩) (by first | exact Kd.own_blk (Kd.R_ne HO_6.out BK193.out (by decide)) | (rw [add_block]; exact Kd.own_blk (Kd.R_ne HO_6.out BK193.out (by decide))) | (show (Addr.add _ _).block ≠ _; rw [add_block]; exact Kd.own_blk (Kd.R_ne HO_6.out BK193.out (by decide))) | (dsimp only; exact Kd.own_blk (Kd.R_ne HO_6.out BK193.out (by decide)))) _).trans (hHeld.2.2.2.2.2.2.1)))))), ((cell_far (p := ⟨gb193, _, none⟩) (by first | exact Kd.own_blk (Kd.R_ne HO_6.out BK193.out (by decide)) | (rw [add_block]; exact Kd.own_blk (Kd.R_ne HO_6.out BK193.out (by decide))) | (show (Addr.add _ _).block ≠ _; rw [add_block]; exact Kd.own_blk (Kd.R_ne HO_6.out BK193.out (by decide))) | (dsimp only; exact Kd.own_blk (Kd.R_ne HO_6.out BK193.out (by decide)))) _).trans (((cell_far (p := ⟨gb193, _, none⟩) (by first | exact Kd.own_blk (Kd.R_ne HO_6.out BK193.out (by decide)) | (rw [add_block]; exact Kd.own_blk (Kd.R_ne HO_6.out BK193.out (by decide))) | (show (Addr.add _ _).block ≠ _; rw [add_block]; exact Kd.own_blk (Kd.R_ne HO_6.out BK193.out (by decide))) | (dsimp only; exact Kd.own_blk (Kd.R_ne HO_6.out BK193.out (by decide)))) _).trans (((cell_far (p := ⟨gb193, _, none⟩) (by first | exact Kd.own_blk (Kd.R_ne HO_6.out BK193.out (by decide)) | (rw [add_block]; exact Kd.own_blk (Kd.R_ne HO_6.out BK193.out (by decide))) | (show (Addr.add _ _).block ≠ _; rw [add_block]; exact Kd.own_blk (Kd.R_ne HO_6.out BK193.out (by decide))) | (dsimp only; exact Kd.own_blk (Kd.R_ne HO_6.out BK193.out (by decide)))) _).trans (hHeld.2.2.2.2.2.2.2))))))⟩ (fun hHeld => ?_)
       clear hK K
       refine done_ (done_of HT_.out (by kernel_rfl)) ?_
       have hnb17 := NB193_187.out
       have hnc17 := NB187_193.out
       have hcz18_0 : w13.cell? ⟨gb193, 0, none⟩ = some (.string (⟨#[]⟩ : ByteArray)) := (blk_cell BK193.out 0).trans rfl
       have hcz18_1 : w13.cell? ⟨gb193, 1, none⟩ = some (.int .i64 0) := (blk_cell BK193.out 1).trans rfl
       have hcz18_2 : w13.cell? ⟨gb193, 2, none⟩ = some (.string (⟨#[]⟩ : ByteArray)) := (blk_cell BK193.out 2).trans rfl
       have hfz18_0 := blk_frozen BK193.out 0
       have hfz18_1 := blk_frozen BK193.out 1
       have hfz18_2 := blk_frozen BK193.out 2
       try go_wp2
       have n0_ : Aside0 (Kd.R k77 77 ((((w13.setCell ⟨gb193, 0, none⟩ (.string ((rd_T49 t188 x7_1).f0))).setCell ⟨gb193, 1, none⟩ (.int .i64 0)).setCell ⟨gb193, 2, none⟩ (.string ((rd_T49 t188 x7_1).f2))).setCell ⟨gb193, 1, none⟩ (.int .i64 a1)) w.heap.size (fun _ => True) u5 x5_1) := ⟨by (with_reducible repeat (first | apply Kd.R_alloc | apply Kd.R_drewN | apply Kd.R_drew)); exact Kd.R_mono (Kd.R_far (p := ⟨gb193, 1, none⟩) (Kd.R_far (p := ⟨gb193, 2, none⟩) (Kd.R_far (p := ⟨gb193, 1, none⟩) (Kd.R_far (p := ⟨gb193, 0, none⟩) (Kd.R_types HO_5.out BK193.out (by decide)) (fun _ hk => hk.2) (.string ((rd_T49 t188 x7_1).f0))) (fun _ hk => hk.2) (.int .i64 0)) (fun _ hk => hk.2) (.string ((rd_T49 t188 x7_1).f2))) (fun _ hk => hk.2) (.int .i64 a1)) (fun _ hk => trivial)⟩
       have n1_ : Aside0 (Kd.R k49 49 ((((w13.setCell ⟨gb193, 0, none⟩ (.string ((rd_T49 t188 x7_1).f0))).setCell ⟨gb193, 1, none⟩ (.int .i64 0)).setCell ⟨gb193, 2, none⟩ (.string ((rd_T49 t188 x7_1).f2))).setCell ⟨gb193, 1, none⟩ (.int .i64 a1)) w.heap.size (fun _ => True) (.slice (some ad191) t188.length co11) t188) := ⟨by (with_reducible repeat (first | apply Kd.R_alloc | apply Kd.R_drewN | apply Kd.R_drew)); exact Kd.R_mono (Kd.R_far (p := ⟨gb193, 1, none⟩) (Kd.R_far (p := ⟨gb193, 2, none⟩) (Kd.R_far (p := ⟨gb193, 1, none⟩) (Kd.R_far (p := ⟨gb193, 0, none⟩) (Kd.R_types HO_6.out BK193.out (by decide)) (fun _ hk => hk.2) (.string ((rd_T49 t188 x7_1).f0))) (fun _ hk => hk.2) (.int .i64 0)) (fun _ hk => hk.2) (.string ((rd_T49 t188 x7_1).f2))) (fun _ hk => hk.2) (.int .i64 a1)) (fun _ hk => trivial)⟩
       have n2_ : Aside0 (((((w13.setCell ⟨gb193, 0, none⟩ (.string ((rd_T49 t188 x7_1).f0))).setCell ⟨gb193, 1, none⟩ (.int .i64 0)).setCell ⟨gb193, 2, none⟩ (.string ((rd_T49 t188 x7_1).f2))).setCell ⟨gb193, 1, none⟩ (.int .i64 a1)).heap[gb187]? = some (.cells #[.int .i64 a0_0, .string a0_1, .string a0_2, .string a0_3, .int .i64 a0_4, .int .i64 a0_5, .int .i64 a0_6, .int .i64 a0_7, .int .i64 a0_8, .bool a0_9, .int .i64 a0_10, .string a0_11, .string a0_12] 24 (0, 0))) := ⟨by (with_reducible repeat (first | refine blk_drewN ?_ _ | refine blk_drew ?_ | refine blk_alloc ?_ _)); refine blk_far ?_ NB187_193.out _; (with_reducible repeat (first | refine blk_drewN ?_ _ | refine blk_drew ?_ | refine blk_alloc ?_ _)); refine blk_far ?_ NB187_193.out _; (with_reducible repeat (first | refine blk_drewN ?_ _ | refine blk_drew ?_ | refine blk_alloc ?_ _)); refine blk_far ?_ NB187_193.out _; (with_reducible repeat (first | refine blk_drewN ?_ _ | refine blk_drew ?_ | refine blk_alloc ?_ _)); refine blk_far ?_ NB187_193.out _; (with_reducible repeat (first | refine blk_drewN ?_ _ | refine blk_drew ?_ | refine blk_alloc ?_ _)); exact BK187.out⟩
       have n3_ : Aside0 (((((w13.setCell ⟨gb193, 0, none⟩ (.string ((rd_T49 t188 x7_1).f0))).setCell ⟨gb193, 1, none⟩ (.int .i64 0)).setCell ⟨gb193, 2, none⟩ (.string ((rd_T49 t188 x7_1).f2))).setCell ⟨gb193, 1, none⟩ (.int .i64 a1)).heap[gb193]? = some (.cells #[.string ((rd_T49 t188 x7_1).f0), .int .i64 a1, .string ((rd_T49 t188 x7_1).f2)] 75 (0, 0))) := ⟨by (with_reducible repeat (first | refine blk_drewN ?_ _ | refine blk_drew ?_ | refine blk_alloc ?_ _)); refine blk_put (cs := #[.string ((rd_T49 t188 x7_1).f0), .int .i64 0, .string ((rd_T49 t188 x7_1).f2)]) ?_ 1 _ rfl; (with_reducible repeat (first | refine blk_drewN ?_ _ | refine blk_drew ?_ | refine blk_alloc ?_ _)); refine blk_put (cs := #[.string ((rd_T49 t188 x7_1).f0), .int .i64 0, .string (⟨#[]⟩ : ByteArray)]) ?_ 2 _ rfl; (with_reducible repeat (first | refine blk_drewN ?_ _ | refine blk_drew ?_ | refine blk_alloc ?_ _)); refine blk_put (cs := #[.string ((rd_T49 t188 x7_1).f0), .int .i64 0, .string (⟨#[]⟩ : ByteArray)]) ?_ 1 _ rfl; (with_reducible repeat (first | refine blk_drewN ?_ _ | refine blk_drew ?_ | refine blk_alloc ?_ _)); refine blk_put (cs := #[.string (⟨#[]⟩ : ByteArray), .int .i64 0, .string (⟨#[]⟩ : ByteArray)]) ?_ 0 _ rfl; (with_reducible repeat (first | refine blk_drewN ?_ _ | refine blk_drew ?_ | refine blk_alloc ?_ _)); exact BK193.out⟩
       have n4_ : Aside0 (Below w.heap.size w ((((w13.setCell ⟨gb193, 0, none⟩ (.string ((rd_T49 t188 x7_1).f0))).setCell ⟨gb193, 1, none⟩ (.int .i64 0)).setCell ⟨gb193, 2, none⟩ (.string ((rd_T49 t188 x7_1).f2))).setCell ⟨gb193, 1, none⟩ (.int .i64 a1))) := ⟨by repeat (first | (with_reducible first | exact HB.out | apply below_alloc | apply pw_below_drewN | apply below_drew1 | refine below_set ?_ GE187.out | refine below_set ?_ GE193.out) | exact HB.out)⟩
       (try clear HO_5)
       (try clear HO_6)
       (try clear BK187)
       (try clear BK193)
       (try clear HB)
       generalize ((((w13.setCell ⟨gb193, 0, none⟩ (.string ((rd_T49 t188 x7_1).f0))).setCell ⟨gb193, 1, none⟩ (.int .i64 0)).setCell ⟨gb193, 2, none⟩ (.string ((rd_T49 t188 x7_1).f2))).setCell ⟨gb193, 1, none⟩ (.int .i64 a1)) = w19 at n0_ n1_ n2_ n3_ n4_ ⊢
       have HO_5 := n0_
       have HO_6 := n1_
       have BK187 := n2_
       have BK193 := n3_
       have HB := n4_
       clear n0_ n1_ n2_ n3_ n4_
       have n0_ := Aside0.mk (Kd.R_drew HO_5.out)
       have n1_ := Aside0.mk (Kd.R_drew HO_6.out)
       have n2_ := Aside0.mk (blk_drew BK187.out)
       have n3_ := Aside0.mk (blk_drew BK193.out)
       have n4_ := Aside0.mk (below_drew1 HB.out)
       clear HO_5
       clear HO_6
       clear BK187
       clear BK193
       clear HB
       have HO_5 := n0_
       have HO_6 := n1_
       have BK187 := n2_
       have BK193 := n3_
       have HB := n4_
       clear n0_ n1_ n2_ n3_ n4_
       have p194 : 0 ≤ (x7_1 : Int) := of_decide_eq_true (by first | (with_reducible assumption) | assumption)
       have q194 : x7_1 < (t188.length : Int) := of_decide_eq_true (by first | (with_reducible assumption) | assumption)
       obtain ⟨ad194, e194, hx194_0, hx194_1, hx194_2, hx194_3⟩ := at_T49 (Kd.R_reads' HO_6.out).2.2 x7_1 p194 q194
       obtain rfl : ad191 = ad194 := (by injection e194)
       replace p194 := eq_true p194
       replace q194 := eq_true q194
       have p195 : 0 ≤ (x7_1 : Int) := of_decide_eq_true (by first | (with_reducible assumption) | assumption)
       have q195 : x7_1 < (t188.length : Int) := of_decide_eq_true (by first | (with_reducible assumption) | assumption)
       obtain ⟨ad195, e195, hx195_0, hx195_1, hx195_2, hx195_3⟩ := at_T49 (Kd.R_reads' HO_6.out).2.2 x7_1 p195 q195
       obtain rfl : ad191 = ad195 := (by injection e195)
       replace p195 := eq_true p195
       replace q195 := eq_true q195
       have p196 : 0 ≤ (x7_1 : Int) := of_decide_eq_true (by first | (with_reducible assumption) | assumption)
       have q196 : x7_1 < (t188.length : Int) := of_decide_eq_true (by first | (with_reducible assumption) | assumption)
       obtain ⟨ad196, e196, hx196_0, hx196_1, hx196_2, hx196_3⟩ := at_T49 (Kd.R_reads' HO_6.out).2.2 x7_1 p196 q196
       obtain rfl : ad191 = ad196 := (by injection e196)
       replace p196 := eq_true p196
       replace q196 := eq_true q196
       have p197 : 0 ≤ (x7_1 : Int) := of_decide_eq_true (by first | (with_reducible assumption) | assumption)
       have q197 : x7_1 < (t188.length : Int) := of_decide_eq_true (by first | (with_reducible assumption) | assumption)
       obtain ⟨ad197, e197, hx197_0, hx197_1, hx197_2, hx197_3⟩ := at_T49 (Kd.R_reads' HO_6.out).2.2 x7_1 p197 q197
       obtain rfl : ad191 = ad197 := (by injection e197)
       replace p197 := eq_true p197
       replace q197 := eq_true q197
       refine start_ (n := 29) (S := fun w' => w'.cell? ⟨gb193, 0, none⟩ = some (.string ((rd_T49 t188 x7_1).f0)) ∧ w'.cell? ⟨gb193, 1, none⟩ = some (.int .i64 a1) ∧ w'.cell? ⟨gb193, 2, none⟩ = some (.string ((rd_T49 t188 x7_1).f2)) ∧ w'.cell? (ad191.add ((x7_1).toNat * 4)) = some (.string ((rd_T49 t188 x7_1).f0)) ∧ w'.cell? ⟨(ad191.add ((x7_1).toNat * 4)).block, (ad191.add ((x7_1).toNat * 4)).off + 1, none⟩ = some (.string ((rd_T49 t188 x7_1).f1)) ∧ w'.cell? ⟨(ad191.add ((x7_1).toNat * 4)).block, (ad191.add ((x7_1).toNat * 4)).off + 2, none⟩ = some (.string ((rd_T49 t188 x7_1).f2)) ∧ w'.cell? ⟨(ad191.add ((x7_1).toNat * 4)).block, (ad191.add ((x7_1).toNat * 4)).off + 3, none⟩ = some (.int .i64 ((rd_T49 t188 x7_1).f3)) ∧ w'.cell? (ad191.add ((x7_1).toNat * 4)) = some (.string ((rd_T49 t188 x7_1).f0)) ∧ w'.cell? ⟨(ad191.add ((x7_1).toNat * 4)).block, (ad191.add ((x7_1).toNat * 4)).off + 1, none⟩ = some (.string ((rd_T49 t188 x7_1).f1)) ∧ w'.cell? ⟨(ad191.add ((x7_1).toNat * 4)).block, (ad191.add ((x7_1).toNat * 4)).off + 2, none⟩ = some (.string ((rd_T49 t188 x7_1).f2)) ∧ w'.cell? ⟨(ad191.add ((x7_1).toNat * 4)).block, (ad191.add ((x7_1).toNat * 4)).off + 3, none⟩ = some (.int .i64 ((rd_T49 t188 x7_1).f3)) ∧ w'.cell? (ad191.add ((x7_1).toNat * 4)) = some (.string ((rd_T49 t188 x7_1).f0)) ∧ w'.cell? ⟨(ad191.add ((x7_1).toNat * 4)).block, (ad191.add ((x7_1).toNat * 4)).off + 1, none⟩ = some (.string ((rd_T49 t188 x7_1).f1)) ∧ w'.cell? ⟨(ad191.add ((x7_1).toNat * 4)).block, (ad191.add ((x7_1).toNat * 4)).off + 2, none⟩ = some (.string ((rd_T49 t188 x7_1).f2)) ∧ w'.cell? ⟨(ad191.add ((x7_1).toNat * 4)).block, (ad191.add ((x7_1).toNat * 4)).off + 3, none⟩ = some (.int .i64 ((rd_T49 t188 x7_1).f3)) ∧ w'.cell? (ad191.add ((x7_1).toNat * 4)) = some (.string ((rd_T49 t188 x7_1).f0)) ∧ w'.cell? ⟨(ad191.add ((x7_1).toNat * 4)).block, (ad191.add ((x7_1).toNat * 4)).off + 1, none⟩ = some (.string ((rd_T49 t188 x7_1).f1)) ∧ w'.cell? ⟨(ad191.add ((x7_1).toNat * 4)).block, (ad191.add ((x7_1).toNat * 4)).off + 2, none⟩ = some (.string ((rd_T49 t188 x7_1).f2)) ∧ w'.cell? ⟨(ad191.add ((x7_1).toNat * 4)).block, (ad191.add ((x7_1).toNat * 4)).off + 3, none⟩ = some (.int .i64 ((rd_T49 t188 x7_1).f3))) (ds := [27]) #[false, false, false, false, false, false, false, false, false, false, false, false, false, false, false, false, false, false, false, false, false, false, false, false, false, false, false, false, false] (by kernel_rfl) rfl rfl ⟨(blk_cell BK193.out 0).trans rfl, (blk_cell BK193.out 1).trans rfl, (blk_cell BK193.out 2).trans rfl, hx194_0, hx194_1, hx194_2, hx194_3, hx195_0, hx195_1, hx195_2, hx195_3, hx196_0, hx196_1, hx196_2, hx196_3, hx197_0, hx197_1, hx197_2, hx197_3⟩ (fun hHeld => ?_); refine with_tabW giroref39_Postings.tab9 giroref39_Postings.bits9 (fun HT_ HW_ => ?_)
       generalize w19.drew = w20 at HO_5 HO_6 BK187 BK193 HB hx194_0 hx194_1 hx194_2 hx194_3 hx195_0 hx195_1 hx195_2 hx195_3 hx196_0 hx196_1 hx196_2 hx196_3 hx197_0 hx197_1 hx197_2 hx197_3 hHeld ⊢
       refine pure_ (i := 0) (N := some 32) (v := ?_) (a' := ?_) #[true, false, false, false, false, false, false, false, false, false, false, false, false, false, false, false, false, false, false, false, false, false, false, false, false, false, false, false, false] rfl rfl (any_of HT_.out (by kernel_rfl)) (fun _ _ _ h => h) (Or.inl ⟨by rfl, ?_⟩) ?_ ?_
       rotate_left
       ·intro w'
        go_simp
        with_reducible rfl
       rotate_left
       ·simp only [Act.put, List.setIfInBounds_toArray, List.set_cons_zero, List.set_cons_succ, i64_w, i32_w]
        rfl
       refine pure_ (i := 2) (N := some 34) (v := ?_) (a' := ?_) #[true, false, true, false, false, false, false, false, false, false, false, false, false, false, false, false, false, false, false, false, false, false, false, false, false, false, false, false, false] rfl rfl (any_of HT_.out (by kernel_rfl)) (fun _ _ _ h => h) (Or.inl ⟨by rfl, ?_⟩) ?_ ?_
       rotate_left
       ·intro w'
        go_simp
        with_reducible rfl
       rotate_left
       ·simp only [Act.put, List.setIfInBounds_toArray, List.set_cons_zero, List.set_cons_succ, i64_w, i32_w]
        rfl
       refine pure_ (i := 3) (N := some 35) (v := ?_) (a' := ?_) #[true, false, true, true, false, false, false, false, false, false, false, false, false, false, false, false, false, false, false, false, false, false, false, false, false, false, false, false, false] rfl rfl (any_of HT_.out (by kernel_rfl)) (fun _ _ _ h => h) (Or.inl ⟨by rfl, ?_⟩) ?_ ?_
       rotate_left
       ·intro w'
        go_simp
        with_reducible rfl
       rotate_left
       ·simp only [Act.put, List.setIfInBounds_toArray, List.set_cons_zero, List.set_cons_succ, i64_w, i32_w]
        rfl
       refine pure_ (i := 4) (N := some 36) (v := ?_) (a' := ?_) #[true, false, true, true, true, false, false, false, false, false, false, false, false, false, false, false, false, false, false, false, false, false, false, false, false, false, false, false, false] rfl rfl (any_of HT_.out (by kernel_rfl)) (fun _ _ _ h => h) (Or.inl ⟨by rfl, ?_⟩) ?_ ?_
       rotate_left
       ·intro w'
        go_simp
        with_reducible rfl
       rotate_left
       ·simp only [Act.put, List.setIfInBounds_toArray, List.set_cons_zero, List.set_cons_succ, i64_w, i32_w]
        rfl
       refine pure_ (i := 5) (N := some 37) (v := ?_) (a' := ?_) #[true, false, true, true, true, true, false, false, false, false, false, false, false, false, false, false, false, false, false, false, false, false, false, false, false, false, false, false, false] rfl rfl (any_of HT_.out (by kernel_rfl)) (fun _ _ _ h => h) (Or.inl ⟨by rfl, ?_⟩) ?_ ?_
       rotate_left
       ·intro w'
        go_simp
        with_reducible rfl
       rotate_left
       ·simp only [Act.put, List.setIfInBounds_toArray, List.set_cons_zero, List.set_cons_succ, i64_w, i32_w]
        rfl
       refine pure_ (i := 9) (N := some 41) (v := ?_) (a' := ?_) #[true, false, true, true, true, true, false, false, false, true, false, false, false, false, false, false, false, false, false, false, false, false, false, false, false, false, false, false, false] rfl rfl (any_of HT_.out (by kernel_rfl)) (fun _ _ _ h => h) (Or.inl ⟨by rfl, ?_⟩) ?_ ?_
       rotate_left
       ·intro w'
        go_simp
        with_reducible rfl
       rotate_left
       ·simp only [Act.put, List.setIfInBounds_toArray, List.set_cons_zero, List.set_cons_succ, i64_w, i32_w]
        rfl
       refine pure_ (i := 10) (N := some 42) (v := ?_) (a' := ?_) #[true, false, true, true, true, true, false, false, false, true, true, false, false, false, false, false, false, false, false, false, false, false, false, false, false, false, false, false, false] rfl rfl (any_of HT_.out (by kernel_rfl)) (fun _ _ _ h => h) (Or.inl ⟨by rfl, ?_⟩) ?_ ?_
       rotate_left
       ·intro w'
        go_simp
        with_reducible rfl
       rotate_left
       ·simp only [Act.put, List.setIfInBounds_toArray, List.set_cons_zero, List.set_cons_succ, i64_w, i32_w]
        rfl
       refine pure_ (i := 11) (N := some 43) (v := ?_) (a' := ?_) #[true, false, true, true, true, true, false, false, false, true, true, true, false, false, false, false, false, false, false, false, false, false, false, false, false, false, false, false, false] rfl rfl (any_of HT_.out (by kernel_rfl)) (fun _ _ _ h => h) (Or.inl ⟨by rfl, ?_⟩) ?_ ?_
       rotate_left
       ·intro w'
        go_simp
        with_reducible rfl
       rotate_left
       ·simp only [Act.put, List.setIfInBounds_toArray, List.set_cons_zero, List.set_cons_succ, i64_w, i32_w]
        rfl
       refine pure_ (i := 12) (N := some 44) (v := ?_) (a' := ?_) #[true, false, true, true, true, true, false, false, false, true, true, true, true, false, false, false, false, false, false, false, false, false, false, false, false, false, false, false, false] rfl rfl (any_of HT_.out (by kernel_rfl)) (fun _ _ _ h => h) (Or.inl ⟨by rfl, ?_⟩) ?_ ?_
       rotate_left
       ·intro w'
        go_simp
        with_reducible rfl
       rotate_left
       ·simp only [Act.put, List.setIfInBounds_toArray, List.set_cons_zero, List.set_cons_succ, i64_w, i32_w]
        rfl
       refine pure_ (i := 14) (N := some 46) (v := ?_) (a' := ?_) #[true, false, true, true, true, true, false, false, false, true, true, true, true, false, true, false, false, false, false, false, false, false, false, false, false, false, false, false, false] rfl rfl (any_of HT_.out (by kernel_rfl)) (fun _ _ _ h => h) (Or.inl ⟨by rfl, ?_⟩) ?_ ?_
       rotate_left
       ·intro w'
        go_simp
        with_reducible rfl
       rotate_left
       ·simp only [Act.put, List.setIfInBounds_toArray, List.set_cons_zero, List.set_cons_succ, i64_w, i32_w]
        rfl
       refine pure_ (i := 15) (N := some 47) (v := ?_) (a' := ?_) #[true, false, true, true, true, true, false, false, false, true, true, true, true, false, true, true, false, false, false, false, false, false, false, false, false, false, false, false, false] rfl rfl (any_of HT_.out (by kernel_rfl)) (fun _ _ _ h => h) (Or.inl ⟨by rfl, ?_⟩) ?_ ?_
       rotate_left
       ·intro w'
        go_simp
        with_reducible rfl
       rotate_left
       ·simp only [Act.put, List.setIfInBounds_toArray, List.set_cons_zero, List.set_cons_succ, i64_w, i32_w]
        rfl
       refine pure_ (i := 16) (N := some 48) (v := ?_) (a' := ?_) #[true, false, true, true, true, true, false, false, false, true, true, true, true, false, true, true, true, false, false, false, false, false, false, false, false, false, false, false, false] rfl rfl (any_of HT_.out (by kernel_rfl)) (fun _ _ _ h => h) (Or.inl ⟨by rfl, ?_⟩) ?_ ?_
       rotate_left
       ·intro w'
        go_simp
        with_reducible rfl
       rotate_left
       ·simp only [Act.put, List.setIfInBounds_toArray, List.set_cons_zero, List.set_cons_succ, i64_w, i32_w]
        rfl
       refine pure_ (i := 17) (N := some 49) (v := ?_) (a' := ?_) #[true, false, true, true, true, true, false, false, false, true, true, true, true, false, true, true, true, true, false, false, false, false, false, false, false, false, false, false, false] rfl rfl (any_of HT_.out (by kernel_rfl)) (fun _ _ _ h => h) (Or.inl ⟨by rfl, ?_⟩) ?_ ?_
       rotate_left
       ·intro w'
        go_simp
        with_reducible rfl
       rotate_left
       ·simp only [Act.put, List.setIfInBounds_toArray, List.set_cons_zero, List.set_cons_succ, i64_w, i32_w]
        rfl
       refine pure_ (i := 20) (N := some 52) (v := ?_) (a' := ?_) #[true, false, true, true, true, true, false, false, false, true, true, true, true, false, true, true, true, true, false, false, true, false, false, false, false, false, false, false, false] rfl rfl (any_of HT_.out (by kernel_rfl)) (fun _ _ _ h => h) (Or.inl ⟨by rfl, ?_⟩) ?_ ?_
       rotate_left
       ·intro w'
        go_simp
        with_reducible rfl
       rotate_left
       ·simp only [Act.put, List.setIfInBounds_toArray, List.set_cons_zero, List.set_cons_succ, i64_w, i32_w]
        rfl
       refine pure_ (i := 21) (N := some 53) (v := ?_) (a' := ?_) #[true, false, true, true, true, true, false, false, false, true, true, true, true, false, true, true, true, true, false, false, true, true, false, false, false, false, false, false, false] rfl rfl (any_of HT_.out (by kernel_rfl)) (fun _ _ _ h => h) (Or.inl ⟨by rfl, ?_⟩) ?_ ?_
       rotate_left
       ·intro w'
        go_simp
        with_reducible rfl
       rotate_left
       ·simp only [Act.put, List.setIfInBounds_toArray, List.set_cons_zero, List.set_cons_succ, i64_w, i32_w]
        rfl
       refine pure_ (i := 22) (N := some 54) (v := ?_) (a' := ?_) #[true, false, true, true, true, true, false, false, false, true, true, true, true, false, true, true, true, true, false, false, true, true, true, false, false, false, false, false, false] rfl rfl (any_of HT_.out (by kernel_rfl)) (fun _ _ _ h => h) (Or.inl ⟨by rfl, ?_⟩) ?_ ?_
       rotate_left
       ·intro w'
        go_simp
        with_reducible rfl
       rotate_left
       ·simp only [Act.put, List.setIfInBounds_toArray, List.set_cons_zero, List.set_cons_succ, i64_w, i32_w]
        rfl
       refine pure_ (i := 23) (N := some 55) (v := ?_) (a' := ?_) #[true, false, true, true, true, true, false, false, false, true, true, true, true, false, true, true, true, true, false, false, true, true, true, true, false, false, false, false, false] rfl rfl (any_of HT_.out (by kernel_rfl)) (fun _ _ _ h => h) (Or.inl ⟨by rfl, ?_⟩) ?_ ?_
       rotate_left
       ·intro w'
        go_simp
        with_reducible rfl
       rotate_left
       ·simp only [Act.put, List.setIfInBounds_toArray, List.set_cons_zero, List.set_cons_succ, i64_w, i32_w]
        rfl
       refine take_ (i := 1) (N := some 33) (v := ?_) (a' := ?_) #[true, true, true, true, true, true, false, false, false, true, true, true, true, false, true, true, true, true, false, false, true, true, true, true, false, false, false, false, false] rfl rfl (take_ofW HT_.out HW_.out (by kernel_rfl)) (fun _ _ _ h => h) (Or.inl ⟨by rfl, ?_⟩) hHeld ?_ ?_
       rotate_left
       ·rintro w' ⟨s0, s1, s2, s3, s4, s5, s6, s7, s8, s9, s10, s11, s12, s13, s14, s15, s16, s17, s18⟩
        go_simp
        with_reducible rfl
       rotate_left
       ·simp only [Act.put, List.setIfInBounds_toArray, List.set_cons_zero, List.set_cons_succ, i64_w, i32_w]
        rfl
       refine take_ (i := 6) (N := some 38) (v := ?_) (a' := ?_) #[true, true, true, true, true, true, true, false, false, true, true, true, true, false, true, true, true, true, false, false, true, true, true, true, false, false, false, false, false] rfl rfl (take_ofW HT_.out HW_.out (by kernel_rfl)) (fun _ _ _ h => h) (Or.inl ⟨by rfl, ?_⟩) hHeld ?_ ?_
       rotate_left
       ·rintro w' ⟨s0, s1, s2, s3, s4, s5, s6, s7, s8, s9, s10, s11, s12, s13, s14, s15, s16, s17, s18⟩
        go_simp
        with_reducible rfl
       rotate_left
       ·simp only [Act.put, List.setIfInBounds_toArray, List.set_cons_zero, List.set_cons_succ, i64_w, i32_w]
        rfl
       refine pure_ (i := 7) (N := some 39) (v := ?_) (a' := ?_) #[true, true, true, true, true, true, true, true, false, true, true, true, true, false, true, true, true, true, false, false, true, true, true, true, false, false, false, false, false] rfl rfl (any_of HT_.out (by kernel_rfl)) (fun _ _ _ h => h) (Or.inl ⟨by rfl, ?_⟩) ?_ ?_
       rotate_left
       ·intro w'
        go_simp
        with_reducible rfl
       rotate_left
       ·simp only [Act.put, List.setIfInBounds_toArray, List.set_cons_zero, List.set_cons_succ, i64_w, i32_w]
        rfl
       refine pure_ (i := 8) (N := some 40) (v := ?_) (a' := ?_) #[true, true, true, true, true, true, true, true, true, true, true, true, true, false, true, true, true, true, false, false, true, true, true, true, false, false, false, false, false] rfl rfl (any_of HT_.out (by kernel_rfl)) (fun _ _ _ h => h) (Or.inl ⟨by rfl, ?_⟩) ?_ ?_
       rotate_left
       ·intro w'
        go_simp
        with_reducible rfl
       rotate_left
       ·simp only [Act.put, List.setIfInBounds_toArray, List.set_cons_zero, List.set_cons_succ, i64_w, i32_w]
        rfl
       refine take_ (i := 13) (N := some 45) (v := ?_) (a' := ?_) #[true, true, true, true, true, true, true, true, true, true, true, true, true, true, true, true, true, true, false, false, true, true, true, true, false, false, false, false, false] rfl rfl (take_ofW HT_.out HW_.out (by kernel_rfl)) (fun _ _ _ h => h) (Or.inl ⟨by rfl, ?_⟩) hHeld ?_ ?_
       rotate_left
       ·rintro w' ⟨s0, s1, s2, s3, s4, s5, s6, s7, s8, s9, s10, s11, s12, s13, s14, s15, s16, s17, s18⟩
        go_simp
        with_reducible rfl
       rotate_left
       ·simp only [Act.put, List.setIfInBounds_toArray, List.set_cons_zero, List.set_cons_succ, i64_w, i32_w]
        rfl
       refine take_ (i := 18) (N := some 50) (v := ?_) (a' := ?_) #[true, true, true, true, true, true, true, true, true, true, true, true, true, true, true, true, true, true, true, false, true, true, true, true, false, false, false, false, false] rfl rfl (take_ofW HT_.out HW_.out (by kernel_rfl)) (fun _ _ _ h => h) (Or.inl ⟨by rfl, ?_⟩) hHeld ?_ ?_
       rotate_left
       ·rintro w' ⟨s0, s1, s2, s3, s4, s5, s6, s7, s8, s9, s10, s11, s12, s13, s14, s15, s16, s17, s18⟩
        go_simp
        with_reducible rfl
       rotate_left
       ·simp only [Act.put, List.setIfInBounds_toArray, List.set_cons_zero, List.set_cons_succ, i64_w, i32_w]
        rfl
       refine pure_ (i := 19) (N := some 51) (v := ?_) (a' := ?_) #[true, true, true, true, true, true, true, true, true, true, true, true, true, true, true, true, true, true, true, true, true, true, true, true, false, false, false, false, false] rfl rfl (any_of HT_.out (by kernel_rfl)) (fun _ _ _ h => h) (Or.inl ⟨by rfl, ?_⟩) ?_ ?_
       rotate_left
       ·intro w'
        go_simp
        with_reducible rfl
       rotate_left
       ·simp only [Act.put, List.setIfInBounds_toArray, List.set_cons_zero, List.set_cons_succ, i64_w, i32_w]
        rfl
       refine take_ (i := 24) (N := some 56) (v := ?_) (a' := ?_) #[true, true, true, true, true, true, true, true, true, true, true, true, true, true, true, true, true, true, true, true, true, true, true, true, true, false, false, false, false] rfl rfl (take_ofW HT_.out HW_.out (by kernel_rfl)) (fun _ _ _ h => h) (Or.inl ⟨by rfl, ?_⟩) hHeld ?_ ?_
       rotate_left
       ·rintro w' ⟨s0, s1, s2, s3, s4, s5, s6, s7, s8, s9, s10, s11, s12, s13, s14, s15, s16, s17, s18⟩
        go_simp
        with_reducible rfl
       rotate_left
       ·simp only [Act.put, List.setIfInBounds_toArray, List.set_cons_zero, List.set_cons_succ, i64_w, i32_w]
        rfl
       refine pure_ (i := 25) (N := some 57) (v := ?_) (a' := ?_) #[true, true, true, true, true, true, true, true, true, true, true, true, true, true, true, true, true, true, true, true, true, true, true, true, true, true, false, false, false] rfl rfl (any_of HT_.out (by kernel_rfl)) (fun _ _ _ h => h) (Or.inl ⟨by rfl, ?_⟩) ?_ ?_
       rotate_left
       ·intro w'
        go_simp
        with_reducible rfl
       rotate_left
       ·simp only [Act.put, List.setIfInBounds_toArray, List.set_cons_zero, List.set_cons_succ, i64_w, i32_w]
        rfl
       refine one_ (i := 26) (N := some 58) #[true, true, true, true, true, true, true, true, true, true, true, true, true, true, true, true, true, true, true, true, true, true, true, true, true, true, true, false, false] rfl rfl (one_of HT_.out (by kernel_rfl)) (by decide) (fun K hK => ?_)
       refine Kd.R_lit_step k77 _ 77 ?hg (N := 58) ?hd (xs := ([(⟨(⟨(rd_T49 t188 x7_1).f0, a1, (rd_T49 t188 x7_1).f2⟩ : S75), wrap64 (-((rd_T49 t188 x7_1).f3))⟩ : S77), (⟨(⟨(rd_T49 t188 x7_1).f1, 0, (rd_T49 t188 x7_1).f2⟩ : S75), (rd_T49 t188 x7_1).f3⟩ : S77)] : List (S77))) (inner := [.string ((rd_T49 t188 x7_1).f0), .int .i64 a1, .string ((rd_T49 t188 x7_1).f2), .int .i64 (wrap64 (-((rd_T49 t188 x7_1).f3))), .string ((rd_T49 t188 x7_1).f1), .int .i64 0, .string ((rd_T49 t188 x7_1).f2), .int .i64 ((rd_T49 t188 x7_1).f3)]) (ok := fun _ => True) (okp := fun _ => True) ?hr ?hp (fun _ hk => hk) trivial (Below.refl _ _) (Nat.le_refl _) (by simp) ?_; (case hd => rfl); (case hg => rfl); (case hr => first | (go_simp; done) | (go_simp; rfl)); (case hp => exact (Reps.c4 (show Kd.M k77 _ _ _ (⟨(⟨(rd_T49 t188 x7_1).f0, a1, (rd_T49 t188 x7_1).f2⟩ : S75), wrap64 (-((rd_T49 t188 x7_1).f3))⟩ : S77) [.string ((rd_T49 t188 x7_1).f0), .int .i64 a1, .string ((rd_T49 t188 x7_1).f2), .int .i64 (wrap64 (-((rd_T49 t188 x7_1).f3)))] from (k77_mkM _ _ _ (⟨(⟨(rd_T49 t188 x7_1).f0, a1, (rd_T49 t188 x7_1).f2⟩ : S75), wrap64 (-((rd_T49 t188 x7_1).f3))⟩ : S77) )) (Reps.c4 (show Kd.M k77 _ _ _ (⟨(⟨(rd_T49 t188 x7_1).f1, 0, (rd_T49 t188 x7_1).f2⟩ : S75), (rd_T49 t188 x7_1).f3⟩ : S77) [.string ((rd_T49 t188 x7_1).f1), .int .i64 0, .string ((rd_T49 t188 x7_1).f2), .int .i64 ((rd_T49 t188 x7_1).f3)] from (k77_mkM _ _ _ (⟨(⟨(rd_T49 t188 x7_1).f1, 0, (rd_T49 t188 x7_1).f2⟩ : S75), (rd_T49 t188 x7_1).f3⟩ : S77) )) (Reps.none _ _))))
       intro v199 w21 ho22 hb hg_ hnew_
       have HS3_ := (hb.cell (World.block_lt_of_cell? _ _ (hHeld.2.2.2.1))).trans (hHeld.2.2.2.1)
       have HS4_ := (hb.cell (World.block_lt_of_cell? _ _ (hHeld.2.2.2.2.1))).trans (hHeld.2.2.2.2.1)
       have HS5_ := (hb.cell (World.block_lt_of_cell? _ _ (hHeld.2.2.2.2.2.1))).trans (hHeld.2.2.2.2.2.1)
       have HS6_ := (hb.cell (World.block_lt_of_cell? _ _ (hHeld.2.2.2.2.2.2.1))).trans (hHeld.2.2.2.2.2.2.1)
       have HS7_ := (hb.cell (World.block_lt_of_cell? _ _ (hHeld.2.2.2.2.2.2.2.1))).trans (hHeld.2.2.2.2.2.2.2.1)
       have HS8_ := (hb.cell (World.block_lt_of_cell? _ _ (hHeld.2.2.2.2.2.2.2.2.1))).trans (hHeld.2.2.2.2.2.2.2.2.1)
       have HS9_ := (hb.cell (World.block_lt_of_cell? _ _ (hHeld.2.2.2.2.2.2.2.2.2.1))).trans (hHeld.2.2.2.2.2.2.2.2.2.1)
       have HS10_ := (hb.cell (World.block_lt_of_cell? _ _ (hHeld.2.2.2.2.2.2.2.2.2.2.1))).trans (hHeld.2.2.2.2.2.2.2.2.2.2.1)
       have HS11_ := (hb.cell (World.block_lt_of_cell? _ _ (hHeld.2.2.2.2.2.2.2.2.2.2.2.1))).trans (hHeld.2.2.2.2.2.2.2.2.2.2.2.1)
       have HS12_ := (hb.cell (World.block_lt_of_cell? _ _ (hHeld.2.2.2.2.2.2.2.2.2.2.2.2.1))).trans (hHeld.2.2.2.2.2.2.2.2.2.2.2.2.1)
       have HS13_ := (hb.cell (World.block_lt_of_cell? _ _ (hHeld.2.2.2.2.2.2.2.2.2.2.2.2.2.1))).trans (hHeld.2.2.2.2.2.2.2.2.2.2.2.2.2.1)
       have HS14_ := (hb.cell (World.block_lt_of_cell? _ _ (hHeld.2.2.2.2.2.2.2.2.2.2.2.2.2.2.1))).trans (hHeld.2.2.2.2.2.2.2.2.2.2.2.2.2.2.1)
       have HS15_ := (hb.cell (World.block_lt_of_cell? _ _ (hHeld.2.2.2.2.2.2.2.2.2.2.2.2.2.2.2.1))).trans (hHeld.2.2.2.2.2.2.2.2.2.2.2.2.2.2.2.1)
       have HS16_ := (hb.cell (World.block_lt_of_cell? _ _ (hHeld.2.2.2.2.2.2.2.2.2.2.2.2.2.2.2.2.1))).trans (hHeld.2.2.2.2.2.2.2.2.2.2.2.2.2.2.2.2.1)
       have HS17_ := (hb.cell (World.block_lt_of_cell? _ _ (hHeld.2.2.2.2.2.2.2.2.2.2.2.2.2.2.2.2.2.1))).trans (hHeld.2.2.2.2.2.2.2.2.2.2.2.2.2.2.2.2.2.1)
       have HS18_ := (hb.cell (World.block_lt_of_cell? _ _ (hHeld.2.2.2.2.2.2.2.2.2.2.2.2.2.2.2.2.2.2))).trans (hHeld.2.2.2.2.2.2.2.2.2.2.2.2.2.2.2.2.2.2)
       clear hg_ hnew_
       (first | rw [← Ny198.out] at ho22 | (simp only [Int.reduceToNat] at ho22; rw [← Ny198.out] at ho22))
       have n0_ := Aside0.mk (Kd.R_elder' (by (with_reducible repeat (first | apply Kd.R_alloc | apply Kd.R_drewN | apply Kd.R_drew)); exact HO_5.out) (Kd.R_base ho22) hb)
       have n1_ := Aside0.mk (Kd.R_below (by (with_reducible repeat (first | apply Kd.R_alloc | apply Kd.R_drewN | apply Kd.R_drew)); exact HO_6.out) hb)
       have n2_ := Aside0.mk (Kd.R_lower (Kd.R_new' ho22 (Kd.R_lt (by (with_reducible repeat (first | apply Kd.R_alloc | apply Kd.R_drewN | apply Kd.R_drew)); exact HO_5.out))) (below_size (by repeat (first | (with_reducible first | exact HB.out | apply below_alloc | apply pw_below_drewN | apply below_drew1 | refine below_set ?_ GE187.out | refine below_set ?_ GE193.out) | exact HB.out))))
       have n3_ := Aside0.mk (blk_below (g := gb187) (o := .cells #[.int .i64 a0_0, .string a0_1, .string a0_2, .string a0_3, .int .i64 a0_4, .int .i64 a0_5, .int .i64 a0_6, .int .i64 a0_7, .int .i64 a0_8, .bool a0_9, .int .i64 a0_10, .string a0_11, .string a0_12] 24 (0, 0)) (by (with_reducible repeat (first | refine blk_drewN ?_ _ | refine blk_drew ?_ | refine blk_alloc ?_ _)); exact BK187.out) hb)
       have n4_ := Aside0.mk (blk_below (g := gb193) (o := .cells #[.string ((rd_T49 t188 x7_1).f0), .int .i64 a1, .string ((rd_T49 t188 x7_1).f2)] 75 (0, 0)) (by (with_reducible repeat (first | refine blk_drewN ?_ _ | refine blk_drew ?_ | refine blk_alloc ?_ _)); exact BK193.out) hb)
       have n5_ := Aside0.mk (below_step (by repeat (first | (with_reducible first | exact HB.out | apply below_alloc | apply pw_below_drewN | apply below_drew1 | refine below_set ?_ GE187.out | refine below_set ?_ GE193.out) | exact HB.out)) hb)
       clear HO_5
       clear HO_6
       clear BK187
       clear BK193
       clear HB
       have HO_5 := n0_
       have HO_6 := n1_
       have HO200 := n2_
       have BK187 := n3_
       have BK193 := n4_
       have HB := n5_
       clear n0_ n1_ n2_ n3_ n4_ n5_
       clear hb ho22
       obtain ⟨Ao24, co24, eo24⟩ := Kd.R_slice HO200.out
       (first | subst eo24 | (injection eo24 with f1_ f2_ f3_; have f4_ := f1_.symm; have f5_ := f3_.symm; clear f1_ f2_ f3_; subst f4_; subst f5_))
       refine hK.out _ _ ⟨(blk_cell BK193.out 0).trans rfl, (blk_cell BK193.out 1).trans rfl, (blk_cell BK193.out 2).trans rfl, HS3_, HS4_, HS5_, HS6_, HS7_, HS8_, HS9_, HS10_, HS11_, HS12_, HS13_, HS14_, HS15_, HS16_, HS17_, HS18_⟩ (fun hHeld => ?_)
       clear hK K
       refine norm_ (a' := ?_) ?_ ?_
       rotate_left
       ·show Act.put _ (some 58) _ = _
        simp only [Act.put, List.setIfInBounds_toArray, List.set_cons_zero, List.set_cons_succ, i64_w, i32_w]
        rfl
       refine last_ (i := 27) (N := some 59) #[true, true, true, true, true, true, true, true, true, true, true, true, true, true, true, true, true, true, true, true, true, true, true, true, true, true, true, true, false] rfl rfl (one_of HT_.out (by kernel_rfl)) (by decide) (fun K hK => ?_)
       refine Kd.R_append_rows_step k77 (w0 := w) w.heap.size (by rfl) (.tmp 32) (.tmp 58) 34 77 (.agg #[(.string ⟨#[]⟩), (.int .i64 0), (.string ⟨#[]⟩), (.int .i64 0)]) 48 rfl Tryd.underlying34 info77 rfl (by decide) (by omega) u5 x5_1 y198 _ _ _ (fun k_ => some k_ ≠ (.slice Ao24 y198.length co24 : Value).ownBlock) (fun _ => False) rfl rfl ?aO ?aR (fun _ _ h => h) (fun _ h => h.elim) ?aF ?aB ?aS ?aL ?_
       (case aR => repeat (first | exact (Kd.R_reads' HO200.out).2.2 | (with_reducible refine Kd.C_alloc ?_ _) | (with_reducible refine Kd.C_drewN ?_ _) | (with_reducible refine Kd.C_drew ?_)))
       (case aB => exact (by repeat (first | (with_reducible first | exact HB.out | apply below_alloc | apply pw_below_drewN | apply below_drew1 | refine below_set ?_ GE187.out | refine below_set ?_ GE193.out) | exact HB.out)))
       (case aF => exact (fun k_ hk => Kd.fresh' (Kd.R_lt (by (with_reducible repeat (first | apply Kd.R_alloc | apply Kd.R_drewN | apply Kd.R_drew)); exact HO200.out)) k_ hk))
       (case aO => exact (by (with_reducible repeat (first | apply Kd.R_alloc | apply Kd.R_drewN | apply Kd.R_drew)); exact Kd.R_mono HO_5.out (fun _ hk => hk.2)))
       (case aS => exact (below_size (by repeat (first | (with_reducible first | exact HB.out | apply below_alloc | apply pw_below_drewN | apply below_drew1 | refine below_set ?_ GE187.out | refine below_set ?_ GE193.out) | exact HB.out))))
       (case aL => have := LMc10.out; omega)
       intro v202 w23 ho hb hg hat
       rw [← Ny201.out] at ho
       have n0_ := Aside0.mk (Kd.R_over' (by (with_reducible repeat (first | apply Kd.R_alloc | apply Kd.R_drewN | apply Kd.R_drew)); exact HO_6.out) (Kd.R_typed (by (with_reducible repeat (first | apply Kd.R_alloc | apply Kd.R_drewN | apply Kd.R_drew)); exact HO_5.out)) (by decide) hg)
       have n1_ := Aside0.mk (blk_grown (g := gb187) (o := .cells #[.int .i64 a0_0, .string a0_1, .string a0_2, .string a0_3, .int .i64 a0_4, .int .i64 a0_5, .int .i64 a0_6, .int .i64 a0_7, .int .i64 a0_8, .bool a0_9, .int .i64 a0_10, .string a0_11, .string a0_12] 24 (0, 0)) (by (with_reducible repeat (first | refine blk_drewN ?_ _ | refine blk_drew ?_ | refine blk_alloc ?_ _)); exact BK187.out) hg (Kd.R_ne HO_5.out BK187.out (by decide)))
       have n2_ := Aside0.mk (blk_grown (g := gb193) (o := .cells #[.string ((rd_T49 t188 x7_1).f0), .int .i64 a1, .string ((rd_T49 t188 x7_1).f2)] 75 (0, 0)) (by (with_reducible repeat (first | refine blk_drewN ?_ _ | refine blk_drew ?_ | refine blk_alloc ?_ _)); exact BK193.out) hg (Kd.R_ne HO_5.out BK193.out (by decide)))
       have n3_ := Aside0.mk (Kd.R_after (ok := (fun _ => True)) (by (with_reducible repeat (first | apply Kd.R_alloc | apply Kd.R_drewN | apply Kd.R_drew)); exact HO200.out) hg hat)
       have n4_ := Aside0.mk (hb)
       have n5_ := Aside0.mk (ho)
       clear HO_6
       clear BK187
       clear BK193
       clear HO200
       clear HB
       clear HO_5
       have HO_6 := n0_
       have BK187 := n1_
       have BK193 := n2_
       have HO200 := n3_
       have HB := n4_
       have HO203 := n5_
       clear n0_ n1_ n2_ n3_ n4_ n5_
       clear ho hb hg hat
       refine hK.out _ _ ?_
       clear hK K
       refine norm_ (a' := ?_) ?_ ?_
       rotate_left
       ·show Act.put _ (some 59) _ = _
        simp only [Act.put, List.setIfInBounds_toArray, List.set_cons_zero, List.set_cons_succ, i64_w, i32_w]
        rfl
       refine pure_ (i := 28) (N := some 5) (v := ?_) (a' := ?_) #[true, true, true, true, true, true, true, true, true, true, true, true, true, true, true, true, true, true, true, true, true, true, true, true, true, true, true, true, true] rfl rfl (any_of HT_.out (by kernel_rfl)) (fun _ _ _ h => h) (Or.inl ⟨by rfl, ?_⟩) ?_ ?_
       rotate_left
       ·intro w'
        go_simp
        with_reducible rfl
       rotate_left
       ·simp only [Act.put, List.setIfInBounds_toArray, List.set_cons_zero, List.set_cons_succ, i64_w, i32_w]
        rfl
       refine done_ (done_of HT_.out (by kernel_rfl)) ?_
       try go_wp2
       go_roundg k1
       case measure => have := HK1.out; omega
       case rel => exact ⟨(y201), (wrap64 (x7_1 + 1)), (by first | rfl | (simp; done) | (simp [*]; done)), H', ⟨by have := HK1.out; omega⟩, ⟨by (with_reducible repeat (first | apply Kd.R_alloc | apply Kd.R_drewN | apply Kd.R_drew)); exact Kd.R_mono HO203.out (fun _ hk => trivial)⟩, ⟨by (with_reducible repeat (first | apply Kd.R_alloc | apply Kd.R_drewN | apply Kd.R_drew)); exact HO_6.out⟩, ⟨by (with_reducible repeat (first | refine blk_drewN ?_ _ | refine blk_drew ?_ | refine blk_alloc ?_ _)); exact BK187.out⟩, ⟨by repeat (first | (with_reducible first | exact HB.out | apply below_alloc | apply pw_below_drewN | apply below_drew1 | refine below_set ?_ GE187.out | refine below_set ?_ GE193.out) | exact HB.out)⟩⟩
      ·rw [if_neg c10] at H
       exact absurd H (by simp)
     ·rw [if_neg c9] at H
      have c9b0 : (x7_1 == 0) = false := beq_eq_false_iff_ne.mpr c9
      have c9b1 : (x7_1 != 0) = true := bne_iff_ne.mpr c9
      obtain ⟨y208, hy208⟩ : ∃ y_ : List (S77), y_ = (([(⟨(⟨(rd_T49 t188 x7_1).f0, 0, (rd_T49 t188 x7_1).f2⟩ : S75), wrap64 (-((rd_T49 t188 x7_1).f3))⟩ : S77), (⟨(⟨(rd_T49 t188 x7_1).f1, 0, (rd_T49 t188 x7_1).f2⟩ : S75), (rd_T49 t188 x7_1).f3⟩ : S77)] : List (S77))) := ⟨_, rfl⟩
      replace H : (if x5_1.length + y208.length < 2932031007402 then (giroref39_Postings.l0 k1 a1 (x5_1 ++ y208) t188 (wrap64 (x7_1 + 1))) else (none)) = some r := by first | (rw [hy208]; with_reducible exact H) | (have H2_ := (Option.bind_some _ _).symm.trans H; rw [hy208]; with_reducible exact H2_) | (have H2_ := (Option.bind_some _ _).symm.trans H; with_reducible exact H2_) | with_reducible exact H | (rw [hy208]; exact H) | exact H
      have Ny208 := Aside0.mk hy208
      clear hy208
      by_cases c25 : x5_1.length + y208.length < 2932031007402
      ·rw [if_pos c25] at H
       have LMc25 := Aside0.mk c25
       clear c25
       obtain ⟨y211, hy211⟩ : ∃ y_ : List (S77), y_ = (x5_1 ++ y208) := ⟨_, rfl⟩
       replace H : (giroref39_Postings.l0 k1 a1 y211 t188 (wrap64 (x7_1 + 1))) = some r := by first | (rw [hy211]; with_reducible exact H) | (have H2_ := (Option.bind_some _ _).symm.trans H; rw [hy211]; with_reducible exact H2_) | (have H2_ := (Option.bind_some _ _).symm.trans H; with_reducible exact H2_) | with_reducible exact H | (rw [hy211]; exact H) | exact H
       have Ny211 := Aside0.mk hy211
       clear hy211
       have H' := Aside0.mk H
       clear H
       obtain ⟨Ao26, co26, eo26⟩ := Kd.R_slice HO_6.out
       subst eo26
       try go_wp2
       have n0_ := Aside0.mk (Kd.R_drew HO_5.out)
       have n1_ := Aside0.mk (Kd.R_drew HO_6.out)
       have n2_ := Aside0.mk (blk_drew BK187.out)
       have n3_ := Aside0.mk (below_drew1 HB.out)
       clear HO_5
       clear HO_6
       clear BK187
       clear HB
       have HO_5 := n0_
       have HO_6 := n1_
       have BK187 := n2_
       have HB := n3_
       clear n0_ n1_ n2_ n3_
       have p191 : 0 ≤ (x7_1 : Int) := of_decide_eq_true (by first | (with_reducible assumption) | assumption)
       have q191 : x7_1 < (t188.length : Int) := of_decide_eq_true (by first | (with_reducible assumption) | assumption)
       obtain ⟨ad191, e191, hx191_0, hx191_1, hx191_2, hx191_3⟩ := at_T49 (Kd.R_reads' HO_6.out).2.2 x7_1 p191 q191
       cases e191
       replace p191 := eq_true p191
       replace q191 := eq_true q191
       have p192 : 0 ≤ (x7_1 : Int) := of_decide_eq_true (by first | (with_reducible assumption) | assumption)
       have q192 : x7_1 < (t188.length : Int) := of_decide_eq_true (by first | (with_reducible assumption) | assumption)
       obtain ⟨ad192, e192, hx192_0, hx192_1, hx192_2, hx192_3⟩ := at_T49 (Kd.R_reads' HO_6.out).2.2 x7_1 p192 q192
       obtain rfl : ad191 = ad192 := (by injection e192)
       replace p192 := eq_true p192
       replace q192 := eq_true q192
       refine start_ (n := 13) (S := fun w' => w'.cell? (ad191.add ((x7_1).toNat * 4)) = some (.string ((rd_T49 t188 x7_1).f0)) ∧ w'.cell? ⟨(ad191.add ((x7_1).toNat * 4)).block, (ad191.add ((x7_1).toNat * 4)).off + 1, none⟩ = some (.string ((rd_T49 t188 x7_1).f1)) ∧ w'.cell? ⟨(ad191.add ((x7_1).toNat * 4)).block, (ad191.add ((x7_1).toNat * 4)).off + 2, none⟩ = some (.string ((rd_T49 t188 x7_1).f2)) ∧ w'.cell? ⟨(ad191.add ((x7_1).toNat * 4)).block, (ad191.add ((x7_1).toNat * 4)).off + 3, none⟩ = some (.int .i64 ((rd_T49 t188 x7_1).f3)) ∧ w'.cell? (ad191.add ((x7_1).toNat * 4)) = some (.string ((rd_T49 t188 x7_1).f0)) ∧ w'.cell? ⟨(ad191.add ((x7_1).toNat * 4)).block, (ad191.add ((x7_1).toNat * 4)).off + 1, none⟩ = some (.string ((rd_T49 t188 x7_1).f1)) ∧ w'.cell? ⟨(ad191.add ((x7_1).toNat * 4)).block, (ad191.add ((x7_1).toNat * 4)).off + 2, none⟩ = some (.string ((rd_T49 t188 x7_1).f2)) ∧ w'.cell? ⟨(ad191.add ((x7_1).toNat * 4)).block, (ad191.add ((x7_1).toNat * 4)).off + 3, none⟩ = some (.int .i64 ((rd_T49 t188 x7_1).f3))) (ds := []) #[false, false, false, false, false, false, false, false, false, false, false, false, false] (by kernel_rfl) rfl rfl ⟨hx191_0, hx191_1, hx191_2, hx191_3, hx192_0, hx192_1, hx192_2, hx192_3⟩ (fun hHeld => ?_); refine with_tabW giroref39_Postings.tab6 giroref39_Postings.bits6 (fun HT_ HW_ => ?_)
       generalize wr.drew = w27 at HO_5 HO_6 BK187 HB hx191_0 hx191_1 hx191_2 hx191_3 hx192_0 hx192_1 hx192_2 hx192_3 hHeld ⊢
       refine pure_ (i := 0) (N := some 17) (v := ?_) (a' := ?_) #[true, false, false, false, false, false, false, false, false, false, false, false, false] rfl rfl (any_of HT_.out (by kernel_rfl)) (fun _ _ _ h => h) (Or.inl ⟨by rfl, ?_⟩) ?_ ?_
       rotate_left
       ·intro w'
        go_simp
        with_reducible rfl
       rotate_left
       ·simp only [Act.put, List.setIfInBounds_toArray, List.set_cons_zero, List.set_cons_succ, i64_w, i32_w]
        rfl
       refine pure_ (i := 1) (N := some 18) (v := ?_) (a' := ?_) #[true, true, false, false, false, false, false, false, false, false, false, false, false] rfl rfl (any_of HT_.out (by kernel_rfl)) (fun _ _ _ h => h) (Or.inl ⟨by rfl, ?_⟩) ?_ ?_
       rotate_left
       ·intro w'
        go_simp
        with_reducible rfl
       rotate_left
       ·simp only [Act.put, List.setIfInBounds_toArray, List.set_cons_zero, List.set_cons_succ, i64_w, i32_w]
        rfl
       refine pure_ (i := 2) (N := some 19) (v := ?_) (a' := ?_) #[true, true, true, false, false, false, false, false, false, false, false, false, false] rfl rfl (any_of HT_.out (by kernel_rfl)) (fun _ _ _ h => h) (Or.inl ⟨by rfl, ?_⟩) ?_ ?_
       rotate_left
       ·intro w'
        go_simp
        with_reducible rfl
       rotate_left
       ·simp only [Act.put, List.setIfInBounds_toArray, List.set_cons_zero, List.set_cons_succ, i64_w, i32_w]
        rfl
       refine pure_ (i := 3) (N := some 20) (v := ?_) (a' := ?_) #[true, true, true, true, false, false, false, false, false, false, false, false, false] rfl rfl (any_of HT_.out (by kernel_rfl)) (fun _ _ _ h => h) (Or.inl ⟨by rfl, ?_⟩) ?_ ?_
       rotate_left
       ·intro w'
        go_simp
        with_reducible rfl
       rotate_left
       ·simp only [Act.put, List.setIfInBounds_toArray, List.set_cons_zero, List.set_cons_succ, i64_w, i32_w]
        rfl
       refine pure_ (i := 5) (N := some 22) (v := ?_) (a' := ?_) #[true, true, true, true, false, true, false, false, false, false, false, false, false] rfl rfl (any_of HT_.out (by kernel_rfl)) (fun _ _ _ h => h) (Or.inl ⟨by rfl, ?_⟩) ?_ ?_
       rotate_left
       ·intro w'
        go_simp
        with_reducible rfl
       rotate_left
       ·simp only [Act.put, List.setIfInBounds_toArray, List.set_cons_zero, List.set_cons_succ, i64_w, i32_w]
        rfl
       refine pure_ (i := 6) (N := some 23) (v := ?_) (a' := ?_) #[true, true, true, true, false, true, true, false, false, false, false, false, false] rfl rfl (any_of HT_.out (by kernel_rfl)) (fun _ _ _ h => h) (Or.inl ⟨by rfl, ?_⟩) ?_ ?_
       rotate_left
       ·intro w'
        go_simp
        with_reducible rfl
       rotate_left
       ·simp only [Act.put, List.setIfInBounds_toArray, List.set_cons_zero, List.set_cons_succ, i64_w, i32_w]
        rfl
       refine pure_ (i := 7) (N := some 24) (v := ?_) (a' := ?_) #[true, true, true, true, false, true, true, true, false, false, false, false, false] rfl rfl (any_of HT_.out (by kernel_rfl)) (fun _ _ _ h => h) (Or.inl ⟨by rfl, ?_⟩) ?_ ?_
       rotate_left
       ·intro w'
        go_simp
        with_reducible rfl
       rotate_left
       ·simp only [Act.put, List.setIfInBounds_toArray, List.set_cons_zero, List.set_cons_succ, i64_w, i32_w]
        rfl
       refine pure_ (i := 8) (N := some 25) (v := ?_) (a' := ?_) #[true, true, true, true, false, true, true, true, true, false, false, false, false] rfl rfl (any_of HT_.out (by kernel_rfl)) (fun _ _ _ h => h) (Or.inl ⟨by rfl, ?_⟩) ?_ ?_
       rotate_left
       ·intro w'
        go_simp
        with_reducible rfl
       rotate_left
       ·simp only [Act.put, List.setIfInBounds_toArray, List.set_cons_zero, List.set_cons_succ, i64_w, i32_w]
        rfl
       refine take_ (i := 4) (N := some 21) (v := ?_) (a' := ?_) #[true, true, true, true, true, true, true, true, true, false, false, false, false] rfl rfl (take_ofW HT_.out HW_.out (by kernel_rfl)) (fun _ _ _ h => h) (Or.inl ⟨by rfl, ?_⟩) hHeld ?_ ?_
       rotate_left
       ·rintro w' ⟨s0, s1, s2, s3, s4, s5, s6, s7⟩
        go_simp
        with_reducible rfl
       rotate_left
       ·simp only [Act.put, List.setIfInBounds_toArray, List.set_cons_zero, List.set_cons_succ, i64_w, i32_w]
        rfl
       refine take_ (i := 9) (N := some 26) (v := ?_) (a' := ?_) #[true, true, true, true, true, true, true, true, true, true, false, false, false] rfl rfl (take_ofW HT_.out HW_.out (by kernel_rfl)) (fun _ _ _ h => h) (Or.inl ⟨by rfl, ?_⟩) hHeld ?_ ?_
       rotate_left
       ·rintro w' ⟨s0, s1, s2, s3, s4, s5, s6, s7⟩
        go_simp
        with_reducible rfl
       rotate_left
       ·simp only [Act.put, List.setIfInBounds_toArray, List.set_cons_zero, List.set_cons_succ, i64_w, i32_w]
        rfl
       refine pure_ (i := 10) (N := some 27) (v := ?_) (a' := ?_) #[true, true, true, true, true, true, true, true, true, true, true, false, false] rfl rfl (any_of HT_.out (by kernel_rfl)) (fun _ _ _ h => h) (Or.inl ⟨by rfl, ?_⟩) ?_ ?_
       rotate_left
       ·intro w'
        go_simp
        with_reducible rfl
       rotate_left
       ·simp only [Act.put, List.setIfInBounds_toArray, List.set_cons_zero, List.set_cons_succ, i64_w, i32_w]
        rfl
       refine one_ (i := 11) (N := some 8) #[true, true, true, true, true, true, true, true, true, true, true, true, false] rfl rfl (one_of HT_.out (by kernel_rfl)) (by decide) (fun K hK => ?_)
       refine box_step ?hg (N := 8) ?hd (cs := #[.string (⟨#[]⟩ : ByteArray), .int .i64 0, .string (⟨#[]⟩ : ByteArray)]) (t := 75) ?hr ?_; (case hd => rfl); (case hg => rfl); (case hr => first | (go_simp; done) | (go_simp; rfl))
       intro gb193 hg w28 hbox hb
       have HS0_ := (hb.cell (World.block_lt_of_cell? _ _ (hHeld.1))).trans (hHeld.1)
       have HS1_ := (hb.cell (World.block_lt_of_cell? _ _ (hHeld.2.1))).trans (hHeld.2.1)
       have HS2_ := (hb.cell (World.block_lt_of_cell? _ _ (hHeld.2.2.1))).trans (hHeld.2.2.1)
       have HS3_ := (hb.cell (World.block_lt_of_cell? _ _ (hHeld.2.2.2.1))).trans (hHeld.2.2.2.1)
       have HS4_ := (hb.cell (World.block_lt_of_cell? _ _ (hHeld.2.2.2.2.1))).trans (hHeld.2.2.2.2.1)
       have HS5_ := (hb.cell (World.block_lt_of_cell? _ _ (hHeld.2.2.2.2.2.1))).trans (hHeld.2.2.2.2.2.1)
       have HS6_ := (hb.cell (World.block_lt_of_cell? _ _ (hHeld.2.2.2.2.2.2.1))).trans (hHeld.2.2.2.2.2.2.1)
       have HS7_ := (hb.cell (World.block_lt_of_cell? _ _ (hHeld.2.2.2.2.2.2.2))).trans (hHeld.2.2.2.2.2.2.2)
       have n0_ := Aside0.mk (Kd.R_below (by (with_reducible repeat (first | apply Kd.R_alloc | apply Kd.R_drewN | apply Kd.R_drew)); exact HO_5.out) hb)
       have n1_ := Aside0.mk (Kd.R_below (by (with_reducible repeat (first | apply Kd.R_alloc | apply Kd.R_drewN | apply Kd.R_drew)); exact HO_6.out) hb)
       have n2_ := Aside0.mk (blk_below (g := gb187) (o := .cells #[.int .i64 a0_0, .string a0_1, .string a0_2, .string a0_3, .int .i64 a0_4, .int .i64 a0_5, .int .i64 a0_6, .int .i64 a0_7, .int .i64 a0_8, .bool a0_9, .int .i64 a0_10, .string a0_11, .string a0_12] 24 (0, 0)) (by (with_reducible repeat (first | refine blk_drewN ?_ _ | refine blk_drew ?_ | refine blk_alloc ?_ _)); exact BK187.out) hb)
       have n3_ := Aside0.mk (below_step (by repeat (first | (with_reducible first | exact HB.out | apply below_alloc | apply pw_below_drewN | apply below_drew1 | refine below_set ?_ GE187.out) | exact HB.out)) hb)
       have n4_ := Aside0.mk (hbox)
       have n5_ := Aside0.mk ((by rw [hg]; exact (below_size (by repeat (first | (with_reducible first | exact HB.out | apply below_alloc | apply pw_below_drewN | apply below_drew1 | refine below_set ?_ GE187.out) | exact HB.out))) : w.heap.size ≤ gb193))
       have n6_ := Aside0.mk ((by rw [hg]; exact (below_size (by repeat (first | (with_reducible first | exact HB.out | apply below_alloc | apply pw_below_drewN | apply below_drew1 | refine below_set ?_ GE187.out) | exact HB.out))) : w.heap.size ≤ gb193))
       have n7_ := Aside0.mk ((by rw [hg]; exact Nat.ne_of_lt (blk_lt (g := gb187) (o := .cells #[.int .i64 a0_0, .string a0_1, .string a0_2, .string a0_3, .int .i64 a0_4, .int .i64 a0_5, .int .i64 a0_6, .int .i64 a0_7, .int .i64 a0_8, .bool a0_9, .int .i64 a0_10, .string a0_11, .string a0_12] 24 (0, 0)) (by (with_reducible repeat (first | refine blk_drewN ?_ _ | refine blk_drew ?_ | refine blk_alloc ?_ _)); exact BK187.out)) : gb187 ≠ gb193))
       have n8_ := Aside0.mk ((by rw [hg]; exact Nat.ne_of_gt (blk_lt (g := gb187) (o := .cells #[.int .i64 a0_0, .string a0_1, .string a0_2, .string a0_3, .int .i64 a0_4, .int .i64 a0_5, .int .i64 a0_6, .int .i64 a0_7, .int .i64 a0_8, .bool a0_9, .int .i64 a0_10, .string a0_11, .string a0_12] 24 (0, 0)) (by (with_reducible repeat (first | refine blk_drewN ?_ _ | refine blk_drew ?_ | refine blk_alloc ?_ _)); exact BK187.out)) : gb193 ≠ gb187))
       clear HO_5
       clear HO_6
       clear BK187
       clear HB
       have HO_5 := n0_
       have HO_6 := n1_
       have BK187 := n2_
       have HB := n3_
       have BK193 := n4_
       have GW193 := n5_
       have GE193 := n6_
       have NB187_193 := n7_
       have NB193_187 := n8_
       clear n0_ n1_ n2_ n3_ n4_ n5_ n6_ n7_ n8_
       clear hb hbox hg
       refine hK.out _ _ ⟨HS0_, HS1_, HS2_, HS3_, HS4_, HS5_, HS6_, HS7_⟩ (fun hHeld => ?_)
       clear hK K
       refine norm_ (a' := ?_) ?_ ?_
       rotate_left
       ·show Act.put _ (some 8) _ = _
        simp only [Act.put, List.setIfInBounds_toArray, List.set_cons_zero, List.set_cons_succ, i64_w, i32_w]
        rfl
       refine one_ (i := 12) (N := none) #[true, true, true, true, true, true, true, true, true, true, true, true, true] rfl rfl (one_of HT_.out (by kernel_rfl)) (by decide) (fun K hK => ?_)
       have hs29 : w28.cell? ⟨gb193, 0, none⟩ = some (.string (⟨#[]⟩ : ByteArray)) := (blk_cell BK193.out 0).trans rfl
       have hfs29 := blk_frozen BK193.out 0
       have hns29_0 := NB187_193.out
       have hms29_0 := NB193_187.out
       have hs30 : w28.cell? ⟨gb193, 1, none⟩ = some (.int .i64 0) := (blk_cell BK193.out 1).trans rfl
       have hfs30 := blk_frozen BK193.out 1
       have hns30_0 := NB187_193.out
       have hms30_0 := NB193_187.out
       have hs31 : w28.cell? ⟨gb193, 2, none⟩ = some (.string (⟨#[]⟩ : ByteArray)) := (blk_cell BK193.out 2).trans rfl
       have hfs31 := blk_frozen BK193.out 2
       have hns31_0 := NB187_193.out
       have hms31_0 := NB193_187.out
       refine skip_ (w1 := ?_) (by rfl) rfl ?_ ?_
       rotate_left
       ·go_simp
        rfl
       refine hK.out _ _ ⟨((cell_far (p := ⟨gb193, _, none⟩) (by first | exact Kd.own_blk (Kd.R_ne HO_6.out BK193.out (by decide)) | (rw [add_block]; exact Kd.own_blk (Kd.R_ne HO_6.out BK193.out (by decide))) | (show (Addr.add _ _).block ≠ _; rw [add_block]; exact Kd.own_blk (Kd.R_ne HO_6.out BK193.out (by decide))) | (dsimp only; exact Kd.own_blk (Kd.R_ne HO_6.out BK193.out (by decide)))) _).trans (((cell_far (p := ⟨gb193, _, none⟩) (by first | exact Kd.own_blk (Kd.R_ne HO_6.out BK193.out (by decide)) | (rw [add_block]; exact Kd.own_blk (Kd.R_ne HO_6.out BK193.out (by decide))) | (show (Addr.add _ _).block ≠ _; rw [add_block]; exact Kd.own_blk (Kd.R_ne HO_6.out BK193.out (by decide))) | (dsimp only; exact Kd.own_blk (Kd.R_ne HO_6.out BK193.out (by decide)))) _).trans (((cell_far (p := ⟨gb193, _, none⟩) (by first | exact Kd.own_blk (Kd.R_ne HO_6.out BK193.out (by decide)) | (rw [add_block]; exact Kd.own_blk (Kd.R_ne HO_6.out BK193.out (by decide))) | (show (Addr.add _ _).block ≠ _; rw [add_block]; exact Kd.own_blk (Kd.R_ne HO_6.out BK193.out (by decide))) | (dsimp only; exact Kd.own_blk (Kd.R_ne HO_6.out BK193.out (by decide)))) _).trans (hHeld.1)))))), ((cell_far (p := ⟨gb193, _, none⟩) (by first | exact Kd.own_blk (Kd.R_ne HO_6.out BK193.out (by decide)) | (rw [add_block]; exact Kd.own_blk (Kd.R_ne HO_6.out BK193.out (by decide))) | (show (Addr.add _ _).block ≠ _; rw [add_block]; exact Kd.own_blk (Kd.R_ne HO_6.out BK193.out (by decide))) | (dsimp only; exact Kd.own_blk (Kd.R_ne HO_6.out BK193.out (by decide)))) _).trans (((cell_far (p := ⟨gb193, _, none⟩) (by first | exact Kd.own_blk (Kd.R_ne HO_6.out BK193.out (by decide)) | (rw [add_block]; exact Kd.own_blk (Kd.R_ne HO_6.out BK193.out (by decide))) | (show (Addr.add _ _).block ≠ _; rw [add_block]; exact Kd.own_blk (Kd.R_ne HO_6.out BK193.out (by decide))) | (dsimp only; exact Kd.own_blk (Kd.R_ne HO_6.out BK193.out (by decide)))) _).trans (((cell_far (p := ⟨gb193, _, none⟩) (by first | exact Kd.own_blk (Kd.R_ne HO_6.out BK193.out (by decide)) | (rw [add_block]; exact Kd.own_blk (Kd.R_ne HO_6.out BK193.out (by decide))) | (show (Addr.add _ _).block ≠ _; rw [add_block]; exact Kd.own_blk (Kd.R_ne HO_6.out BK193.out (by decide))) | (dsimp only; exact Kd.own_blk (Kd.R_ne HO_6.out BK193.out (by decide)))) _).trans (hHeld.2.1)))))), ((cell_far (p := ⟨gb193, _, none⟩) (by first | exact Kd.own_blk (Kd.R_ne HO_6.out BK193.out (by decide)) | (rw [add_block]; exact Kd.own_blk (Kd.R_ne HO_6.out BK193.out (by decide))) | (show (Addr.add _ _).block ≠ _; rw [add_block]; exact Kd.own_blk (Kd.R_ne HO_6.out BK193.out (by decide))) | (dsimp only; exact Kd.own_blk (Kd.R_ne HO_6.out BK193.out (by decide)))) _).trans (((cell_far (p := ⟨gb193, _, none⟩) (by first | exact Kd.own_blk (Kd.R_ne HO_6.out BK193.out (by decide)) | (rw [add_block]; exact Kd.own_blk (Kd.R_ne HO_6.out BK193.out (by decide))) | (show (Addr.add _ _).block ≠ _; rw [add_block]; exact Kd.own_blk (Kd.R_ne HO_6.out BK193.out (by decide))) | (dsimp only; exact Kd.own_blk (Kd.R_ne HO_6.out BK193.out (by decide)))) _).trans (((cell_far (p := ⟨gb193, _, none⟩) (by first | exact Kd.own_blk (Kd.R_ne HO_6.out BK193.out (by decide)) | (rw [add_block]; exact Kd.own_blk (Kd.R_ne HO_6.out BK193.out (by decide))) | (show (Addr.add _ _).block ≠ _; rw [add_block]; exact Kd.own_blk (Kd.R_ne HO_6.out BK193.out (by decide))) | (dsimp only; exact Kd.own_blk (Kd.R_ne HO_6.out BK193.out (by decide)))) _).trans (hHeld.2.2.1)))))), ((cell_far (p := ⟨gb193, _, none⟩) (by first | exact Kd.own_blk (Kd.R_ne HO_6.out BK193.out (by decide)) | (rw [add_block]; exact Kd.own_blk (Kd.R_ne HO_6.out BK193.out (by decide))) | (show (Addr.add _ _).block ≠ _; rw [add_block]; exact Kd.own_blk (Kd.R_ne HO_6.out BK193.out (by decide))) | (dsimp only; exact Kd.own_blk (Kd.R_ne HO_6.out BK193.out (by decide)))) _).trans (((cell_far (p := ⟨gb193, _, none⟩) (by first | exact Kd.own_blk (Kd.R_ne HO_6.out BK193.out (by decide)) | (rw [add_block]; exact Kd.own_blk (Kd.R_ne HO_6.out BK193.out (by decide))) | (show (Addr.add _ _).block ≠ _; rw [add_block]; exact Kd.own_blk (Kd.R_ne HO_6.out BK193.out (by decide))) | (dsimp only; exact Kd.own_blk (Kd.R_ne HO_6.out BK193.out (by decide)))) _).trans (((cell_far (p := ⟨gb193, _, none⟩) (by first | exact Kd.own_blk (Kd.R_ne HO_6.out BK193.out (by decide)) | (rw [add_block]; exact Kd.own_blk (Kd.R_ne HO_6.out BK193.out (by decide))) | (show (Addr.add _ _).block ≠ _; rw [add_block]; exact Kd.own_blk (Kd.R_ne HO_6.out BK193.out (by decide))) | (dsimp only; exact Kd.own_blk (Kd.R_ne HO_6.out BK193.out (by decide)))) _).trans (hHeld.2.2.2.1)))))), ((cell_far (p := ⟨gb193, _, none⟩) (by first | exact Kd.own_blk (Kd.R_ne HO_6.out BK193.out (by decide)) | (rw [add_block]; exact Kd.own_blk (Kd.R_ne HO_6.out BK193.out (by decide))) | (show (Addr.add _ _).block ≠ _; rw [add_block]; exact Kd.own_blk (Kd.R_ne HO_6.out BK193.out (by decide))) | (dsimp only; exact Kd.own_blk (Kd.R_ne HO_6.out BK193.out (by decide)))) _).trans (((cell_far (p := ⟨gb193, _, none⟩) (by first | exact Kd.own_blk (Kd.R_ne HO_6.out BK193.out (by decide)) | (rw [add_block]; exact Kd.own_blk (Kd.R_ne HO_6.out BK193.out (by decide))) | (show (Addr.add _ _).block ≠ _; rw [add_block]; exact Kd.own_blk (Kd.R_ne HO_6.out BK193.out (by decide))) | (dsimp only; exact Kd.own_blk (Kd.R_ne HO_6.out BK193.out (by decide)))) _).trans (((cell_far (p := ⟨gb193, _, none⟩) (by first | exact Kd.own_blk (Kd.R_ne HO_6.out BK193.out (by decide)) | (rw [add_block]; exact Kd.own_blk (Kd.R_ne HO_6.out BK193.out (by decide))) | (show (Addr.add _ _).block ≠ _; rw [add_block]; exact Kd.own_blk (Kd.R_ne HO_6.out BK193.out (by decide))) | (dsimp only; exact Kd.own_blk (Kd.R_ne HO_6.out BK193.out (by decide)))) _).trans (hHeld.2.2.2.2.1)))))), ((cell_far (p := ⟨gb193, _, none⟩) (by first | exact Kd.own_blk (Kd.R_ne HO_6.out BK193.out (by decide)) | (rw [add_block]; exact Kd.own_blk (Kd.R_ne HO_6.out BK193.out (by decide))) | (show (Addr.add _ _).block ≠ _; rw [add_block]; exact Kd.own_blk (Kd.R_ne HO_6.out BK193.out (by decide))) | (dsimp only; exact Kd.own_blk (Kd.R_ne HO_6.out BK193.out (by decide)))) _).trans (((cell_far (p := ⟨gb193, _, none⟩) (by first | exact Kd.own_blk (Kd.R_ne HO_6.out BK193.out (by decide)) | (rw [add_block]; exact Kd.own_blk (Kd.R_ne HO_6.out BK193.out (by decide))) | (show (Addr.add _ _).block ≠ _; rw [add_block]; exact Kd.own_blk (Kd.R_ne HO_6.out BK193.out (by decide))) | (dsimp only; exact Kd.own_blk (Kd.R_ne HO_6.out BK193.out (by decide)))) _).trans (((cell_far (p := ⟨gb193, _, none⟩) (by first | exact Kd.own_blk (Kd.R_ne HO_6.out BK193.out (by decide)) | (rw [add_block]; exact Kd.own_blk (Kd.R_ne HO_6.out BK193.out (by decide))) | (show (Addr.add _ _).block ≠ _; rw [add_block]; exact Kd.own_blk (Kd.R_ne HO_6.out BK193.out (by decide))) | (dsimp only; exact Kd.own_blk (Kd.R_ne HO_6.out BK193.out (by decide)))) _).trans (hHeld.2.2.2.2.2.1)))))), ((cell_far (p := ⟨gb193, _, none⟩) (by first | exact Kd.own_blk (Kd.R_ne HO_6.out BK193.out (by decide)) | (rw [add_block]; exact Kd.own_blk (Kd.R_ne HO_6.out BK193.out (by decide))) | (show (Addr.add _ _).block ≠ _; rw [add_block]; exact Kd.own_blk (Kd.R_ne HO_6.out BK193.out (by decide))) | (dsimp only; exact Kd.own_blk (Kd.R_ne HO_6.out BK193.out (by decide)))) _).trans (((cell_far (p := ⟨gb193, _, none⟩) (by first | exact Kd.own_blk (Kd.R_ne HO_6.out BK193.out (by decide)) | (rw [add_block]; exact Kd.own_blk (Kd.R_ne HO_6.out BK193.out (by decide))) | (show (Addr.add _ _).block ≠ _; rw [add_block]; exact Kd.own_blk (Kd.R_ne HO_6.out BK193.out (by decide))) | (dsimp only; exact Kd.own_blk (Kd.R_ne HO_6.out BK193.out (by decide)))) _).trans (((cell_far (p := ⟨gb193, _, none⟩) (by first | exact Kd.own_blk (Kd.R_ne HO_6.out BK193.out (by decide)) | (rw [add_block]; exact Kd.own_blk (Kd.R_ne HO_6.out BK193.out (by decide))) | (show (Addr.add _ _).block ≠ _; rw [add_block]; exact Kd.own_blk (Kd.R_ne HO_6.out BK193.out (by decide))) | (dsimp only; exact Kd.own_blk (Kd.R_ne HO_6.out BK193.out (by decide)))) _).trans (hHeld.2.2.2.2.2.2.1)))))), ((cell_far (p := ⟨gb193, _, none⟩) (by first | exact Kd.own_blk (Kd.R_ne HO_6.out BK193.out (by decide)) | (rw [add_block]; exact Kd.own_blk (Kd.R_ne HO_6.out BK193.out (by decide))) | (show (Addr.add _ _).block ≠ _; rw [add_block]; exact Kd.own_blk (Kd.R_ne HO_6.out BK193.out (by decide))) | (dsimp only; exact Kd.own_blk (Kd.R_ne HO_6.out BK193.out (by decide)))) _).trans (((cell_far (p := ⟨gb193, _, none⟩) (by first | exact Kd.own_blk (Kd.R_ne HO_6.out BK193.out (by decide)) | (rw [add_block]; exact Kd.own_blk (Kd.R_ne HO_6.out BK193.out (by decide))) | (show (Addr.add _ _).block ≠ _; rw [add_block]; exact Kd.own_blk (Kd.R_ne HO_6.out BK193.out (by decide))) | (dsimp only; exact Kd.own_blk (Kd.R_ne HO_6.out BK193.out (by decide)))) _).trans (((cell_far (p := ⟨gb193, _, none⟩) (by first | exact Kd.own_blk (Kd.R_ne HO_6.out BK193.out (by decide)) | (rw [add_block]; exact Kd.own_blk (Kd.R_ne HO_6.out BK193.out (by decide))) | (show (Addr.add _ _).block ≠ _; rw [add_block]; exact Kd.own_blk (Kd.R_ne HO_6.out BK193.out (by decide))) | (dsimp only; exact Kd.own_blk (Kd.R_ne HO_6.out BK193.out (by decide)))) _).trans (hHeld.2.2.2.2.2.2.2))))))⟩ (fun hHeld => ?_)
       clear hK K
       refine done_ (done_of HT_.out (by kernel_rfl)) ?_
       try go_wp2
       have n0_ : Aside0 (Kd.R k77 77 (((w28.setCell ⟨gb193, 0, none⟩ (.string ((rd_T49 t188 x7_1).f0))).setCell ⟨gb193, 1, none⟩ (.int .i64 0)).setCell ⟨gb193, 2, none⟩ (.string ((rd_T49 t188 x7_1).f2))) w.heap.size (fun _ => True) u5 x5_1) := ⟨by (with_reducible repeat (first | apply Kd.R_alloc | apply Kd.R_drewN | apply Kd.R_drew)); exact Kd.R_mono (Kd.R_far (p := ⟨gb193, 2, none⟩) (Kd.R_far (p := ⟨gb193, 1, none⟩) (Kd.R_far (p := ⟨gb193, 0, none⟩) (Kd.R_types HO_5.out BK193.out (by decide)) (fun _ hk => hk.2) (.string ((rd_T49 t188 x7_1).f0))) (fun _ hk => hk.2) (.int .i64 0)) (fun _ hk => hk.2) (.string ((rd_T49 t188 x7_1).f2))) (fun _ hk => trivial)⟩
       have n1_ : Aside0 (Kd.R k49 49 (((w28.setCell ⟨gb193, 0, none⟩ (.string ((rd_T49 t188 x7_1).f0))).setCell ⟨gb193, 1, none⟩ (.int .i64 0)).setCell ⟨gb193, 2, none⟩ (.string ((rd_T49 t188 x7_1).f2))) w.heap.size (fun _ => True) (.slice (some ad191) t188.length co26) t188) := ⟨by (with_reducible repeat (first | apply Kd.R_alloc | apply Kd.R_drewN | apply Kd.R_drew)); exact Kd.R_mono (Kd.R_far (p := ⟨gb193, 2, none⟩) (Kd.R_far (p := ⟨gb193, 1, none⟩) (Kd.R_far (p := ⟨gb193, 0, none⟩) (Kd.R_types HO_6.out BK193.out (by decide)) (fun _ hk => hk.2) (.string ((rd_T49 t188 x7_1).f0))) (fun _ hk => hk.2) (.int .i64 0)) (fun _ hk => hk.2) (.string ((rd_T49 t188 x7_1).f2))) (fun _ hk => trivial)⟩
       have n2_ : Aside0 ((((w28.setCell ⟨gb193, 0, none⟩ (.string ((rd_T49 t188 x7_1).f0))).setCell ⟨gb193, 1, none⟩ (.int .i64 0)).setCell ⟨gb193, 2, none⟩ (.string ((rd_T49 t188 x7_1).f2))).heap[gb187]? = some (.cells #[.int .i64 a0_0, .string a0_1, .string a0_2, .string a0_3, .int .i64 a0_4, .int .i64 a0_5, .int .i64 a0_6, .int .i64 a0_7, .int .i64 a0_8, .bool a0_9, .int .i64 a0_10, .string a0_11, .string a0_12] 24 (0, 0))) := ⟨by (with_reducible repeat (first | refine blk_drewN ?_ _ | refine blk_drew ?_ | refine blk_alloc ?_ _)); refine blk_far ?_ NB187_193.out _; (with_reducible repeat (first | refine blk_drewN ?_ _ | refine blk_drew ?_ | refine blk_alloc ?_ _)); refine blk_far ?_ NB187_193.out _; (with_reducible repeat (first | refine blk_drewN ?_ _ | refine blk_drew ?_ | refine blk_alloc ?_ _)); refine blk_far ?_ NB187_193.out _; (with_reducible repeat (first | refine blk_drewN ?_ _ | refine blk_drew ?_ | refine blk_alloc ?_ _)); exact BK187.out⟩
       have n3_ : Aside0 ((((w28.setCell ⟨gb193, 0, none⟩ (.string ((rd_T49 t188 x7_1).f0))).setCell ⟨gb193, 1, none⟩ (.int .i64 0)).setCell ⟨gb193, 2, none⟩ (.string ((rd_T49 t188 x7_1).f2))).heap[gb193]? = some (.cells #[.string ((rd_T49 t188 x7_1).f0), .int .i64 0, .string ((rd_T49 t188 x7_1).f2)] 75 (0, 0))) := ⟨by (with_reducible repeat (first | refine blk_drewN ?_ _ | refine blk_drew ?_ | refine blk_alloc ?_ _)); refine blk_put (cs := #[.string ((rd_T49 t188 x7_1).f0), .int .i64 0, .string (⟨#[]⟩ : ByteArray)]) ?_ 2 _ rfl; (with_reducible repeat (first | refine blk_drewN ?_ _ | refine blk_drew ?_ | refine blk_alloc ?_ _)); refine blk_put (cs := #[.string ((rd_T49 t188 x7_1).f0), .int .i64 0, .string (⟨#[]⟩ : ByteArray)]) ?_ 1 _ rfl; (with_reducible repeat (first | refine blk_drewN ?_ _ | refine blk_drew ?_ | refine blk_alloc ?_ _)); refine blk_put (cs := #[.string (⟨#[]⟩ : ByteArray), .int .i64 0, .string (⟨#[]⟩ : ByteArray)]) ?_ 0 _ rfl; (with_reducible repeat (first | refine blk_drewN ?_ _ | refine blk_drew ?_ | refine blk_alloc ?_ _)); exact BK193.out⟩
       have n4_ : Aside0 (Below w.heap.size w (((w28.setCell ⟨gb193, 0, none⟩ (.string ((rd_T49 t188 x7_1).f0))).setCell ⟨gb193, 1, none⟩ (.int .i64 0)).setCell ⟨gb193, 2, none⟩ (.string ((rd_T49 t188 x7_1).f2)))) := ⟨by repeat (first | (with_reducible first | exact HB.out | apply below_alloc | apply pw_below_drewN | apply below_drew1 | refine below_set ?_ GE187.out | refine below_set ?_ GE193.out) | exact HB.out)⟩
       (try clear HO_5)
       (try clear HO_6)
       (try clear BK187)
       (try clear BK193)
       (try clear HB)
       generalize (((w28.setCell ⟨gb193, 0, none⟩ (.string ((rd_T49 t188 x7_1).f0))).setCell ⟨gb193, 1, none⟩ (.int .i64 0)).setCell ⟨gb193, 2, none⟩ (.string ((rd_T49 t188 x7_1).f2))) = w32 at n0_ n1_ n2_ n3_ n4_ ⊢
       have HO_5 := n0_
       have HO_6 := n1_
       have BK187 := n2_
       have BK193 := n3_
       have HB := n4_
       clear n0_ n1_ n2_ n3_ n4_
       have n0_ := Aside0.mk (Kd.R_drew HO_5.out)
       have n1_ := Aside0.mk (Kd.R_drew HO_6.out)
       have n2_ := Aside0.mk (blk_drew BK187.out)
       have n3_ := Aside0.mk (blk_drew BK193.out)
       have n4_ := Aside0.mk (below_drew1 HB.out)
       clear HO_5
       clear HO_6
       clear BK187
       clear BK193
       clear HB
       have HO_5 := n0_
       have HO_6 := n1_
       have BK187 := n2_
       have BK193 := n3_
       have HB := n4_
       clear n0_ n1_ n2_ n3_ n4_
       have p204 : 0 ≤ (x7_1 : Int) := of_decide_eq_true (by first | (with_reducible assumption) | assumption)
       have q204 : x7_1 < (t188.length : Int) := of_decide_eq_true (by first | (with_reducible assumption) | assumption)
       obtain ⟨ad204, e204, hx204_0, hx204_1, hx204_2, hx204_3⟩ := at_T49 (Kd.R_reads' HO_6.out).2.2 x7_1 p204 q204
       obtain rfl : ad191 = ad204 := (by injection e204)
       replace p204 := eq_true p204
       replace q204 := eq_true q204
       have p205 : 0 ≤ (x7_1 : Int) := of_decide_eq_true (by first | (with_reducible assumption) | assumption)
       have q205 : x7_1 < (t188.length : Int) := of_decide_eq_true (by first | (with_reducible assumption) | assumption)
       obtain ⟨ad205, e205, hx205_0, hx205_1, hx205_2, hx205_3⟩ := at_T49 (Kd.R_reads' HO_6.out).2.2 x7_1 p205 q205
       obtain rfl : ad191 = ad205 := (by injection e205)
       replace p205 := eq_true p205
       replace q205 := eq_true q205
       have p206 : 0 ≤ (x7_1 : Int) := of_decide_eq_true (by first | (with_reducible assumption) | assumption)
       have q206 : x7_1 < (t188.length : Int) := of_decide_eq_true (by first | (with_reducible assumption) | assumption)
       obtain ⟨ad206, e206, hx206_0, hx206_1, hx206_2, hx206_3⟩ := at_T49 (Kd.R_reads' HO_6.out).2.2 x7_1 p206 q206
       obtain rfl : ad191 = ad206 := (by injection e206)
       replace p206 := eq_true p206
       replace q206 := eq_true q206
       have p207 : 0 ≤ (x7_1 : Int) := of_decide_eq_true (by first | (with_reducible assumption) | assumption)
       have q207 : x7_1 < (t188.length : Int) := of_decide_eq_true (by first | (with_reducible assumption) | assumption)
       obtain ⟨ad207, e207, hx207_0, hx207_1, hx207_2, hx207_3⟩ := at_T49 (Kd.R_reads' HO_6.out).2.2 x7_1 p207 q207
       obtain rfl : ad191 = ad207 := (by injection e207)
       replace p207 := eq_true p207
       replace q207 := eq_true q207
       refine start_ (n := 29) (S := fun w' => w'.cell? ⟨gb193, 0, none⟩ = some (.string ((rd_T49 t188 x7_1).f0)) ∧ w'.cell? ⟨gb193, 1, none⟩ = some (.int .i64 0) ∧ w'.cell? ⟨gb193, 2, none⟩ = some (.string ((rd_T49 t188 x7_1).f2)) ∧ w'.cell? (ad191.add ((x7_1).toNat * 4)) = some (.string ((rd_T49 t188 x7_1).f0)) ∧ w'.cell? ⟨(ad191.add ((x7_1).toNat * 4)).block, (ad191.add ((x7_1).toNat * 4)).off + 1, none⟩ = some (.string ((rd_T49 t188 x7_1).f1)) ∧ w'.cell? ⟨(ad191.add ((x7_1).toNat * 4)).block, (ad191.add ((x7_1).toNat * 4)).off + 2, none⟩ = some (.string ((rd_T49 t188 x7_1).f2)) ∧ w'.cell? ⟨(ad191.add ((x7_1).toNat * 4)).block, (ad191.add ((x7_1).toNat * 4)).off + 3, none⟩ = some (.int .i64 ((rd_T49 t188 x7_1).f3)) ∧ w'.cell? (ad191.add ((x7_1).toNat * 4)) = some (.string ((rd_T49 t188 x7_1).f0)) ∧ w'.cell? ⟨(ad191.add ((x7_1).toNat * 4)).block, (ad191.add ((x7_1).toNat * 4)).off + 1, none⟩ = some (.string ((rd_T49 t188 x7_1).f1)) ∧ w'.cell? ⟨(ad191.add ((x7_1).toNat * 4)).block, (ad191.add ((x7_1).toNat * 4)).off + 2, none⟩ = some (.string ((rd_T49 t188 x7_1).f2)) ∧ w'.cell? ⟨(ad191.add ((x7_1).toNat * 4)).block, (ad191.add ((x7_1).toNat * 4)).off + 3, none⟩ = some (.int .i64 ((rd_T49 t188 x7_1).f3)) ∧ w'.cell? (ad191.add ((x7_1).toNat * 4)) = some (.string ((rd_T49 t188 x7_1).f0)) ∧ w'.cell? ⟨(ad191.add ((x7_1).toNat * 4)).block, (ad191.add ((x7_1).toNat * 4)).off + 1, none⟩ = some (.string ((rd_T49 t188 x7_1).f1)) ∧ w'.cell? ⟨(ad191.add ((x7_1).toNat * 4)).block, (ad191.add ((x7_1).toNat * 4)).off + 2, none⟩ = some (.string ((rd_T49 t188 x7_1).f2)) ∧ w'.cell? ⟨(ad191.add ((x7_1).toNat * 4)).block, (ad191.add ((x7_1).toNat * 4)).off + 3, none⟩ = some (.int .i64 ((rd_T49 t188 x7_1).f3)) ∧ w'.cell? (ad191.add ((x7_1).toNat * 4)) = some (.string ((rd_T49 t188 x7_1).f0)) ∧ w'.cell? ⟨(ad191.add ((x7_1).toNat * 4)).block, (ad191.add ((x7_1).toNat * 4)).off + 1, none⟩ = some (.string ((rd_T49 t188 x7_1).f1)) ∧ w'.cell? ⟨(ad191.add ((x7_1).toNat * 4)).block, (ad191.add ((x7_1).toNat * 4)).off + 2, none⟩ = some (.string ((rd_T49 t188 x7_1).f2)) ∧ w'.cell? ⟨(ad191.add ((x7_1).toNat * 4)).block, (ad191.add ((x7_1).toNat * 4)).off + 3, none⟩ = some (.int .i64 ((rd_T49 t188 x7_1).f3))) (ds := [27]) #[false, false, false, false, false, false, false, false, false, false, false, false, false, false, false, false, false, false, false, false, false, false, false, false, false, false, false, false, false] (by kernel_rfl) rfl rfl ⟨(blk_cell BK193.out 0).trans rfl, (blk_cell BK193.out 1).trans rfl, (blk_cell BK193.out 2).trans rfl, hx204_0, hx204_1, hx204_2, hx204_3, hx205_0, hx205_1, hx205_2, hx205_3, hx206_0, hx206_1, hx206_2, hx206_3, hx207_0, hx207_1, hx207_2, hx207_3⟩ (fun hHeld => ?_); refine with_tabW giroref39_Postings.tab9 giroref39_Postings.bits9 (fun HT_ HW_ => ?_)
       generalize w32.drew = w33 at HO_5 HO_6 BK187 BK193 HB hx204_0 hx204_1 hx204_2 hx204_3 hx205_0 hx205_1 hx205_2 hx205_3 hx206_0 hx206_1 hx206_2 hx206_3 hx207_0 hx207_1 hx207_2 hx207_3 hHeld ⊢
       refine pure_ (i := 0) (N := some 32) (v := ?_) (a' := ?_) #[true, false, false, false, false, false, false, false, false, false, false, false, false, false, false, false, false, false, false, false, false, false, false, false, false, false, false, false, false] rfl rfl (any_of HT_.out (by kernel_rfl)) (fun _ _ _ h => h) (Or.inl ⟨by rfl, ?_⟩) ?_ ?_
       rotate_left
       ·intro w'
        go_simp
        with_reducible rfl
       rotate_left
       ·simp only [Act.put, List.setIfInBounds_toArray, List.set_cons_zero, List.set_cons_succ, i64_w, i32_w]
        rfl
       refine pure_ (i := 2) (N := some 34) (v := ?_) (a' := ?_) #[true, false, true, false, false, false, false, false, false, false, false, false, false, false, false, false, false, false, false, false, false, false, false, false, false, false, false, false, false] rfl rfl (any_of HT_.out (by kernel_rfl)) (fun _ _ _ h => h) (Or.inl ⟨by rfl, ?_⟩) ?_ ?_
       rotate_left
       ·intro w'
        go_simp
        with_reducible rfl
       rotate_left
       ·simp only [Act.put, List.setIfInBounds_toArray, List.set_cons_zero, List.set_cons_succ, i64_w, i32_w]
        rfl
       refine pure_ (i := 3) (N := some 35) (v := ?_) (a' := ?_) #[true, false, true, true, false, false, false, false, false, false, false, false, false, false, false, false, false, false, false, false, false, false, false, false, false, false, false, false, false] rfl rfl (any_of HT_.out (by kernel_rfl)) (fun _ _ _ h => h) (Or.inl ⟨by rfl, ?_⟩) ?_ ?_
       rotate_left
       ·intro w'
        go_simp
        with_reducible rfl
       rotate_left
       ·simp only [Act.put, List.setIfInBounds_toArray, List.set_cons_zero, List.set_cons_succ, i64_w, i32_w]
        rfl
       refine pure_ (i := 4) (N := some 36) (v := ?_) (a' := ?_) #[true, false, true, true, true, false, false, false, false, false, false, false, false, false, false, false, false, false, false, false, false, false, false, false, false, false, false, false, false] rfl rfl (any_of HT_.out (by kernel_rfl)) (fun _ _ _ h => h) (Or.inl ⟨by rfl, ?_⟩) ?_ ?_
       rotate_left
       ·intro w'
        go_simp
        with_reducible rfl
       rotate_left
       ·simp only [Act.put, List.setIfInBounds_toArray, List.set_cons_zero, List.set_cons_succ, i64_w, i32_w]
        rfl
       refine pure_ (i := 5) (N := some 37) (v := ?_) (a' := ?_) #[true, false, true, true, true, true, false, false, false, false, false, false, false, false, false, false, false, false, false, false, false, false, false, false, false, false, false, false, false] rfl rfl (any_of HT_.out (by kernel_rfl)) (fun _ _ _ h => h) (Or.inl ⟨by rfl, ?_⟩) ?_ ?_
       rotate_left
       ·intro w'
        go_simp
        with_reducible rfl
       rotate_left
       ·simp only [Act.put, List.setIfInBounds_toArray, List.set_cons_zero, List.set_cons_succ, i64_w, i32_w]
        rfl
       refine pure_ (i := 9) (N := some 41) (v := ?_) (a' := ?_) #[true, false, true, true, true, true, false, false, false, true, false, false, false, false, false, false, false, false, false, false, false, false, false, false, false, false, false, false, false] rfl rfl (any_of HT_.out (by kernel_rfl)) (fun _ _ _ h => h) (Or.inl ⟨by rfl, ?_⟩) ?_ ?_
       rotate_left
       ·intro w'
        go_simp
        with_reducible rfl
       rotate_left
       ·simp only [Act.put, List.setIfInBounds_toArray, List.set_cons_zero, List.set_cons_succ, i64_w, i32_w]
        rfl
       refine pure_ (i := 10) (N := some 42) (v := ?_) (a' := ?_) #[true, false, true, true, true, true, false, false, false, true, true, false, false, false, false, false, false, false, false, false, false, false, false, false, false, false, false, false, false] rfl rfl (any_of HT_.out (by kernel_rfl)) (fun _ _ _ h => h) (Or.inl ⟨by rfl, ?_⟩) ?_ ?_
       rotate_left
       ·intro w'
        go_simp
        with_reducible rfl
       rotate_left
       ·simp only [Act.put, List.setIfInBounds_toArray, List.set_cons_zero, List.set_cons_succ, i64_w, i32_w]
        rfl
       refine pure_ (i := 11) (N := some 43) (v := ?_) (a' := ?_) #[true, false, true, true, true, true, false, false, false, true, true, true, false, false, false, false, false, false, false, false, false, false, false, false, false, false, false, false, false] rfl rfl (any_of HT_.out (by kernel_rfl)) (fun _ _ _ h => h) (Or.inl ⟨by rfl, ?_⟩) ?_ ?_
       rotate_left
       ·intro w'
        go_simp
        with_reducible rfl
       rotate_left
       ·simp only [Act.put, List.setIfInBounds_toArray, List.set_cons_zero, List.set_cons_succ, i64_w, i32_w]
        rfl
       refine pure_ (i := 12) (N := some 44) (v := ?_) (a' := ?_) #[true, false, true, true, true, true, false, false, false, true, true, true, true, false, false, false, false, false, false, false, false, false, false, false, false, false, false, false, false] rfl rfl (any_of HT_.out (by kernel_rfl)) (fun _ _ _ h => h) (Or.inl ⟨by rfl, ?_⟩) ?_ ?_
       rotate_left
       ·intro w'
        go_simp
        with_reducible rfl
       rotate_left
       ·simp only [Act.put, List.setIfInBounds_toArray, List.set_cons_zero, List.set_cons_succ, i64_w, i32_w]
        rfl
       refine pure_ (i := 14) (N := some 46) (v := ?_) (a' := ?_) #[true, false, true, true, true, true, false, false, false, true, true, true, true, false, true, false, false, false, false, false, false, false, false, false, false, false, false, false, false] rfl rfl (any_of HT_.out (by kernel_rfl)) (fun _ _ _ h => h) (Or.inl ⟨by rfl, ?_⟩) ?_ ?_
       rotate_left
       ·intro w'
        go_simp
        with_reducible rfl
       rotate_left
       ·simp only [Act.put, List.setIfInBounds_toArray, List.set_cons_zero, List.set_cons_succ, i64_w, i32_w]
        rfl
       refine pure_ (i := 15) (N := some 47) (v := ?_) (a' := ?_) #[true, false, true, true, true, true, false, false, false, true, true, true, true, false, true, true, false, false, false, false, false, false, false, false, false, false, false, false, false] rfl rfl (any_of HT_.out (by kernel_rfl)) (fun _ _ _ h => h) (Or.inl ⟨by rfl, ?_⟩) ?_ ?_
       rotate_left
       ·intro w'
        go_simp
        with_reducible rfl
       rotate_left
       ·simp only [Act.put, List.setIfInBounds_toArray, List.set_cons_zero, List.set_cons_succ, i64_w, i32_w]
        rfl
       refine pure_ (i := 16) (N := some 48) (v := ?_) (a' := ?_) #[true, false, true, true, true, true, false, false, false, true, true, true, true, false, true, true, true, false, false, false, false, false, false, false, false, false, false, false, false] rfl rfl (any_of HT_.out (by kernel_rfl)) (fun _ _ _ h => h) (Or.inl ⟨by rfl, ?_⟩) ?_ ?_
       rotate_left
       ·intro w'
        go_simp
        with_reducible rfl
       rotate_left
       ·simp only [Act.put, List.setIfInBounds_toArray, List.set_cons_zero, List.set_cons_succ, i64_w, i32_w]
        rfl
       refine pure_ (i := 17) (N := some 49) (v := ?_) (a' := ?_) #[true, false, true, true, true, true, false, false, false, true, true, true, true, false, true, true, true, true, false, false, false, false, false, false, false, false, false, false, false] rfl rfl (any_of HT_.out (by kernel_rfl)) (fun _ _ _ h => h) (Or.inl ⟨by rfl, ?_⟩) ?_ ?_
       rotate_left
       ·intro w'
        go_simp
        with_reducible rfl
       rotate_left
       ·simp only [Act.put, List.setIfInBounds_toArray, List.set_cons_zero, List.set_cons_succ, i64_w, i32_w]
        rfl
       refine pure_ (i := 20) (N := some 52) (v := ?_) (a' := ?_) #[true, false, true, true, true, true, false, false, false, true, true, true, true, false, true, true, true, true, false, false, true, false, false, false, false, false, false, false, false] rfl rfl (any_of HT_.out (by kernel_rfl)) (fun _ _ _ h => h) (Or.inl ⟨by rfl, ?_⟩) ?_ ?_
       rotate_left
       ·intro w'
        go_simp
        with_reducible rfl
       rotate_left
       ·simp only [Act.put, List.setIfInBounds_toArray, List.set_cons_zero, List.set_cons_succ, i64_w, i32_w]
        rfl
       refine pure_ (i := 21) (N := some 53) (v := ?_) (a' := ?_) #[true, false, true, true, true, true, false, false, false, true, true, true, true, false, true, true, true, true, false, false, true, true, false, false, false, false, false, false, false] rfl rfl (any_of HT_.out (by kernel_rfl)) (fun _ _ _ h => h) (Or.inl ⟨by rfl, ?_⟩) ?_ ?_
       rotate_left
       ·intro w'
        go_simp
        with_reducible rfl
       rotate_left
       ·simp only [Act.put, List.setIfInBounds_toArray, List.set_cons_zero, List.set_cons_succ, i64_w, i32_w]
        rfl
       refine pure_ (i := 22) (N := some 54) (v := ?_) (a' := ?_) #[true, false, true, true, true, true, false, false, false, true, true, true, true, false, true, true, true, true, false, false, true, true, true, false, false, false, false, false, false] rfl rfl (any_of HT_.out (by kernel_rfl)) (fun _ _ _ h => h) (Or.inl ⟨by rfl, ?_⟩) ?_ ?_
       rotate_left
       ·intro w'
        go_simp
        with_reducible rfl
       rotate_left
       ·simp only [Act.put, List.setIfInBounds_toArray, List.set_cons_zero, List.set_cons_succ, i64_w, i32_w]
        rfl
       refine pure_ (i := 23) (N := some 55) (v := ?_) (a' := ?_) #[true, false, true, true, true, true, false, false, false, true, true, true, true, false, true, true, true, true, false, false, true, true, true, true, false, false, false, false, false] rfl rfl (any_of HT_.out (by kernel_rfl)) (fun _ _ _ h => h) (Or.inl ⟨by rfl, ?_⟩) ?_ ?_
       rotate_left
       ·intro w'
        go_simp
        with_reducible rfl
       rotate_left
       ·simp only [Act.put, List.setIfInBounds_toArray, List.set_cons_zero, List.set_cons_succ, i64_w, i32_w]
        rfl
       refine take_ (i := 1) (N := some 33) (v := ?_) (a' := ?_) #[true, true, true, true, true, true, false, false, false, true, true, true, true, false, true, true, true, true, false, false, true, true, true, true, false, false, false, false, false] rfl rfl (take_ofW HT_.out HW_.out (by kernel_rfl)) (fun _ _ _ h => h) (Or.inl ⟨by rfl, ?_⟩) hHeld ?_ ?_
       rotate_left
       ·rintro w' ⟨s0, s1, s2, s3, s4, s5, s6, s7, s8, s9, s10, s11, s12, s13, s14, s15, s16, s17, s18⟩
        go_simp
        with_reducible rfl
       rotate_left
       ·simp only [Act.put, List.setIfInBounds_toArray, List.set_cons_zero, List.set_cons_succ, i64_w, i32_w]
        rfl
       refine take_ (i := 6) (N := some 38) (v := ?_) (a' := ?_) #[true, true, true, true, true, true, true, false, false, true, true, true, true, false, true, true, true, true, false, false, true, true, true, true, false, false, false, false, false] rfl rfl (take_ofW HT_.out HW_.out (by kernel_rfl)) (fun _ _ _ h => h) (Or.inl ⟨by rfl, ?_⟩) hHeld ?_ ?_
       rotate_left
       ·rintro w' ⟨s0, s1, s2, s3, s4, s5, s6, s7, s8, s9, s10, s11, s12, s13, s14, s15, s16, s17, s18⟩
        go_simp
        with_reducible rfl
       rotate_left
       ·simp only [Act.put, List.setIfInBounds_toArray, List.set_cons_zero, List.set_cons_succ, i64_w, i32_w]
        rfl
       refine pure_ (i := 7) (N := some 39) (v := ?_) (a' := ?_) #[true, true, true, true, true, true, true, true, false, true, true, true, true, false, true, true, true, true, false, false, true, true, true, true, false, false, false, false, false] rfl rfl (any_of HT_.out (by kernel_rfl)) (fun _ _ _ h => h) (Or.inl ⟨by rfl, ?_⟩) ?_ ?_
       rotate_left
       ·intro w'
        go_simp
        with_reducible rfl
       rotate_left
       ·simp only [Act.put, List.setIfInBounds_toArray, List.set_cons_zero, List.set_cons_succ, i64_w, i32_w]
        rfl
       refine pure_ (i := 8) (N := some 40) (v := ?_) (a' := ?_) #[true, true, true, true, true, true, true, true, true, true, true, true, true, false, true, true, true, true, false, false, true, true, true, true, false, false, false, false, false] rfl rfl (any_of HT_.out (by kernel_rfl)) (fun _ _ _ h => h) (Or.inl ⟨by rfl, ?_⟩) ?_ ?_
       rotate_left
       ·intro w'
        go_simp
        with_reducible rfl
       rotate_left
       ·simp only [Act.put, List.setIfInBounds_toArray, List.set_cons_zero, List.set_cons_succ, i64_w, i32_w]
        rfl
       refine take_ (i := 13) (N := some 45) (v := ?_) (a' := ?_) #[true, true, true, true, true, true, true, true, true, true, true, true, true, true, true, true, true, true, false, false, true, true, true, true, false, false, false, false, false] rfl rfl (take_ofW HT_.out HW_.out (by kernel_rfl)) (fun _ _ _ h => h) (Or.inl ⟨by rfl, ?_⟩) hHeld ?_ ?_
       rotate_left
       ·rintro w' ⟨s0, s1, s2, s3, s4, s5, s6, s7, s8, s9, s10, s11, s12, s13, s14, s15, s16, s17, s18⟩
        go_simp
        with_reducible rfl
       rotate_left
       ·simp only [Act.put, List.setIfInBounds_toArray, List.set_cons_zero, List.set_cons_succ, i64_w, i32_w]
        rfl
       refine take_ (i := 18) (N := some 50) (v := ?_) (a' := ?_) #[true, true, true, true, true, true, true, true, true, true, true, true, true, true, true, true, true, true, true, false, true, true, true, true, false, false, false, false, false] rfl rfl (take_ofW HT_.out HW_.out (by kernel_rfl)) (fun _ _ _ h => h) (Or.inl ⟨by rfl, ?_⟩) hHeld ?_ ?_
       rotate_left
       ·rintro w' ⟨s0, s1, s2, s3, s4, s5, s6, s7, s8, s9, s10, s11, s12, s13, s14, s15, s16, s17, s18⟩
        go_simp
        with_reducible rfl
       rotate_left
       ·simp only [Act.put, List.setIfInBounds_toArray, List.set_cons_zero, List.set_cons_succ, i64_w, i32_w]
        rfl
       refine pure_ (i := 19) (N := some 51) (v := ?_) (a' := ?_) #[true, true, true, true, true, true, true, true, true, true, true, true, true, true, true, true, true, true, true, true, true, true, true, true, false, false, false, false, false] rfl rfl (any_of HT_.out (by kernel_rfl)) (fun _ _ _ h => h) (Or.inl ⟨by rfl, ?_⟩) ?_ ?_
       rotate_left
       ·intro w'
        go_simp
        with_reducible rfl
       rotate_left
       ·simp only [Act.put, List.setIfInBounds_toArray, List.set_cons_zero, List.set_cons_succ, i64_w, i32_w]
        rfl
       refine take_ (i := 24) (N := some 56) (v := ?_) (a' := ?_) #[true, true, true, true, true, true, true, true, true, true, true, true, true, true, true, true, true, true, true, true, true, true, true, true, true, false, false, false, false] rfl rfl (take_ofW HT_.out HW_.out (by kernel_rfl)) (fun _ _ _ h => h) (Or.inl ⟨by rfl, ?_⟩) hHeld ?_ ?_
       rotate_left
       ·rintro w' ⟨s0, s1, s2, s3, s4, s5, s6, s7, s8, s9, s10, s11, s12, s13, s14, s15, s16, s17, s18⟩
        go_simp
        with_reducible rfl
       rotate_left
       ·simp only [Act.put, List.setIfInBounds_toArray, List.set_cons_zero, List.set_cons_succ, i64_w, i32_w]
        rfl
       refine pure_ (i := 25) (N := some 57) (v := ?_) (a' := ?_) #[true, true, true, true, true, true, true, true, true, true, true, true, true, true, true, true, true, true, true, true, true, true, true, true, true, true, false, false, false] rfl rfl (any_of HT_.out (by kernel_rfl)) (fun _ _ _ h => h) (Or.inl ⟨by rfl, ?_⟩) ?_ ?_
       rotate_left
       ·intro w'
        go_simp
        with_reducible rfl
       rotate_left
       ·simp only [Act.put, List.setIfInBounds_toArray, List.set_cons_zero, List.set_cons_succ, i64_w, i32_w]
        rfl
       refine one_ (i := 26) (N := some 58) #[true, true, true, true, true, true, true, true, true, true, true, true, true, true, true, true, true, true, true, true, true, true, true, true, true, true, true, false, false] rfl rfl (one_of HT_.out (by kernel_rfl)) (by decide) (fun K hK => ?_)
       refine Kd.R_lit_step k77 _ 77 ?hg (N := 58) ?hd (xs := ([(⟨(⟨(rd_T49 t188 x7_1).f0, 0, (rd_T49 t188 x7_1).f2⟩ : S75), wrap64 (-((rd_T49 t188 x7_1).f3))⟩ : S77), (⟨(⟨(rd_T49 t188 x7_1).f1, 0, (rd_T49 t188 x7_1).f2⟩ : S75), (rd_T49 t188 x7_1).f3⟩ : S77)] : List (S77))) (inner := [.string ((rd_T49 t188 x7_1).f0), .int .i64 0, .string ((rd_T49 t188 x7_1).f2), .int .i64 (wrap64 (-((rd_T49 t188 x7_1).f3))), .string ((rd_T49 t188 x7_1).f1), .int .i64 0, .string ((rd_T49 t188 x7_1).f2), .int .i64 ((rd_T49 t188 x7_1).f3)]) (ok := fun _ => True) (okp := fun _ => True) ?hr ?hp (fun _ hk => hk) trivial (Below.refl _ _) (Nat.le_refl _) (by simp) ?_; (case hd => rfl); (case hg => rfl); (case hr => first | (go_simp; done) | (go_simp; rfl)); (case hp => exact (Reps.c4 (show Kd.M k77 _ _ _ (⟨(⟨(rd_T49 t188 x7_1).f0, 0, (rd_T49 t188 x7_1).f2⟩ : S75), wrap64 (-((rd_T49 t188 x7_1).f3))⟩ : S77) [.string ((rd_T49 t188 x7_1).f0), .int .i64 0, .string ((rd_T49 t188 x7_1).f2), .int .i64 (wrap64 (-((rd_T49 t188 x7_1).f3)))] from (k77_mkM _ _ _ (⟨(⟨(rd_T49 t188 x7_1).f0, 0, (rd_T49 t188 x7_1).f2⟩ : S75), wrap64 (-((rd_T49 t188 x7_1).f3))⟩ : S77) )) (Reps.c4 (show Kd.M k77 _ _ _ (⟨(⟨(rd_T49 t188 x7_1).f1, 0, (rd_T49 t188 x7_1).f2⟩ : S75), (rd_T49 t188 x7_1).f3⟩ : S77) [.string ((rd_T49 t188 x7_1).f1), .int .i64 0, .string ((rd_T49 t188 x7_1).f2), .int .i64 ((rd_T49 t188 x7_1).f3)] from (k77_mkM _ _ _ (⟨(⟨(rd_T49 t188 x7_1).f1, 0, (rd_T49 t188 x7_1).f2⟩ : S75), (rd_T49 t188 x7_1).f3⟩ : S77) )) (Reps.none _ _))))
       intro v209 w34 ho35 hb hg_ hnew_
       have HS3_ := (hb.cell (World.block_lt_of_cell? _ _ (hHeld.2.2.2.1))).trans (hHeld.2.2.2.1)
       have HS4_ := (hb.cell (World.block_lt_of_cell? _ _ (hHeld.2.2.2.2.1))).trans (hHeld.2.2.2.2.1)
       have HS5_ := (hb.cell (World.block_lt_of_cell? _ _ (hHeld.2.2.2.2.2.1))).trans (hHeld.2.2.2.2.2.1)
       have HS6_ := (hb.cell (World.block_lt_of_cell? _ _ (hHeld.2.2.2.2.2.2.1))).trans (hHeld.2.2.2.2.2.2.1)
       have HS7_ := (hb.cell (World.block_lt_of_cell? _ _ (hHeld.2.2.2.2.2.2.2.1))).trans (hHeld.2.2.2.2.2.2.2.1)
       have HS8_ := (hb.cell (World.block_lt_of_cell? _ _ (hHeld.2.2.2.2.2.2.2.2.1))).trans (hHeld.2.2.2.2.2.2.2.2.1)
       have HS9_ := (hb.cell (World.block_lt_of_cell? _ _ (hHeld.2.2.2.2.2.2.2.2.2.1))).trans (hHeld.2.2.2.2.2.2.2.2.2.1)
       have HS10_ := (hb.cell (World.block_lt_of_cell? _ _ (hHeld.2.2.2.2.2.2.2.2.2.2.1))).trans (hHeld.2.2.2.2.2.2.2.2.2.2.1)
       have HS11_ := (hb.cell (World.block_lt_of_cell? _ _ (hHeld.2.2.2.2.2.2.2.2.2.2.2.1))).trans (hHeld.2.2.2.2.2.2.2.2.2.2.2.1)
       have HS12_ := (hb.cell (World.block_lt_of_cell? _ _ (hHeld.2.2.2.2.2.2.2.2.2.2.2.2.1))).trans (hHeld.2.2.2.2.2.2.2.2.2.2.2.2.1)
       have HS13_ := (hb.cell (World.block_lt_of_cell? _ _ (hHeld.2.2.2.2.2.2.2.2.2.2.2.2.2.1))).trans (hHeld.2.2.2.2.2.2.2.2.2.2.2.2.2.1)
       have HS14_ := (hb.cell (World.block_lt_of_cell? _ _ (hHeld.2.2.2.2.2.2.2.2.2.2.2.2.2.2.1))).trans (hHeld.2.2.2.2.2.2.2.2.2.2.2.2.2.2.1)
       have HS15_ := (hb.cell (World.block_lt_of_cell? _ _ (hHeld.2.2.2.2.2.2.2.2.2.2.2.2.2.2.2.1))).trans (hHeld.2.2.2.2.2.2.2.2.2.2.2.2.2.2.2.1)
       have HS16_ := (hb.cell (World.block_lt_of_cell? _ _ (hHeld.2.2.2.2.2.2.2.2.2.2.2.2.2.2.2.2.1))).trans (hHeld.2.2.2.2.2.2.2.2.2.2.2.2.2.2.2.2.1)
       have HS17_ := (hb.cell (World.block_lt_of_cell? _ _ (hHeld.2.2.2.2.2.2.2.2.2.2.2.2.2.2.2.2.2.1))).trans (hHeld.2.2.2.2.2.2.2.2.2.2.2.2.2.2.2.2.2.1)
       have HS18_ := (hb.cell (World.block_lt_of_cell? _ _ (hHeld.2.2.2.2.2.2.2.2.2.2.2.2.2.2.2.2.2.2))).trans (hHeld.2.2.2.2.2.2.2.2.2.2.2.2.2.2.2.2.2.2)
       clear hg_ hnew_
       (first | rw [← Ny208.out] at ho35 | (simp only [Int.reduceToNat] at ho35; rw [← Ny208.out] at ho35))
       have n0_ := Aside0.mk (Kd.R_elder' (by (with_reducible repeat (first | apply Kd.R_alloc | apply Kd.R_drewN | apply Kd.R_drew)); exact HO_5.out) (Kd.R_base ho35) hb)
       have n1_ := Aside0.mk (Kd.R_below (by (with_reducible repeat (first | apply Kd.R_alloc | apply Kd.R_drewN | apply Kd.R_drew)); exact HO_6.out) hb)
       have n2_ := Aside0.mk (Kd.R_lower (Kd.R_new' ho35 (Kd.R_lt (by (with_reducible repeat (first | apply Kd.R_alloc | apply Kd.R_drewN | apply Kd.R_drew)); exact HO_5.out))) (below_size (by repeat (first | (with_reducible first | exact HB.out | apply below_alloc | apply pw_below_drewN | apply below_drew1 | refine below_set ?_ GE187.out | refine below_set ?_ GE193.out) | exact HB.out))))
       have n3_ := Aside0.mk (blk_below (g := gb187) (o := .cells #[.int .i64 a0_0, .string a0_1, .string a0_2, .string a0_3, .int .i64 a0_4, .int .i64 a0_5, .int .i64 a0_6, .int .i64 a0_7, .int .i64 a0_8, .bool a0_9, .int .i64 a0_10, .string a0_11, .string a0_12] 24 (0, 0)) (by (with_reducible repeat (first | refine blk_drewN ?_ _ | refine blk_drew ?_ | refine blk_alloc ?_ _)); exact BK187.out) hb)
       have n4_ := Aside0.mk (blk_below (g := gb193) (o := .cells #[.string ((rd_T49 t188 x7_1).f0), .int .i64 0, .string ((rd_T49 t188 x7_1).f2)] 75 (0, 0)) (by (with_reducible repeat (first | refine blk_drewN ?_ _ | refine blk_drew ?_ | refine blk_alloc ?_ _)); exact BK193.out) hb)
       have n5_ := Aside0.mk (below_step (by repeat (first | (with_reducible first | exact HB.out | apply below_alloc | apply pw_below_drewN | apply below_drew1 | refine below_set ?_ GE187.out | refine below_set ?_ GE193.out) | exact HB.out)) hb)
       clear HO_5
       clear HO_6
       clear BK187
       clear BK193
       clear HB
       have HO_5 := n0_
       have HO_6 := n1_
       have HO210 := n2_
       have BK187 := n3_
       have BK193 := n4_
       have HB := n5_
       clear n0_ n1_ n2_ n3_ n4_ n5_
       clear hb ho35
       obtain ⟨Ao37, co37, eo37⟩ := Kd.R_slice HO210.out
       (first | subst eo37 | (injection eo37 with f1_ f2_ f3_; have f4_ := f1_.symm; have f5_ := f3_.symm; clear f1_ f2_ f3_; subst f4_; subst f5_))
       refine hK.out _ _ ⟨(blk_cell BK193.out 0).trans rfl, (blk_cell BK193.out 1).trans rfl, (blk_cell BK193.out 2).trans rfl, HS3_, HS4_, HS5_, HS6_, HS7_, HS8_, HS9_, HS10_, HS11_, HS12_, HS13_, HS14_, HS15_, HS16_, HS17_, HS18_⟩ (fun hHeld => ?_)
       clear hK K
       refine norm_ (a' := ?_) ?_ ?_
       rotate_left
       ·show Act.put _ (some 58) _ = _
        simp only [Act.put, List.setIfInBounds_toArray, List.set_cons_zero, List.set_cons_succ, i64_w, i32_w]
        rfl
       refine last_ (i := 27) (N := some 59) #[true, true, true, true, true, true, true, true, true, true, true, true, true, true, true, true, true, true, true, true, true, true, true, true, true, true, true, true, false] rfl rfl (one_of HT_.out (by kernel_rfl)) (by decide) (fun K hK => ?_)
       refine Kd.R_append_rows_step k77 (w0 := w) w.heap.size (by rfl) (.tmp 32) (.tmp 58) 34 77 (.agg #[(.string ⟨#[]⟩), (.int .i64 0), (.string ⟨#[]⟩), (.int .i64 0)]) 48 rfl Tryd.underlying34 info77 rfl (by decide) (by omega) u5 x5_1 y208 _ _ _ (fun k_ => some k_ ≠ (.slice Ao37 y208.length co37 : Value).ownBlock) (fun _ => False) rfl rfl ?aO ?aR (fun _ _ h => h) (fun _ h => h.elim) ?aF ?aB ?aS ?aL ?_
       (case aR => repeat (first | exact (Kd.R_reads' HO210.out).2.2 | (with_reducible refine Kd.C_alloc ?_ _) | (with_reducible refine Kd.C_drewN ?_ _) | (with_reducible refine Kd.C_drew ?_)))
       (case aB => exact (by repeat (first | (with_reducible first | exact HB.out | apply below_alloc | apply pw_below_drewN | apply below_drew1 | refine below_set ?_ GE187.out | refine below_set ?_ GE193.out) | exact HB.out)))
       (case aF => exact (fun k_ hk => Kd.fresh' (Kd.R_lt (by (with_reducible repeat (first | apply Kd.R_alloc | apply Kd.R_drewN | apply Kd.R_drew)); exact HO210.out)) k_ hk))
       (case aO => exact (by (with_reducible repeat (first | apply Kd.R_alloc | apply Kd.R_drewN | apply Kd.R_drew)); exact Kd.R_mono HO_5.out (fun _ hk => hk.2)))
       (case aS => exact (below_size (by repeat (first | (with_reducible first | exact HB.out | apply below_alloc | apply pw_below_drewN | apply below_drew1 | refine below_set ?_ GE187.out | refine below_set ?_ GE193.out) | exact HB.out))))
       (case aL => have := LMc25.out; omega)
       intro v212 w36 ho hb hg hat
       rw [← Ny211.out] at ho
       have n0_ := Aside0.mk (Kd.R_over' (by (with_reducible repeat (first | apply Kd.R_alloc | apply Kd.R_drewN | apply Kd.R_drew)); exact HO_6.out) (Kd.R_typed (by (with_reducible repeat (first | apply Kd.R_alloc | apply Kd.R_drewN | apply Kd.R_drew)); exact HO_5.out)) (by decide) hg)
       have n1_ := Aside0.mk (blk_grown (g := gb187) (o := .cells #[.int .i64 a0_0, .string a0_1, .string a0_2, .string a0_3, .int .i64 a0_4, .int .i64 a0_5, .int .i64 a0_6, .int .i64 a0_7, .int .i64 a0_8, .bool a0_9, .int .i64 a0_10, .string a0_11, .string a0_12] 24 (0, 0)) (by (with_reducible repeat (first | refine blk_drewN ?_ _ | refine blk_drew ?_ | refine blk_alloc ?_ _)); exact BK187.out) hg (Kd.R_ne HO_5.out BK187.out (by decide)))
       have n2_ := Aside0.mk (blk_grown (g := gb193) (o := .cells #[.string ((rd_T49 t188 x7_1).f0), .int .i64 0, .string ((rd_T49 t188 x7_1).f2)] 75 (0, 0)) (by (with_reducible repeat (first | refine blk_drewN ?_ _ | refine blk_drew ?_ | refine blk_alloc ?_ _)); exact BK193.out) hg (Kd.R_ne HO_5.out BK193.out (by decide)))
       have n3_ := Aside0.mk (Kd.R_after (ok := (fun _ => True)) (by (with_reducible repeat (first | apply Kd.R_alloc | apply Kd.R_drewN | apply Kd.R_drew)); exact HO210.out) hg hat)
       have n4_ := Aside0.mk (hb)
       have n5_ := Aside0.mk (ho)
       clear HO_6
       clear BK187
       clear BK193
       clear HO210
       clear HB
       clear HO_5
       have HO_6 := n0_
       have BK187 := n1_
       have BK193 := n2_
       have HO210 := n3_
       have HB := n4_
       have HO213 := n5_
       clear n0_ n1_ n2_ n3_ n4_ n5_
       clear ho hb hg hat
       refine hK.out _ _ ?_
       clear hK K
       refine norm_ (a' := ?_) ?_ ?_
       rotate_left
       ·show Act.put _ (some 59) _ = _
        simp only [Act.put, List.setIfInBounds_toArray, List.set_cons_zero, List.set_cons_succ, i64_w, i32_w]
        rfl
       refine pure_ (i := 28) (N := some 5) (v := ?_) (a' := ?_) #[true, true, true, true, true, true, true, true, true, true, true, true, true, true, true, true, true, true, true, true, true, true, true, true, true, true, true, true, true] rfl rfl (any_of HT_.out (by kernel_rfl)) (fun _ _ _ h => h) (Or.inl ⟨by rfl, ?_⟩) ?_ ?_
       rotate_left
       ·intro w'
        go_simp
        with_reducible rfl
       rotate_left
       ·simp only [Act.put, List.setIfInBounds_toArray, List.set_cons_zero, List.set_cons_succ, i64_w, i32_w]
        rfl
       refine done_ (done_of HT_.out (by kernel_rfl)) ?_
       try go_wp2
       go_roundg k1
       case measure => have := HK1.out; omega
       case rel => exact ⟨(y211), (wrap64 (x7_1 + 1)), (by first | rfl | (simp; done) | (simp [*]; done)), H', ⟨by have := HK1.out; omega⟩, ⟨by (with_reducible repeat (first | apply Kd.R_alloc | apply Kd.R_drewN | apply Kd.R_drew)); exact Kd.R_mono HO213.out (fun _ hk => trivial)⟩, ⟨by (with_reducible repeat (first | apply Kd.R_alloc | apply Kd.R_drewN | apply Kd.R_drew)); exact HO_6.out⟩, ⟨by (with_reducible repeat (first | refine blk_drewN ?_ _ | refine blk_drew ?_ | refine blk_alloc ?_ _)); exact BK187.out⟩, ⟨by repeat (first | (with_reducible first | exact HB.out | apply below_alloc | apply pw_below_drewN | apply below_drew1 | refine below_set ?_ GE187.out | refine below_set ?_ GE193.out) | exact HB.out)⟩⟩
      ·rw [if_neg c25] at H
       exact absurd H (by simp)
    ·rw [if_neg c8] at H
     exact absurd H (by simp)
   ·rw [if_neg c7] at H
    have c7b0 : decide (x7_1 < (t188.length : Int)) = false := decide_eq_false c7
    clear c7
    obtain rfl := Option.some.inj H
    obtain ⟨Ao38, co38, eo38⟩ := Kd.R_slice HO_6.out
    subst eo38
    go_wp2
    go_ret
    exact ⟨_, by first | rfl | (simp [errW_none, errW_some] <;> rfl) | (simp [*, errW_none, errW_some] <;> rfl), by (with_reducible repeat (first | apply Kd.R_alloc | apply Kd.R_drewN | apply Kd.R_drew)); exact HO_5.out, by repeat (first | (with_reducible first | exact HB.out | apply below_alloc | apply pw_below_drewN | apply below_drew1 | refine below_set ?_ GE187.out) | exact HB.out)⟩
end Go.Proofs.YtpclapnmiacfpaaDoor.Q
end
section
namespace Go.Proofs.YtpclapnmiacfpaaDoor.Q
open Go.RowKit Go.Proofs.YtpclapnmiacfpaaDoorW.PrintWords Go.Proofs.YtpclapnmiacfpaaDoorW.PrintLast Go.Proofs.YtpclapnmiacfpaaDoorW.PrintMore
attribute [local go_sem] max2_int min2_int max_two min_two max_three min_three max_four min_four
set_option linter.unusedVariables false
set_option linter.unusedSimpArgs false
mutual
def girolaw39_DeliveryPostings.j0 : Nat → Int → Int → Bool → Int → ByteArray → ByteArray → ByteArray → Int → Int → Int → Int → Int → Bool → Int → ByteArray → ByteArray → Option (Bool)
 | 0, _, _, _, _, _, _, _, _, _, _, _, _, _, _, _, _ => none
 | k + 1, x1, x5, x21, x215000, x215001, x215002, x215003, x215004, x215005, x215006, x215007, x215008, x215009, x215010, x215011, x215012 => if x21 = true then (girolaw39_DeliveryPostings.j1 k x1 11 x215000 x215001 x215002 x215003 x215004 x215005 x215006 x215007 x215008 x215009 x215010 x215011 x215012) else (girolaw39_DeliveryPostings.j1 k x1 x5 x215000 x215001 x215002 x215003 x215004 x215005 x215006 x215007 x215008 x215009 x215010 x215011 x215012)
def girolaw39_DeliveryPostings.j1 : Nat → Int → Int → Int → ByteArray → ByteArray → ByteArray → Int → Int → Int → Int → Int → Bool → Int → ByteArray → ByteArray → Option (Bool)
 | 0, _, _, _, _, _, _, _, _, _, _, _, _, _, _, _ => none
 | k + 1, x1, x5, x215000, x215001, x215002, x215003, x215004, x215005, x215006, x215007, x215008, x215009, x215010, x215011, x215012 => (girolaw23_Of.f x215000 x215001 x215002 x215003 x215004 x215005 x215006 x215007 x215008 x215009 x215010 x215011 x215012).bind fun bt217 => ((delivery_Postings.f bt217.1 bt217.2.1 bt217.2.2.1 bt217.2.2.2.1 bt217.2.2.2.2.1 bt217.2.2.2.2.2.1 bt217.2.2.2.2.2.2.1 bt217.2.2.2.2.2.2.2.1 bt217.2.2.2.2.2.2.2.2.1 bt217.2.2.2.2.2.2.2.2.2.1 bt217.2.2.2.2.2.2.2.2.2.2.1 bt217.2.2.2.2.2.2.2.2.2.2.2.1 bt217.2.2.2.2.2.2.2.2.2.2.2.2 x1).bind fun bt230 => (if x5 = 0 then (if bt230.2 = 0 then ((girolaw15_Postings.f k bt230.1).bind fun t234 => ((giroref39_Postings.f k x215000 x215001 x215002 x215003 x215004 x215005 x215006 x215007 x215008 x215009 x215010 x215011 x215012 x1).bind fun t237 => ((girolaw39_same.f k t234 t237).bind fun t240 => (some t240)))) else (some false)) else (if bt230.2 = x5 then (some ((bt230.1.length : Int) == 0)) else (some false))))
end
def girolaw39_DeliveryPostings.f (k : Nat) (a0_0 : Int) (a0_1 : ByteArray) (a0_2 : ByteArray) (a0_3 : ByteArray) (a0_4 : Int) (a0_5 : Int) (a0_6 : Int) (a0_7 : Int) (a0_8 : Int) (a0_9 : Bool) (a0_10 : Int) (a0_11 : ByteArray) (a0_12 : ByteArray) (a1 : Int) : Option (Bool) := (girolaw39_known.f k).bind fun t215 => (if t215 = true then ((giroref23_Check.f k a0_0 a0_1 a0_2 a0_3 a0_4 a0_5 a0_6 a0_7 a0_8 a0_9 a0_10 a0_11 a0_12).bind fun t216 => (if t216 = 0 then (if a1 = 0 then (girolaw39_DeliveryPostings.j0 k a1 t216 false a0_0 a0_1 a0_2 a0_3 a0_4 a0_5 a0_6 a0_7 a0_8 a0_9 a0_10 a0_11 a0_12) else (girolaw39_DeliveryPostings.j0 k a1 t216 (a1 != 2) a0_0 a0_1 a0_2 a0_3 a0_4 a0_5 a0_6 a0_7 a0_8 a0_9 a0_10 a0_11 a0_12)) else (girolaw39_DeliveryPostings.j0 k a1 t216 false a0_0 a0_1 a0_2 a0_3 a0_4 a0_5 a0_6 a0_7 a0_8 a0_9 a0_10 a0_11 a0_12))) else (some false))
theorem girolaw39_DeliveryPostings.mono_l : ∀ k, (∀ y0 y1 y2 y3 y4 y5 y6 y7 y8 y9 y10 y11 y12 y13 y14 y15, LeO (girolaw39_DeliveryPostings.j0 k y0 y1 y2 y3 y4 y5 y6 y7 y8 y9 y10 y11 y12 y13 y14 y15) (girolaw39_DeliveryPostings.j0 (k + 1) y0 y1 y2 y3 y4 y5 y6 y7 y8 y9 y10 y11 y12 y13 y14 y15)) ∧ (∀ y0 y1 y2 y3 y4 y5 y6 y7 y8 y9 y10 y11 y12 y13 y14, LeO (girolaw39_DeliveryPostings.j1 k y0 y1 y2 y3 y4 y5 y6 y7 y8 y9 y10 y11 y12 y13 y14) (girolaw39_DeliveryPostings.j1 (k + 1) y0 y1 y2 y3 y4 y5 y6 y7 y8 y9 y10 y11 y12 y13 y14))
 | 0 => ⟨fun _ _ _ _ _ _ _ _ _ _ _ _ _ _ _ _ r h => by simp [girolaw39_DeliveryPostings.j0] at h, fun _ _ _ _ _ _ _ _ _ _ _ _ _ _ _ r h => by simp [girolaw39_DeliveryPostings.j1] at h⟩
 | k + 1 => by
  obtain ⟨ih0, ih1⟩ := girolaw39_DeliveryPostings.mono_l k
  refine ⟨?_, ?_⟩
  ·intro y0 y1 y2 y3 y4 y5 y6 y7 y8 y9 y10 y11 y12 y13 y14 y15
   unfold girolaw39_DeliveryPostings.j0
   repeat' first
   | (with_reducible exact ih0 _ _ _ _ _ _ _ _ _ _ _ _ _ _ _ _)
   | (with_reducible exact ih1 _ _ _ _ _ _ _ _ _ _ _ _ _ _ _)
   | (with_reducible exact girolaw15_Postings.mono _ _)
   | (with_reducible exact girolaw39_known.mono _)
   | (with_reducible exact girolaw39_same.mono _ _ _)
   | (with_reducible exact giroref23_Check.mono _ _ _ _ _ _ _ _ _ _ _ _ _ _)
   | (with_reducible exact giroref39_Postings.mono _ _ _ _ _ _ _ _ _ _ _ _ _ _ _)
   | (with_reducible exact LeO.refl _)
   | (with_reducible exact LeO.none _)
   | (with_reducible refine LeO.ite ?_ ?_)
   | (with_reducible refine LeO.bind ?_ (fun _ => ?_))
   | exact ih0 _ _ _ _ _ _ _ _ _ _ _ _ _ _ _ _
   | exact ih1 _ _ _ _ _ _ _ _ _ _ _ _ _ _ _
   | exact girolaw15_Postings.mono _ _
   | exact girolaw39_known.mono _
   | exact girolaw39_same.mono _ _ _
   | exact giroref23_Check.mono _ _ _ _ _ _ _ _ _ _ _ _ _ _
   | exact giroref39_Postings.mono _ _ _ _ _ _ _ _ _ _ _ _ _ _ _
   | exact LeO.none _
   | refine LeO.ite ?_ ?_
   | refine LeO.bind ?_ (fun _ => ?_)
  ·intro y0 y1 y2 y3 y4 y5 y6 y7 y8 y9 y10 y11 y12 y13 y14
   unfold girolaw39_DeliveryPostings.j1
   repeat' first
   | (with_reducible exact ih0 _ _ _ _ _ _ _ _ _ _ _ _ _ _ _ _)
   | (with_reducible exact ih1 _ _ _ _ _ _ _ _ _ _ _ _ _ _ _)
   | (with_reducible exact girolaw15_Postings.mono _ _)
   | (with_reducible exact girolaw39_known.mono _)
   | (with_reducible exact girolaw39_same.mono _ _ _)
   | (with_reducible exact giroref23_Check.mono _ _ _ _ _ _ _ _ _ _ _ _ _ _)
   | (with_reducible exact giroref39_Postings.mono _ _ _ _ _ _ _ _ _ _ _ _ _ _ _)
   | (with_reducible exact LeO.refl _)
   | (with_reducible exact LeO.none _)
   | (with_reducible refine LeO.ite ?_ ?_)
   | (with_reducible refine LeO.bind ?_ (fun _ => ?_))
   | exact ih0 _ _ _ _ _ _ _ _ _ _ _ _ _ _ _ _
   | exact ih1 _ _ _ _ _ _ _ _ _ _ _ _ _ _ _
   | exact girolaw15_Postings.mono _ _
   | exact girolaw39_known.mono _
   | exact girolaw39_same.mono _ _ _
   | exact giroref23_Check.mono _ _ _ _ _ _ _ _ _ _ _ _ _ _
   | exact giroref39_Postings.mono _ _ _ _ _ _ _ _ _ _ _ _ _ _ _
   | exact LeO.none _
   | refine LeO.ite ?_ ?_
   | refine LeO.bind ?_ (fun _ => ?_)
theorem girolaw39_DeliveryPostings.mono : ∀ a0 a1 a2 a3 a4 a5 a6 a7 a8 a9 a10 a11 a12 a13 k, LeO (girolaw39_DeliveryPostings.f k a0 a1 a2 a3 a4 a5 a6 a7 a8 a9 a10 a11 a12 a13) (girolaw39_DeliveryPostings.f (k + 1) a0 a1 a2 a3 a4 a5 a6 a7 a8 a9 a10 a11 a12 a13) := by
 intro a0 a1 a2 a3 a4 a5 a6 a7 a8 a9 a10 a11 a12 a13 k
 obtain ⟨ih0, ih1⟩ := girolaw39_DeliveryPostings.mono_l k
 unfold girolaw39_DeliveryPostings.f
 repeat' first
   | (with_reducible exact ih0 _ _ _ _ _ _ _ _ _ _ _ _ _ _ _ _)
   | (with_reducible exact ih1 _ _ _ _ _ _ _ _ _ _ _ _ _ _ _)
   | (with_reducible exact girolaw15_Postings.mono _ _)
   | (with_reducible exact girolaw39_known.mono _)
   | (with_reducible exact girolaw39_same.mono _ _ _)
   | (with_reducible exact giroref23_Check.mono _ _ _ _ _ _ _ _ _ _ _ _ _ _)
   | (with_reducible exact giroref39_Postings.mono _ _ _ _ _ _ _ _ _ _ _ _ _ _ _)
   | (with_reducible exact LeO.refl _)
   | (with_reducible exact LeO.none _)
   | (with_reducible refine LeO.ite ?_ ?_)
   | (with_reducible refine LeO.bind ?_ (fun _ => ?_))
   | exact ih0 _ _ _ _ _ _ _ _ _ _ _ _ _ _ _ _
   | exact ih1 _ _ _ _ _ _ _ _ _ _ _ _ _ _ _
   | exact girolaw15_Postings.mono _ _
   | exact girolaw39_known.mono _
   | exact girolaw39_same.mono _ _ _
   | exact giroref23_Check.mono _ _ _ _ _ _ _ _ _ _ _ _ _ _
   | exact giroref39_Postings.mono _ _ _ _ _ _ _ _ _ _ _ _ _ _ _
   | exact LeO.none _
   | refine LeO.ite ?_ ?_
   | refine LeO.bind ?_ (fun _ => ?_)
def girolaw39_DeliveryPostings.T9 : Bool × List (List Nat × List Nat) := (true, [([], []), ([0], [0]), ([1], [1]), ([2], [2]), ([3, 2, 2], [2, 3]), ([2], [2]), ([2], [2]), ([5, 6, 4, 2], [2, 5, 6]), ([4, 7, 7, 2], [2, 4, 7]), ([2, 8], [2, 8]), ([9, 8, 0, 1, 2, 3, 4, 5, 6, 7, 8, 9], [9])])
def girolaw39_DeliveryPostings.B9 : List Nat := [0, 1, 3, 7, 15, 7, 7, 127, 255, 511, 1023]
theorem girolaw39_DeliveryPostings.tab9 : rtab .any (opsOf Tryd.f3 9) = girolaw39_DeliveryPostings.T9 := by kernel_rfl
theorem girolaw39_DeliveryPostings.bits9 : waitsOk girolaw39_DeliveryPostings.T9.2 girolaw39_DeliveryPostings.B9 = true := by kernel_rfl
set_option maxHeartbeats 8000000 in
set_option maxRecDepth 100000 in
theorem girolaw39_DeliveryPostings.calls (k : Nat) (a0_0 : Int) (a0_1 : ByteArray) (a0_2 : ByteArray) (a0_3 : ByteArray) (a0_4 : Int) (a0_5 : Int) (a0_6 : Int) (a0_7 : Int) (a0_8 : Int) (a0_9 : Bool) (a0_10 : Int) (a0_11 : ByteArray) (a0_12 : ByteArray) (a1 : Int) (r : Bool) (w : World) (h : girolaw39_DeliveryPostings.f k a0_0 a0_1 a0_2 a0_3 a0_4 a0_5 a0_6 a0_7 a0_8 a0_9 a0_10 a0_11 a0_12 a1 = some r) :
  Calls Tryd.prog 3 #[.agg #[.int .i64 a0_0, .string a0_1, .string a0_2, .string a0_3, .int .i64 a0_4, .int .i64 a0_5, .int .i64 a0_6, .int .i64 a0_7, .int .i64 a0_8, .bool a0_9, .int .i64 a0_10, .string a0_11, .string a0_12], .int .i64 a1] w fun e w' => e = .returned (.bool r) ∧ Below w.heap.size w w' := by
 have hu24 := Tryd.underlying24
 have HB := Aside0.mk (Below.refl w.heap.size w)
 have H : ((girolaw39_known.f k).bind fun t215 => (if t215 = true then ((giroref23_Check.f k a0_0 a0_1 a0_2 a0_3 a0_4 a0_5 a0_6 a0_7 a0_8 a0_9 a0_10 a0_11 a0_12).bind fun t216 => (if t216 = 0 then (if a1 = 0 then (girolaw39_DeliveryPostings.j0 k a1 t216 false a0_0 a0_1 a0_2 a0_3 a0_4 a0_5 a0_6 a0_7 a0_8 a0_9 a0_10 a0_11 a0_12) else (girolaw39_DeliveryPostings.j0 k a1 t216 (a1 != 2) a0_0 a0_1 a0_2 a0_3 a0_4 a0_5 a0_6 a0_7 a0_8 a0_9 a0_10 a0_11 a0_12)) else (girolaw39_DeliveryPostings.j0 k a1 t216 false a0_0 a0_1 a0_2 a0_3 a0_4 a0_5 a0_6 a0_7 a0_8 a0_9 a0_10 a0_11 a0_12))) else (some false))) = some r := h
 clear h
 replace H := Option.bind_eq_some_iff.mp H
 obtain ⟨t215, A30, H⟩ := H
 replace H : (if t215 = true then ((giroref23_Check.f k a0_0 a0_1 a0_2 a0_3 a0_4 a0_5 a0_6 a0_7 a0_8 a0_9 a0_10 a0_11 a0_12).bind fun t216 => (if t216 = 0 then (if a1 = 0 then (girolaw39_DeliveryPostings.j0 k a1 t216 false a0_0 a0_1 a0_2 a0_3 a0_4 a0_5 a0_6 a0_7 a0_8 a0_9 a0_10 a0_11 a0_12) else (girolaw39_DeliveryPostings.j0 k a1 t216 (a1 != 2) a0_0 a0_1 a0_2 a0_3 a0_4 a0_5 a0_6 a0_7 a0_8 a0_9 a0_10 a0_11 a0_12)) else (girolaw39_DeliveryPostings.j0 k a1 t216 false a0_0 a0_1 a0_2 a0_3 a0_4 a0_5 a0_6 a0_7 a0_8 a0_9 a0_10 a0_11 a0_12))) else (some false)) = some r := H
 have A3 := Aside0.mk A30
 clear A30
 by_cases c4 : t215 = true
 ·subst c4
  have H1 : ((giroref23_Check.f k a0_0 a0_1 a0_2 a0_3 a0_4 a0_5 a0_6 a0_7 a0_8 a0_9 a0_10 a0_11 a0_12).bind fun t216 => (if t216 = 0 then (if a1 = 0 then (girolaw39_DeliveryPostings.j0 k a1 t216 false a0_0 a0_1 a0_2 a0_3 a0_4 a0_5 a0_6 a0_7 a0_8 a0_9 a0_10 a0_11 a0_12) else (girolaw39_DeliveryPostings.j0 k a1 t216 (a1 != 2) a0_0 a0_1 a0_2 a0_3 a0_4 a0_5 a0_6 a0_7 a0_8 a0_9 a0_10 a0_11 a0_12)) else (girolaw39_DeliveryPostings.j0 k a1 t216 false a0_0 a0_1 a0_2 a0_3 a0_4 a0_5 a0_6 a0_7 a0_8 a0_9 a0_10 a0_11 a0_12))) = some r := by rw [if_pos rfl] at H; exact H
  clear H
  have H := H1
  clear H1
  replace H := Option.bind_eq_some_iff.mp H
  obtain ⟨t216, A50, H⟩ := H
  replace H : (if t216 = 0 then (if a1 = 0 then (girolaw39_DeliveryPostings.j0 k a1 t216 false a0_0 a0_1 a0_2 a0_3 a0_4 a0_5 a0_6 a0_7 a0_8 a0_9 a0_10 a0_11 a0_12) else (girolaw39_DeliveryPostings.j0 k a1 t216 (a1 != 2) a0_0 a0_1 a0_2 a0_3 a0_4 a0_5 a0_6 a0_7 a0_8 a0_9 a0_10 a0_11 a0_12)) else (girolaw39_DeliveryPostings.j0 k a1 t216 false a0_0 a0_1 a0_2 a0_3 a0_4 a0_5 a0_6 a0_7 a0_8 a0_9 a0_10 a0_11 a0_12)) = some r := H
  have A5 := Aside0.mk A50
  clear A50
  have HC6 := Aside0.mk H
  clear H
  go_enter Tryd.func3, Tryd.ntmps3
  go_upto_region 4 with (first | ((with_reducible refine gate_dst (N := 2) rfl ?_); (try (refine gate_guard (by rfl) ?_; dsimp only)); refine box_event ?hg (N := 2) ?hd (cs := #[.int .i64 a0_0, .string a0_1, .string a0_2, .string a0_3, .int .i64 a0_4, .int .i64 a0_5, .int .i64 a0_6, .int .i64 a0_7, .int .i64 a0_8, .bool a0_9, .int .i64 a0_10, .string a0_11, .string a0_12]) (t := 24) ?hr ?_; (case hd => rfl); (case hg => rfl); (case hr => first | (go_simp; done) | (go_simp; rfl)); intro gb214 hg w7 hbox hb; have n0_ := Aside0.mk (below_step (by repeat (first | (with_reducible first | exact HB.out | apply below_alloc | apply pw_below_drewN | apply below_drew1) | exact HB.out)) hb); have n1_ := Aside0.mk (hbox); have n2_ := Aside0.mk ((by rw [hg]; exact (below_size (by repeat (first | (with_reducible first | exact HB.out | apply below_alloc | apply pw_below_drewN | apply below_drew1) | exact HB.out))) : w.heap.size ≤ gb214)); have n3_ := Aside0.mk ((by rw [hg]; exact (below_size (by repeat (first | (with_reducible first | exact HB.out | apply below_alloc | apply pw_below_drewN | apply below_drew1) | exact HB.out))) : w.heap.size ≤ gb214)); clear HB; have HB := n0_; have BK214 := n1_; have GW214 := n2_; have GE214 := n3_; clear n0_ n1_ n2_ n3_; clear hb hbox hg) | ((with_reducible refine gate_callee (f := 8) rfl ?_); refine goesL_ (some 8) rfl rfl Tryd.func8 (by kernel_rfl) rfl #[] rfl (by (try simp only [List.map_toArray, List.map_cons, List.map_nil]); first | done | rfl | (simp only [List.length_drop, List.length_take]; rfl)) ?_; (with_reducible refine (girolaw39_known.calls k  true _ A3.out).mono ?_); rintro e w8 ⟨rfl, hb⟩; refine ⟨_, rfl, ?_⟩; have n0_ := Aside0.mk (blk_below (g := gb214) (o := .cells #[.int .i64 a0_0, .string a0_1, .string a0_2, .string a0_3, .int .i64 a0_4, .int .i64 a0_5, .int .i64 a0_6, .int .i64 a0_7, .int .i64 a0_8, .bool a0_9, .int .i64 a0_10, .string a0_11, .string a0_12] 24 (0, 0)) (by (with_reducible repeat (first | refine blk_drewN ?_ _ | refine blk_drew ?_ | refine blk_alloc ?_ _)); exact BK214.out) hb); have n1_ := Aside0.mk (below_step (by repeat (first | (with_reducible first | exact HB.out | apply below_alloc | apply pw_below_drewN | apply below_drew1 | refine below_set ?_ GE214.out) | exact HB.out)) hb); clear BK214; clear HB; have BK214 := n0_; have HB := n1_; clear n0_ n1_; (try clear hb); (try clear hb2); (try clear hk); (try clear hi); have hcz9_0 : w8.cell? ⟨gb214, 0, none⟩ = some (.int .i64 a0_0) := (blk_cell BK214.out 0).trans rfl; have hcz9_1 : w8.cell? ⟨gb214, 1, none⟩ = some (.string a0_1) := (blk_cell BK214.out 1).trans rfl; have hcz9_2 : w8.cell? ⟨gb214, 2, none⟩ = some (.string a0_2) := (blk_cell BK214.out 2).trans rfl; have hcz9_3 : w8.cell? ⟨gb214, 3, none⟩ = some (.string a0_3) := (blk_cell BK214.out 3).trans rfl; have hcz9_4 : w8.cell? ⟨gb214, 4, none⟩ = some (.int .i64 a0_4) := (blk_cell BK214.out 4).trans rfl; have hcz9_5 : w8.cell? ⟨gb214, 5, none⟩ = some (.int .i64 a0_5) := (blk_cell BK214.out 5).trans rfl; have hcz9_6 : w8.cell? ⟨gb214, 6, none⟩ = some (.int .i64 a0_6) := (blk_cell BK214.out 6).trans rfl; have hcz9_7 : w8.cell? ⟨gb214, 7, none⟩ = some (.int .i64 a0_7) := (blk_cell BK214.out 7).trans rfl; have hcz9_8 : w8.cell? ⟨gb214, 8, none⟩ = some (.int .i64 a0_8) := (blk_cell BK214.out 8).trans rfl; have hcz9_9 : w8.cell? ⟨gb214, 9, none⟩ = some (.bool a0_9) := (blk_cell BK214.out 9).trans rfl; have hcz9_10 : w8.cell? ⟨gb214, 10, none⟩ = some (.int .i64 a0_10) := (blk_cell BK214.out 10).trans rfl; have hcz9_11 : w8.cell? ⟨gb214, 11, none⟩ = some (.string a0_11) := (blk_cell BK214.out 11).trans rfl; have hcz9_12 : w8.cell? ⟨gb214, 12, none⟩ = some (.string a0_12) := (blk_cell BK214.out 12).trans rfl; have hfz9_0 := blk_frozen BK214.out 0; have hfz9_1 := blk_frozen BK214.out 1; have hfz9_2 := blk_frozen BK214.out 2; have hfz9_3 := blk_frozen BK214.out 3; have hfz9_4 := blk_frozen BK214.out 4; have hfz9_5 := blk_frozen BK214.out 5; have hfz9_6 := blk_frozen BK214.out 6; have hfz9_7 := blk_frozen BK214.out 7; have hfz9_8 := blk_frozen BK214.out 8; have hfz9_9 := blk_frozen BK214.out 9; have hfz9_10 := blk_frozen BK214.out 10; have hfz9_11 := blk_frozen BK214.out 11; have hfz9_12 := blk_frozen BK214.out 12) | ((with_reducible refine gate_callee (f := 9) rfl ?_); refine goesL_ (some 11) rfl rfl Tryd.func9 (by kernel_rfl) rfl #[.agg #[.int .i64 a0_0, .string a0_1, .string a0_2, .string a0_3, .int .i64 a0_4, .int .i64 a0_5, .int .i64 a0_6, .int .i64 a0_7, .int .i64 a0_8, .bool a0_9, .int .i64 a0_10, .string a0_11, .string a0_12]] rfl (by (try simp only [List.map_toArray, List.map_cons, List.map_nil]); first | done | rfl | (simp only [List.length_drop, List.length_take]; rfl)) ?_; (with_reducible refine (giroref23_Check.calls k a0_0 a0_1 a0_2 a0_3 a0_4 a0_5 a0_6 a0_7 a0_8 a0_9 a0_10 a0_11 a0_12 t216 _ A5.out).mono ?_); rintro e w10 ⟨rfl, hb⟩; refine ⟨_, rfl, ?_⟩; have n0_ := Aside0.mk (blk_below (g := gb214) (o := .cells #[.int .i64 a0_0, .string a0_1, .string a0_2, .string a0_3, .int .i64 a0_4, .int .i64 a0_5, .int .i64 a0_6, .int .i64 a0_7, .int .i64 a0_8, .bool a0_9, .int .i64 a0_10, .string a0_11, .string a0_12] 24 (0, 0)) (by (with_reducible repeat (first | refine blk_drewN ?_ _ | refine blk_drew ?_ | refine blk_alloc ?_ _)); exact BK214.out) hb); have n1_ := Aside0.mk (below_step (by repeat (first | (with_reducible first | exact HB.out | apply below_alloc | apply pw_below_drewN | apply below_drew1 | refine below_set ?_ GE214.out) | exact HB.out)) hb); clear BK214; clear HB; have BK214 := n0_; have HB := n1_; clear n0_ n1_; (try clear hb); (try clear hb2); (try clear hk); (try clear hi)))
  (try simp only [Act.put, List.setIfInBounds_toArray, List.set_cons_zero, List.set_cons_succ])
  go_cut [21] (fun v21 wc => ∃ (kq : Nat) (x21_5 : Bool), v21 = .bool x21_5 ∧ Aside0 (girolaw39_DeliveryPostings.j0 kq a1 t216 x21_5 a0_0 a0_1 a0_2 a0_3 a0_4 a0_5 a0_6 a0_7 a0_8 a0_9 a0_10 a0_11 a0_12 = some r) ∧ Aside0 (kq ≤ k) ∧ Aside0 (wc.heap[gb214]? = some (.cells #[.int .i64 a0_0, .string a0_1, .string a0_2, .string a0_3, .int .i64 a0_4, .int .i64 a0_5, .int .i64 a0_6, .int .i64 a0_7, .int .i64 a0_8, .bool a0_9, .int .i64 a0_10, .string a0_11, .string a0_12] 24 (0, 0))) ∧ Aside0 (Below w.heap.size w wc))
  case first =>
   have H := HC6.out
   clear HC6
   by_cases c11 : t216 = 0
   ·rw [if_pos c11] at H
    have c11b0 : (t216 == 0) = true := beq_iff_eq.mpr c11
    have c11b1 : (t216 != 0) = false := bne_eq_false_iff_eq.mpr c11
    clear c11
    (first | rw [c11b0] | (simp only [i64_w, i32_w]; rw [c11b0]) | skip)
    by_cases c12 : a1 = 0
    ·rw [if_pos c12] at H
     have c12b0 : (a1 == 0) = true := beq_iff_eq.mpr c12
     have c12b1 : (a1 != 0) = false := bne_eq_false_iff_eq.mpr c12
     clear c12
     have H' := Aside0.mk H
     clear H
     go_wp2
     go_meet
     case rel => exact ⟨_, (false), (by first | rfl | (simp; done) | (simp [*]; done)), H', ⟨by first | omega | exact Nat.le_refl _⟩, ⟨by (with_reducible repeat (first | refine blk_drewN ?_ _ | refine blk_drew ?_ | refine blk_alloc ?_ _)); exact BK214.out⟩, ⟨by repeat (first | (with_reducible first | exact HB.out | apply below_alloc | apply pw_below_drewN | apply below_drew1 | refine below_set ?_ GE214.out) | exact HB.out)⟩⟩
    ·rw [if_neg c12] at H
     have c12b0 : (a1 == 0) = false := beq_eq_false_iff_ne.mpr c12
     have c12b1 : (a1 != 0) = true := bne_iff_ne.mpr c12
     have H' := Aside0.mk H
     clear H
     go_wp2
     go_meet
     case rel => exact ⟨_, ((a1 != 2)), (by first | rfl | (simp; done) | (simp [*]; done)), H', ⟨by first | omega | exact Nat.le_refl _⟩, ⟨by (with_reducible repeat (first | refine blk_drewN ?_ _ | refine blk_drew ?_ | refine blk_alloc ?_ _)); exact BK214.out⟩, ⟨by repeat (first | (with_reducible first | exact HB.out | apply below_alloc | apply pw_below_drewN | apply below_drew1 | refine below_set ?_ GE214.out) | exact HB.out)⟩⟩
   ·rw [if_neg c11] at H
    have c11b0 : (t216 == 0) = false := beq_eq_false_iff_ne.mpr c11
    have c11b1 : (t216 != 0) = true := bne_iff_ne.mpr c11
    (first | rw [c11b0] | (simp only [i64_w, i32_w]; rw [c11b0]) | skip)
    have H' := Aside0.mk H
    clear H
    go_wp2
    go_meet
    case rel => exact ⟨_, (false), (by first | rfl | (simp; done) | (simp [*]; done)), H', ⟨by first | omega | exact Nat.le_refl _⟩, ⟨by (with_reducible repeat (first | refine blk_drewN ?_ _ | refine blk_drew ?_ | refine blk_alloc ?_ _)); exact BK214.out⟩, ⟨by repeat (first | (with_reducible first | exact HB.out | apply below_alloc | apply pw_below_drewN | apply below_drew1 | refine below_set ?_ GE214.out) | exact HB.out)⟩⟩
  case rest =>
   clear HC6
   try clear c1
   try clear p2
   try clear c3
   try clear c4
   try clear c8
   try clear c9
   try clear c11
   try clear c11b0
   try clear c11b1
   try clear c12
   try clear c12b0
   try clear c12b1
   try clear hcz9_0 hcz9_1 hcz9_10 hcz9_11 hcz9_12 hcz9_2 hcz9_3 hcz9_4 hcz9_5 hcz9_6 hcz9_7 hcz9_8 hcz9_9
   try clear hfz9_0 hfz9_1 hfz9_10 hfz9_11 hfz9_12 hfz9_2 hfz9_3 hfz9_4 hfz9_5 hfz9_6 hfz9_7 hfz9_8 hfz9_9
   obtain ⟨kq, x21_5, rfl, HA, HJ5, BK214, HB⟩ := hcut
   cases kq with
   | zero => exact absurd HA.out (by simp [girolaw39_DeliveryPostings.j0])
   | succ kj5 =>
    have H := HA.out
    clear HA
    simp only [girolaw39_DeliveryPostings.j0] at H
    have HC13 := Aside0.mk H
    clear H
    go_upto_if 21 with (fail)
    go_cut [5] (fun v5 wc => ∃ (kq : Nat) (x5_12 : Int), v5 = .int .i64 x5_12 ∧ Aside0 (girolaw39_DeliveryPostings.j1 kq a1 x5_12 a0_0 a0_1 a0_2 a0_3 a0_4 a0_5 a0_6 a0_7 a0_8 a0_9 a0_10 a0_11 a0_12 = some r) ∧ Aside0 (kq ≤ kj5) ∧ Aside0 (wc.heap[gb214]? = some (.cells #[.int .i64 a0_0, .string a0_1, .string a0_2, .string a0_3, .int .i64 a0_4, .int .i64 a0_5, .int .i64 a0_6, .int .i64 a0_7, .int .i64 a0_8, .bool a0_9, .int .i64 a0_10, .string a0_11, .string a0_12] 24 (0, 0))) ∧ Aside0 (Below w.heap.size w wc))
    case first =>
     have H := HC13.out
     clear HC13
     by_cases c14 : x21_5 = true
     ·subst c14
      have H1 : (girolaw39_DeliveryPostings.j1 kj5 a1 11 a0_0 a0_1 a0_2 a0_3 a0_4 a0_5 a0_6 a0_7 a0_8 a0_9 a0_10 a0_11 a0_12) = some r := by rw [if_pos rfl] at H; exact H
      clear H
      have H := H1
      clear H1
      have H' := Aside0.mk H
      clear H
      go_wp2
      go_meet
      case rel => exact ⟨_, (11), (by first | rfl | (simp; done) | (simp [*]; done)), H', ⟨by have := HJ5.out; first | omega | exact Nat.le_refl _⟩, ⟨by (with_reducible repeat (first | refine blk_drewN ?_ _ | refine blk_drew ?_ | refine blk_alloc ?_ _)); exact BK214.out⟩, ⟨by repeat (first | (with_reducible first | exact HB.out | apply below_alloc | apply pw_below_drewN | apply below_drew1 | refine below_set ?_ GE214.out) | exact HB.out)⟩⟩
     ·replace c14 := Bool.eq_false_iff.mpr c14
      subst c14
      have H1 : (girolaw39_DeliveryPostings.j1 kj5 a1 t216 a0_0 a0_1 a0_2 a0_3 a0_4 a0_5 a0_6 a0_7 a0_8 a0_9 a0_10 a0_11 a0_12) = some r := by rw [if_neg (show ¬ (false = true) by decide)] at H; exact H
      clear H
      have H := H1
      clear H1
      have H' := Aside0.mk H
      clear H
      go_wp2
      go_meet
      case rel => exact ⟨_, (t216), (by first | rfl | (simp; done) | (simp [*]; done)), H', ⟨by have := HJ5.out; first | omega | exact Nat.le_refl _⟩, ⟨by (with_reducible repeat (first | refine blk_drewN ?_ _ | refine blk_drew ?_ | refine blk_alloc ?_ _)); exact BK214.out⟩, ⟨by repeat (first | (with_reducible first | exact HB.out | apply below_alloc | apply pw_below_drewN | apply below_drew1 | refine below_set ?_ GE214.out) | exact HB.out)⟩⟩
    case rest =>
     clear HC13
     try clear c1
     try clear p2
     try clear c3
     try clear c4
     try clear c8
     try clear c9
     try clear c11
     try clear c11b0
     try clear c11b1
     try clear c12
     try clear c12b0
     try clear c12b1
     try clear c14
     try clear hcz9_0 hcz9_1 hcz9_10 hcz9_11 hcz9_12 hcz9_2 hcz9_3 hcz9_4 hcz9_5 hcz9_6 hcz9_7 hcz9_8 hcz9_9
     try clear hfz9_0 hfz9_1 hfz9_10 hfz9_11 hfz9_12 hfz9_2 hfz9_3 hfz9_4 hfz9_5 hfz9_6 hfz9_7 hfz9_8 hfz9_9
     try clear p2
     obtain ⟨kq, x5_12, rfl, HA, HJ12, BK214, HB⟩ := hcut
     cases kq with
     | zero => exact absurd HA.out (by simp [girolaw39_DeliveryPostings.j1])
     | succ kj12 =>
      have H := HA.out
      clear HA
      simp only [girolaw39_DeliveryPostings.j1] at H
      replace H := Option.bind_eq_some_iff.mp H
      obtain ⟨⟨t217, t218, t219, t220, t221, t222, t223, t224, t225, t226, t227, t228, t229⟩, A150, H⟩ := H
      replace H : ((delivery_Postings.f t217 t218 t219 t220 t221 t222 t223 t224 t225 t226 t227 t228 t229 a1).bind fun bt230 => (if x5_12 = 0 then (if bt230.2 = 0 then ((girolaw15_Postings.f kj12 bt230.1).bind fun t234 => ((giroref39_Postings.f kj12 a0_0 a0_1 a0_2 a0_3 a0_4 a0_5 a0_6 a0_7 a0_8 a0_9 a0_10 a0_11 a0_12 a1).bind fun t237 => ((girolaw39_same.f kj12 t234 t237).bind fun t240 => (some t240)))) else (some false)) else (if bt230.2 = x5_12 then (some ((bt230.1.length : Int) == 0)) else (some false)))) = some r := H
      have A15 := Aside0.mk A150
      clear A150
      replace H := Option.bind_eq_some_iff.mp H
      obtain ⟨⟨t230, t233⟩, A160, H⟩ := H
      replace H : (if x5_12 = 0 then (if t233 = 0 then ((girolaw15_Postings.f kj12 t230).bind fun t234 => ((giroref39_Postings.f kj12 a0_0 a0_1 a0_2 a0_3 a0_4 a0_5 a0_6 a0_7 a0_8 a0_9 a0_10 a0_11 a0_12 a1).bind fun t237 => ((girolaw39_same.f kj12 t234 t237).bind fun t240 => (some t240)))) else (some false)) else (if t233 = x5_12 then (some ((t230.length : Int) == 0)) else (some false))) = some r := H
      have A16 := Aside0.mk A160
      clear A160
      by_cases c17 : x5_12 = 0
      ·rw [if_pos c17] at H
       have c17b0 : (x5_12 == 0) = true := beq_iff_eq.mpr c17
       have c17b1 : (x5_12 != 0) = false := bne_eq_false_iff_eq.mpr c17
       clear c17
       by_cases c18 : t233 = 0
       ·rw [if_pos c18] at H
        have c18b0 : (t233 == 0) = true := beq_iff_eq.mpr c18
        have c18b1 : (t233 != 0) = false := bne_eq_false_iff_eq.mpr c18
        clear c18
        replace H := Option.bind_eq_some_iff.mp H
        obtain ⟨t234, A190, H⟩ := H
        replace H : ((giroref39_Postings.f kj12 a0_0 a0_1 a0_2 a0_3 a0_4 a0_5 a0_6 a0_7 a0_8 a0_9 a0_10 a0_11 a0_12 a1).bind fun t237 => ((girolaw39_same.f kj12 t234 t237).bind fun t240 => (some t240))) = some r := H
        have A19 := Aside0.mk A190
        clear A190
        replace H := Option.bind_eq_some_iff.mp H
        obtain ⟨t237, A200, H⟩ := H
        replace H : ((girolaw39_same.f kj12 t234 t237).bind fun t240 => (some t240)) = some r := H
        have A20 := Aside0.mk A200
        clear A200
        replace H := Option.bind_eq_some_iff.mp H
        obtain ⟨t240, A210, H⟩ := H
        replace H : (some t240) = some r := H
        have A21 := Aside0.mk A210
        clear A210
        obtain rfl := Option.some.inj H
        have hcz22_0 : wc.cell? ⟨gb214, 0, none⟩ = some (.int .i64 a0_0) := (blk_cell BK214.out 0).trans rfl
        have hcz22_1 : wc.cell? ⟨gb214, 1, none⟩ = some (.string a0_1) := (blk_cell BK214.out 1).trans rfl
        have hcz22_2 : wc.cell? ⟨gb214, 2, none⟩ = some (.string a0_2) := (blk_cell BK214.out 2).trans rfl
        have hcz22_3 : wc.cell? ⟨gb214, 3, none⟩ = some (.string a0_3) := (blk_cell BK214.out 3).trans rfl
        have hcz22_4 : wc.cell? ⟨gb214, 4, none⟩ = some (.int .i64 a0_4) := (blk_cell BK214.out 4).trans rfl
        have hcz22_5 : wc.cell? ⟨gb214, 5, none⟩ = some (.int .i64 a0_5) := (blk_cell BK214.out 5).trans rfl
        have hcz22_6 : wc.cell? ⟨gb214, 6, none⟩ = some (.int .i64 a0_6) := (blk_cell BK214.out 6).trans rfl
        have hcz22_7 : wc.cell? ⟨gb214, 7, none⟩ = some (.int .i64 a0_7) := (blk_cell BK214.out 7).trans rfl
        have hcz22_8 : wc.cell? ⟨gb214, 8, none⟩ = some (.int .i64 a0_8) := (blk_cell BK214.out 8).trans rfl
        have hcz22_9 : wc.cell? ⟨gb214, 9, none⟩ = some (.bool a0_9) := (blk_cell BK214.out 9).trans rfl
        have hcz22_10 : wc.cell? ⟨gb214, 10, none⟩ = some (.int .i64 a0_10) := (blk_cell BK214.out 10).trans rfl
        have hcz22_11 : wc.cell? ⟨gb214, 11, none⟩ = some (.string a0_11) := (blk_cell BK214.out 11).trans rfl
        have hcz22_12 : wc.cell? ⟨gb214, 12, none⟩ = some (.string a0_12) := (blk_cell BK214.out 12).trans rfl
        have hfz22_0 := blk_frozen BK214.out 0
        have hfz22_1 := blk_frozen BK214.out 1
        have hfz22_2 := blk_frozen BK214.out 2
        have hfz22_3 := blk_frozen BK214.out 3
        have hfz22_4 := blk_frozen BK214.out 4
        have hfz22_5 := blk_frozen BK214.out 5
        have hfz22_6 := blk_frozen BK214.out 6
        have hfz22_7 := blk_frozen BK214.out 7
        have hfz22_8 := blk_frozen BK214.out 8
        have hfz22_9 := blk_frozen BK214.out 9
        have hfz22_10 := blk_frozen BK214.out 10
        have hfz22_11 := blk_frozen BK214.out 11
        have hfz22_12 := blk_frozen BK214.out 12
        try go_wp2_with (first | ((with_reducible refine gate_callee (f := 11) rfl ?_); refine goesL_ (some 24) rfl rfl Tryd.func11 (by kernel_rfl) rfl #[.agg #[.int .i64 a0_0, .string a0_1, .string a0_2, .string a0_3, .int .i64 a0_4, .int .i64 a0_5, .int .i64 a0_6, .int .i64 a0_7, .int .i64 a0_8, .bool a0_9, .int .i64 a0_10, .string a0_11, .string a0_12]] rfl (by (try simp only [List.map_toArray, List.map_cons, List.map_nil]); first | done | rfl | (simp only [List.length_drop, List.length_take]; rfl)) ?_; (with_reducible refine (girolaw23_Of.calls a0_0 a0_1 a0_2 a0_3 a0_4 a0_5 a0_6 a0_7 a0_8 a0_9 a0_10 a0_11 a0_12 t217 t218 t219 t220 t221 t222 t223 t224 t225 t226 t227 t228 t229 _ A15.out).mono ?_); rintro e w23 ⟨rfl, hb⟩; refine ⟨_, rfl, ?_⟩; have n0_ := Aside0.mk (blk_below (g := gb214) (o := .cells #[.int .i64 a0_0, .string a0_1, .string a0_2, .string a0_3, .int .i64 a0_4, .int .i64 a0_5, .int .i64 a0_6, .int .i64 a0_7, .int .i64 a0_8, .bool a0_9, .int .i64 a0_10, .string a0_11, .string a0_12] 24 (0, 0)) (by (with_reducible repeat (first | refine blk_drewN ?_ _ | refine blk_drew ?_ | refine blk_alloc ?_ _)); exact BK214.out) hb); have n1_ := Aside0.mk (below_step (by repeat (first | (with_reducible first | exact HB.out | apply below_alloc | apply pw_below_drewN | apply below_drew1 | refine below_set ?_ GE214.out) | exact HB.out)) hb); clear BK214; clear HB; have BK214 := n0_; have HB := n1_; clear n0_ n1_; (try clear hb); (try clear hb2); (try clear hk); (try clear hi)) | ((with_reducible refine gate_callee (f := 10) rfl ?_); refine goesL_ (some 26) rfl rfl Tryd.func10 (by kernel_rfl) rfl #[.agg #[.int .i64 t217, .string t218, .string t219, .string t220, .int .i64 t221, .int .i64 t222, .int .i64 t223, .int .i64 t224, .int .i64 t225, .bool t226, .int .i64 t227, .string t228, .string t229], .int .i64 a1] rfl (by (try simp only [List.map_toArray, List.map_cons, List.map_nil]); first | done | rfl | (simp only [List.length_drop, List.length_take]; rfl)) ?_; (with_reducible refine (delivery_Postings.calls t217 t218 t219 t220 t221 t222 t223 t224 t225 t226 t227 t228 t229 a1 t230 t233 _ A16.out).mono ?_); rintro e w24 ⟨v231, rfl, ho0, hb⟩; refine ⟨_, rfl, ?_⟩; have n0_ := Aside0.mk (Kd.R_lower ho0 (below_size (by repeat (first | (with_reducible first | exact HB.out | apply below_alloc | apply pw_below_drewN | apply below_drew1 | refine below_set ?_ GE214.out) | exact HB.out)))); have n1_ := Aside0.mk (blk_below (g := gb214) (o := .cells #[.int .i64 a0_0, .string a0_1, .string a0_2, .string a0_3, .int .i64 a0_4, .int .i64 a0_5, .int .i64 a0_6, .int .i64 a0_7, .int .i64 a0_8, .bool a0_9, .int .i64 a0_10, .string a0_11, .string a0_12] 24 (0, 0)) (by (with_reducible repeat (first | refine blk_drewN ?_ _ | refine blk_drew ?_ | refine blk_alloc ?_ _)); exact BK214.out) hb); have n2_ := Aside0.mk (below_step (by repeat (first | (with_reducible first | exact HB.out | apply below_alloc | apply pw_below_drewN | apply below_drew1 | refine below_set ?_ GE214.out) | exact HB.out)) hb); clear BK214; clear HB; have HO232 := n0_; have BK214 := n1_; have HB := n2_; clear n0_ n1_ n2_; (try clear hb); (try clear hb2); (try clear hk); (try clear hi); (try clear ho0)))
        have n0_ := Aside0.mk (Kd.R_drew HO232.out)
        have n1_ := Aside0.mk (blk_drew BK214.out)
        have n2_ := Aside0.mk (below_drew1 HB.out)
        clear HO232
        clear BK214
        clear HB
        have HO232 := n0_
        have BK214 := n1_
        have HB := n2_
        clear n0_ n1_ n2_
        obtain ⟨Ao26, co26, eo26⟩ := Kd.R_slice HO232.out
        (first | subst eo26 | (injection eo26 with f1_ f2_ f3_; have f4_ := f1_.symm; have f5_ := f3_.symm; clear f1_ f2_ f3_; subst f4_; subst f5_))
        refine start_ (n := 11) (S := fun w' => w'.cell? ⟨gb214, 0, none⟩ = some (.int .i64 a0_0) ∧ w'.cell? ⟨gb214, 1, none⟩ = some (.string a0_1) ∧ w'.cell? ⟨gb214, 2, none⟩ = some (.string a0_2) ∧ w'.cell? ⟨gb214, 3, none⟩ = some (.string a0_3) ∧ w'.cell? ⟨gb214, 4, none⟩ = some (.int .i64 a0_4) ∧ w'.cell? ⟨gb214, 5, none⟩ = some (.int .i64 a0_5) ∧ w'.cell? ⟨gb214, 6, none⟩ = some (.int .i64 a0_6) ∧ w'.cell? ⟨gb214, 7, none⟩ = some (.int .i64 a0_7) ∧ w'.cell? ⟨gb214, 8, none⟩ = some (.int .i64 a0_8) ∧ w'.cell? ⟨gb214, 9, none⟩ = some (.bool a0_9) ∧ w'.cell? ⟨gb214, 10, none⟩ = some (.int .i64 a0_10) ∧ w'.cell? ⟨gb214, 11, none⟩ = some (.string a0_11) ∧ w'.cell? ⟨gb214, 12, none⟩ = some (.string a0_12)) (ds := []) #[false, false, false, false, false, false, false, false, false, false, false] (by kernel_rfl) rfl rfl ⟨(blk_cell BK214.out 0).trans rfl, (blk_cell BK214.out 1).trans rfl, (blk_cell BK214.out 2).trans rfl, (blk_cell BK214.out 3).trans rfl, (blk_cell BK214.out 4).trans rfl, (blk_cell BK214.out 5).trans rfl, (blk_cell BK214.out 6).trans rfl, (blk_cell BK214.out 7).trans rfl, (blk_cell BK214.out 8).trans rfl, (blk_cell BK214.out 9).trans rfl, (blk_cell BK214.out 10).trans rfl, (blk_cell BK214.out 11).trans rfl, (blk_cell BK214.out 12).trans rfl⟩ (fun hHeld => ?_); refine with_tabW girolaw39_DeliveryPostings.tab9 girolaw39_DeliveryPostings.bits9 (fun HT_ HW_ => ?_)
        generalize w24.drew = w25 at HO232 BK214 HB hHeld ⊢
        refine pure_ (i := 0) (N := some 39) (v := ?_) (a' := ?_) #[true, false, false, false, false, false, false, false, false, false, false] rfl rfl (any_of HT_.out (by kernel_rfl)) (fun _ _ _ h => h) (Or.inl ⟨by rfl, ?_⟩) ?_ ?_
        rotate_left
        ·intro w'
         go_simp
         with_reducible rfl
        rotate_left
        ·simp only [Act.put, List.setIfInBounds_toArray, List.set_cons_zero, List.set_cons_succ, i64_w, i32_w]
         rfl
        refine pure_ (i := 1) (N := some 40) (v := ?_) (a' := ?_) #[true, true, false, false, false, false, false, false, false, false, false] rfl rfl (any_of HT_.out (by kernel_rfl)) (fun _ _ _ h => h) (Or.inl ⟨by rfl, ?_⟩) ?_ ?_
        rotate_left
        ·intro w'
         go_simp
         with_reducible rfl
        rotate_left
        ·simp only [Act.put, List.setIfInBounds_toArray, List.set_cons_zero, List.set_cons_succ, i64_w, i32_w]
         rfl
        refine pure_ (i := 2) (N := some 41) (v := ?_) (a' := ?_) #[true, true, true, false, false, false, false, false, false, false, false] rfl rfl (any_of HT_.out (by kernel_rfl)) (fun _ _ _ h => h) (Or.inl ⟨by rfl, ?_⟩) ?_ ?_
        rotate_left
        ·intro w'
         go_simp
         with_reducible rfl
        rotate_left
        ·simp only [Act.put, List.setIfInBounds_toArray, List.set_cons_zero, List.set_cons_succ, i64_w, i32_w]
         rfl
        refine pure_ (i := 3) (N := some 42) (v := ?_) (a' := ?_) #[true, true, true, true, false, false, false, false, false, false, false] rfl rfl (any_of HT_.out (by kernel_rfl)) (fun _ _ _ h => h) (Or.inl ⟨by rfl, ?_⟩) ?_ ?_
        rotate_left
        ·intro w'
         go_simp
         with_reducible rfl
        rotate_left
        ·simp only [Act.put, List.setIfInBounds_toArray, List.set_cons_zero, List.set_cons_succ, i64_w, i32_w]
         rfl
        refine pure_ (i := 6) (N := some 45) (v := ?_) (a' := ?_) #[true, true, true, true, false, false, true, false, false, false, false] rfl rfl (any_of HT_.out (by kernel_rfl)) (fun _ _ _ h => h) (Or.inl ⟨by rfl, ?_⟩) ?_ ?_
        rotate_left
        ·intro w'
         go_simp
         with_reducible rfl
        rotate_left
        ·simp only [Act.put, List.setIfInBounds_toArray, List.set_cons_zero, List.set_cons_succ, i64_w, i32_w]
         rfl
        refine take_ (i := 5) (N := some 44) (v := ?_) (a' := ?_) #[true, true, true, true, false, true, true, false, false, false, false] rfl rfl (take_ofW HT_.out HW_.out (by kernel_rfl)) (fun _ _ _ h => h) (Or.inl ⟨by rfl, ?_⟩) hHeld ?_ ?_
        rotate_left
        ·rintro w' ⟨s0, s1, s2, s3, s4, s5, s6, s7, s8, s9, s10, s11, s12⟩
         go_simp
         with_reducible rfl
        rotate_left
        ·simp only [Act.put, List.setIfInBounds_toArray, List.set_cons_zero, List.set_cons_succ, i64_w, i32_w]
         rfl
        refine one_ (i := 4) (N := some 43) #[true, true, true, true, true, true, true, false, false, false, false] rfl rfl (one_of HT_.out (by kernel_rfl)) (by decide) (fun K hK => ?_)
        refine goes_ Tryd.func13 (by kernel_rfl) rfl #[.slice Ao26 t230.length co26] (by rfl) rfl rfl (by (try simp only [List.map_toArray, List.map_cons, List.map_nil]); first | done | rfl | (simp only [List.length_drop, List.length_take]; rfl)) ?_
        with_reducible refine (girolaw15_Postings.calls kj12 _ _ t230 t234 _ ?side1 ?side2 A19.out).mono ?_
        (case side1 => repeat (first | exact (Kd.R_reads' HO232.out).2.2 | (with_reducible refine Kd.C_alloc ?_ _) | (with_reducible refine Kd.C_drewN ?_ _) | (with_reducible refine Kd.C_drew ?_)))
        (case side2 => exact (Kd.R_reads' HO232.out).2.1)
        rintro e w27 ⟨v235, rfl, ho0, hb⟩
        refine ⟨_, rfl, ?_⟩
        have n0_ := Aside0.mk (Kd.R_below (by (with_reducible repeat (first | apply Kd.R_alloc | apply Kd.R_drewN | apply Kd.R_drew)); exact HO232.out) hb)
        have n1_ := Aside0.mk (Kd.R_lower ho0 (below_size (by repeat (first | (with_reducible first | exact HB.out | apply below_alloc | apply pw_below_drewN | apply below_drew1 | refine below_set ?_ GE214.out) | exact HB.out))))
        have n2_ := Aside0.mk (blk_below (g := gb214) (o := .cells #[.int .i64 a0_0, .string a0_1, .string a0_2, .string a0_3, .int .i64 a0_4, .int .i64 a0_5, .int .i64 a0_6, .int .i64 a0_7, .int .i64 a0_8, .bool a0_9, .int .i64 a0_10, .string a0_11, .string a0_12] 24 (0, 0)) (by (with_reducible repeat (first | refine blk_drewN ?_ _ | refine blk_drew ?_ | refine blk_alloc ?_ _)); exact BK214.out) hb)
        have n3_ := Aside0.mk (below_step (by repeat (first | (with_reducible first | exact HB.out | apply below_alloc | apply pw_below_drewN | apply below_drew1 | refine below_set ?_ GE214.out) | exact HB.out)) hb)
        clear HO232
        clear BK214
        clear HB
        have HO232 := n0_
        have HO236 := n1_
        have BK214 := n2_
        have HB := n3_
        clear n0_ n1_ n2_ n3_
        (try clear hb)
        (try clear hb2)
        (try clear hk)
        (try clear hi)
        (try clear ho0)
        refine hK.out _ _ ⟨(blk_cell BK214.out 0).trans rfl, (blk_cell BK214.out 1).trans rfl, (blk_cell BK214.out 2).trans rfl, (blk_cell BK214.out 3).trans rfl, (blk_cell BK214.out 4).trans rfl, (blk_cell BK214.out 5).trans rfl, (blk_cell BK214.out 6).trans rfl, (blk_cell BK214.out 7).trans rfl, (blk_cell BK214.out 8).trans rfl, (blk_cell BK214.out 9).trans rfl, (blk_cell BK214.out 10).trans rfl, (blk_cell BK214.out 11).trans rfl, (blk_cell BK214.out 12).trans rfl⟩ (fun hHeld => ?_)
        clear hK K
        refine norm_ (a' := ?_) ?_ ?_
        rotate_left
        ·show Act.put _ (some 43) _ = _
         simp only [Act.put, List.setIfInBounds_toArray, List.set_cons_zero, List.set_cons_succ, i64_w, i32_w]
         rfl
        refine one_ (i := 7) (N := some 46) #[true, true, true, true, true, true, true, true, false, false, false] rfl rfl (one_of HT_.out (by kernel_rfl)) (by decide) (fun K hK => ?_)
        refine goes_ Tryd.func14 (by kernel_rfl) rfl #[.agg #[.int .i64 a0_0, .string a0_1, .string a0_2, .string a0_3, .int .i64 a0_4, .int .i64 a0_5, .int .i64 a0_6, .int .i64 a0_7, .int .i64 a0_8, .bool a0_9, .int .i64 a0_10, .string a0_11, .string a0_12], .int .i64 a1] (by rfl) rfl rfl (by (try simp only [List.map_toArray, List.map_cons, List.map_nil]); first | done | rfl | (simp only [List.length_drop, List.length_take]; rfl)) ?_
        with_reducible refine (giroref39_Postings.calls kj12 a0_0 a0_1 a0_2 a0_3 a0_4 a0_5 a0_6 a0_7 a0_8 a0_9 a0_10 a0_11 a0_12 a1 t237 _ A20.out).mono ?_
        rintro e w28 ⟨v238, rfl, ho0, hb⟩
        refine ⟨_, rfl, ?_⟩
        have n0_ := Aside0.mk (Kd.R_below (by (with_reducible repeat (first | apply Kd.R_alloc | apply Kd.R_drewN | apply Kd.R_drew)); exact HO232.out) hb)
        have n1_ := Aside0.mk (Kd.R_elder' (by (with_reducible repeat (first | apply Kd.R_alloc | apply Kd.R_drewN | apply Kd.R_drew)); exact HO236.out) (Kd.R_base ho0) hb)
        have n2_ := Aside0.mk (Kd.R_lower (Kd.R_new' ho0 (Kd.R_lt (by (with_reducible repeat (first | apply Kd.R_alloc | apply Kd.R_drewN | apply Kd.R_drew)); exact HO236.out))) (below_size (by repeat (first | (with_reducible first | exact HB.out | apply below_alloc | apply pw_below_drewN | apply below_drew1 | refine below_set ?_ GE214.out) | exact HB.out))))
        have n3_ := Aside0.mk (blk_below (g := gb214) (o := .cells #[.int .i64 a0_0, .string a0_1, .string a0_2, .string a0_3, .int .i64 a0_4, .int .i64 a0_5, .int .i64 a0_6, .int .i64 a0_7, .int .i64 a0_8, .bool a0_9, .int .i64 a0_10, .string a0_11, .string a0_12] 24 (0, 0)) (by (with_reducible repeat (first | refine blk_drewN ?_ _ | refine blk_drew ?_ | refine blk_alloc ?_ _)); exact BK214.out) hb)
        have n4_ := Aside0.mk (below_step (by repeat (first | (with_reducible first | exact HB.out | apply below_alloc | apply pw_below_drewN | apply below_drew1 | refine below_set ?_ GE214.out) | exact HB.out)) hb)
        clear HO232
        clear HO236
        clear BK214
        clear HB
        have HO232 := n0_
        have HO236 := n1_
        have HO239 := n2_
        have BK214 := n3_
        have HB := n4_
        clear n0_ n1_ n2_ n3_ n4_
        (try clear hb)
        (try clear hb2)
        (try clear hk)
        (try clear hi)
        (try clear ho0)
        obtain ⟨Ao29, co29, eo29⟩ := Kd.R_slice HO236.out
        (first | subst eo29 | (injection eo29 with f1_ f2_ f3_; have f4_ := f1_.symm; have f5_ := f3_.symm; clear f1_ f2_ f3_; subst f4_; subst f5_))
        obtain ⟨Ao30, co30, eo30⟩ := Kd.R_slice HO239.out
        (first | subst eo30 | (injection eo30 with f1_ f2_ f3_; have f4_ := f1_.symm; have f5_ := f3_.symm; clear f1_ f2_ f3_; subst f4_; subst f5_))
        refine hK.out _ _ ⟨(blk_cell BK214.out 0).trans rfl, (blk_cell BK214.out 1).trans rfl, (blk_cell BK214.out 2).trans rfl, (blk_cell BK214.out 3).trans rfl, (blk_cell BK214.out 4).trans rfl, (blk_cell BK214.out 5).trans rfl, (blk_cell BK214.out 6).trans rfl, (blk_cell BK214.out 7).trans rfl, (blk_cell BK214.out 8).trans rfl, (blk_cell BK214.out 9).trans rfl, (blk_cell BK214.out 10).trans rfl, (blk_cell BK214.out 11).trans rfl, (blk_cell BK214.out 12).trans rfl⟩ (fun hHeld => ?_)
        clear hK K
        refine norm_ (a' := ?_) ?_ ?_
        rotate_left
        ·show Act.put _ (some 46) _ = _
         simp only [Act.put, List.setIfInBounds_toArray, List.set_cons_zero, List.set_cons_succ, i64_w, i32_w]
         rfl
        refine one_ (i := 8) (N := some 47) #[true, true, true, true, true, true, true, true, true, false, false] rfl rfl (one_of HT_.out (by kernel_rfl)) (by decide) (fun K hK => ?_)
        refine goes_ Tryd.func12 (by kernel_rfl) rfl #[.slice Ao29 t234.length co29, .slice Ao30 t237.length co30] (by rfl) rfl rfl (by (try simp only [List.map_toArray, List.map_cons, List.map_nil]); first | done | rfl | (simp only [List.length_drop, List.length_take]; rfl)) ?_
        with_reducible refine (girolaw39_same.calls kj12 _ _ t234 _ _ t237 t240 _ ?side1 ?side2 ?side3 ?side4 A21.out).mono ?_
        (case side1 => repeat (first | exact (Kd.R_reads' HO236.out).2.2 | (with_reducible refine Kd.C_alloc ?_ _) | (with_reducible refine Kd.C_drewN ?_ _) | (with_reducible refine Kd.C_drew ?_)))
        (case side2 => exact (Kd.R_reads' HO236.out).2.1)
        (case side3 => repeat (first | exact (Kd.R_reads' HO239.out).2.2 | (with_reducible refine Kd.C_alloc ?_ _) | (with_reducible refine Kd.C_drewN ?_ _) | (with_reducible refine Kd.C_drew ?_)))
        (case side4 => exact (Kd.R_reads' HO239.out).2.1)
        rintro e w' ⟨rfl, ⟨nd, rfl⟩⟩
        refine ⟨_, rfl, ?_⟩
        refine hK.out _ _ ⟨(blk_cell BK214.out 0).trans rfl, (blk_cell BK214.out 1).trans rfl, (blk_cell BK214.out 2).trans rfl, (blk_cell BK214.out 3).trans rfl, (blk_cell BK214.out 4).trans rfl, (blk_cell BK214.out 5).trans rfl, (blk_cell BK214.out 6).trans rfl, (blk_cell BK214.out 7).trans rfl, (blk_cell BK214.out 8).trans rfl, (blk_cell BK214.out 9).trans rfl, (blk_cell BK214.out 10).trans rfl, (blk_cell BK214.out 11).trans rfl, (blk_cell BK214.out 12).trans rfl⟩ (fun hHeld => ?_)
        clear hK K
        refine norm_ (a' := ?_) ?_ ?_
        rotate_left
        ·show Act.put _ (some 47) _ = _
         simp only [Act.put, List.setIfInBounds_toArray, List.set_cons_zero, List.set_cons_succ, i64_w, i32_w]
         rfl
        refine pure_ (i := 9) (N := some 48) (v := ?_) (a' := ?_) #[true, true, true, true, true, true, true, true, true, true, false] rfl rfl (any_of HT_.out (by kernel_rfl)) (fun _ _ _ h => h) (Or.inl ⟨by rfl, ?_⟩) ?_ ?_
        rotate_left
        ·intro w'
         go_simp
         with_reducible rfl
        rotate_left
        ·simp only [Act.put, List.setIfInBounds_toArray, List.set_cons_zero, List.set_cons_succ, i64_w, i32_w]
         rfl
        refine pure_ (i := 10) (N := some 4) (v := ?_) (a' := ?_) #[true, true, true, true, true, true, true, true, true, true, true] rfl rfl (any_of HT_.out (by kernel_rfl)) (fun _ _ _ h => h) (Or.inl ⟨by rfl, ?_⟩) ?_ ?_
        rotate_left
        ·intro w'
         go_simp
         with_reducible rfl
        rotate_left
        ·simp only [Act.put, List.setIfInBounds_toArray, List.set_cons_zero, List.set_cons_succ, i64_w, i32_w]
         rfl
        refine done_ (done_of HT_.out (by kernel_rfl)) ?_
        try go_wp2
        go_ret
        exact ⟨by first | rfl | (simp [errW_none, errW_some] <;> rfl) | (simp [*, errW_none, errW_some] <;> rfl), by repeat (first | (with_reducible first | exact HB.out | apply below_alloc | apply pw_below_drewN | apply below_drew1 | refine below_set ?_ GE214.out) | exact HB.out)⟩
       ·rw [if_neg c18] at H
        have c18b0 : (t233 == 0) = false := beq_eq_false_iff_ne.mpr c18
        have c18b1 : (t233 != 0) = true := bne_iff_ne.mpr c18
        obtain rfl := Option.some.inj H
        have hcz31_0 : wc.cell? ⟨gb214, 0, none⟩ = some (.int .i64 a0_0) := (blk_cell BK214.out 0).trans rfl
        have hcz31_1 : wc.cell? ⟨gb214, 1, none⟩ = some (.string a0_1) := (blk_cell BK214.out 1).trans rfl
        have hcz31_2 : wc.cell? ⟨gb214, 2, none⟩ = some (.string a0_2) := (blk_cell BK214.out 2).trans rfl
        have hcz31_3 : wc.cell? ⟨gb214, 3, none⟩ = some (.string a0_3) := (blk_cell BK214.out 3).trans rfl
        have hcz31_4 : wc.cell? ⟨gb214, 4, none⟩ = some (.int .i64 a0_4) := (blk_cell BK214.out 4).trans rfl
        have hcz31_5 : wc.cell? ⟨gb214, 5, none⟩ = some (.int .i64 a0_5) := (blk_cell BK214.out 5).trans rfl
        have hcz31_6 : wc.cell? ⟨gb214, 6, none⟩ = some (.int .i64 a0_6) := (blk_cell BK214.out 6).trans rfl
        have hcz31_7 : wc.cell? ⟨gb214, 7, none⟩ = some (.int .i64 a0_7) := (blk_cell BK214.out 7).trans rfl
        have hcz31_8 : wc.cell? ⟨gb214, 8, none⟩ = some (.int .i64 a0_8) := (blk_cell BK214.out 8).trans rfl
        have hcz31_9 : wc.cell? ⟨gb214, 9, none⟩ = some (.bool a0_9) := (blk_cell BK214.out 9).trans rfl
        have hcz31_10 : wc.cell? ⟨gb214, 10, none⟩ = some (.int .i64 a0_10) := (blk_cell BK214.out 10).trans rfl
        have hcz31_11 : wc.cell? ⟨gb214, 11, none⟩ = some (.string a0_11) := (blk_cell BK214.out 11).trans rfl
        have hcz31_12 : wc.cell? ⟨gb214, 12, none⟩ = some (.string a0_12) := (blk_cell BK214.out 12).trans rfl
        have hfz31_0 := blk_frozen BK214.out 0
        have hfz31_1 := blk_frozen BK214.out 1
        have hfz31_2 := blk_frozen BK214.out 2
        have hfz31_3 := blk_frozen BK214.out 3
        have hfz31_4 := blk_frozen BK214.out 4
        have hfz31_5 := blk_frozen BK214.out 5
        have hfz31_6 := blk_frozen BK214.out 6
        have hfz31_7 := blk_frozen BK214.out 7
        have hfz31_8 := blk_frozen BK214.out 8
        have hfz31_9 := blk_frozen BK214.out 9
        have hfz31_10 := blk_frozen BK214.out 10
        have hfz31_11 := blk_frozen BK214.out 11
        have hfz31_12 := blk_frozen BK214.out 12
        try go_wp2_with (first | ((with_reducible refine gate_callee (f := 11) rfl ?_); refine goesL_ (some 24) rfl rfl Tryd.func11 (by kernel_rfl) rfl #[.agg #[.int .i64 a0_0, .string a0_1, .string a0_2, .string a0_3, .int .i64 a0_4, .int .i64 a0_5, .int .i64 a0_6, .int .i64 a0_7, .int .i64 a0_8, .bool a0_9, .int .i64 a0_10, .string a0_11, .string a0_12]] rfl (by (try simp only [List.map_toArray, List.map_cons, List.map_nil]); first | done | rfl | (simp only [List.length_drop, List.length_take]; rfl)) ?_; (with_reducible refine (girolaw23_Of.calls a0_0 a0_1 a0_2 a0_3 a0_4 a0_5 a0_6 a0_7 a0_8 a0_9 a0_10 a0_11 a0_12 t217 t218 t219 t220 t221 t222 t223 t224 t225 t226 t227 t228 t229 _ A15.out).mono ?_); rintro e w32 ⟨rfl, hb⟩; refine ⟨_, rfl, ?_⟩; have n0_ := Aside0.mk (blk_below (g := gb214) (o := .cells #[.int .i64 a0_0, .string a0_1, .string a0_2, .string a0_3, .int .i64 a0_4, .int .i64 a0_5, .int .i64 a0_6, .int .i64 a0_7, .int .i64 a0_8, .bool a0_9, .int .i64 a0_10, .string a0_11, .string a0_12] 24 (0, 0)) (by (with_reducible repeat (first | refine blk_drewN ?_ _ | refine blk_drew ?_ | refine blk_alloc ?_ _)); exact BK214.out) hb); have n1_ := Aside0.mk (below_step (by repeat (first | (with_reducible first | exact HB.out | apply below_alloc | apply pw_below_drewN | apply below_drew1 | refine below_set ?_ GE214.out) | exact HB.out)) hb); clear BK214; clear HB; have BK214 := n0_; have HB := n1_; clear n0_ n1_; (try clear hb); (try clear hb2); (try clear hk); (try clear hi)) | ((with_reducible refine gate_callee (f := 10) rfl ?_); refine goesL_ (some 26) rfl rfl Tryd.func10 (by kernel_rfl) rfl #[.agg #[.int .i64 t217, .string t218, .string t219, .string t220, .int .i64 t221, .int .i64 t222, .int .i64 t223, .int .i64 t224, .int .i64 t225, .bool t226, .int .i64 t227, .string t228, .string t229], .int .i64 a1] rfl (by (try simp only [List.map_toArray, List.map_cons, List.map_nil]); first | done | rfl | (simp only [List.length_drop, List.length_take]; rfl)) ?_; (with_reducible refine (delivery_Postings.calls t217 t218 t219 t220 t221 t222 t223 t224 t225 t226 t227 t228 t229 a1 t230 t233 _ A16.out).mono ?_); rintro e w33 ⟨v231, rfl, ho0, hb⟩; refine ⟨_, rfl, ?_⟩; have n0_ := Aside0.mk (Kd.R_lower ho0 (below_size (by repeat (first | (with_reducible first | exact HB.out | apply below_alloc | apply pw_below_drewN | apply below_drew1 | refine below_set ?_ GE214.out) | exact HB.out)))); have n1_ := Aside0.mk (blk_below (g := gb214) (o := .cells #[.int .i64 a0_0, .string a0_1, .string a0_2, .string a0_3, .int .i64 a0_4, .int .i64 a0_5, .int .i64 a0_6, .int .i64 a0_7, .int .i64 a0_8, .bool a0_9, .int .i64 a0_10, .string a0_11, .string a0_12] 24 (0, 0)) (by (with_reducible repeat (first | refine blk_drewN ?_ _ | refine blk_drew ?_ | refine blk_alloc ?_ _)); exact BK214.out) hb); have n2_ := Aside0.mk (below_step (by repeat (first | (with_reducible first | exact HB.out | apply below_alloc | apply pw_below_drewN | apply below_drew1 | refine below_set ?_ GE214.out) | exact HB.out)) hb); clear BK214; clear HB; have HO232 := n0_; have BK214 := n1_; have HB := n2_; clear n0_ n1_ n2_; (try clear hb); (try clear hb2); (try clear hk); (try clear hi); (try clear ho0)))
        have n0_ := Aside0.mk (Kd.R_drew HO232.out)
        have n1_ := Aside0.mk (blk_drew BK214.out)
        have n2_ := Aside0.mk (below_drew1 HB.out)
        clear HO232
        clear BK214
        clear HB
        have HO232 := n0_
        have BK214 := n1_
        have HB := n2_
        clear n0_ n1_ n2_
        refine start_ (n := 11) (S := fun w' => True) (ds := []) #[false, false, false, false, false, false, false, false, false, false, false] (by kernel_rfl) rfl rfl trivial (fun hHeld => ?_); refine with_tabW girolaw39_DeliveryPostings.tab9 girolaw39_DeliveryPostings.bits9 (fun HT_ HW_ => ?_)
        generalize w33.drew = w34 at HO232 BK214 HB hHeld ⊢
        refine pure_ (i := 0) (N := some 39) (v := ?_) (a' := ?_) #[true, false, false, false, false, false, false, false, false, false, false] rfl rfl (any_of HT_.out (by kernel_rfl)) (fun _ _ _ h => h) (Or.inl ⟨by rfl, ?_⟩) ?_ ?_
        rotate_left
        ·intro w'
         go_simp
         with_reducible rfl
        rotate_left
        ·simp only [Act.put, List.setIfInBounds_toArray, List.set_cons_zero, List.set_cons_succ, i64_w, i32_w]
         rfl
        refine pure_ (i := 1) (N := some 40) (v := ?_) (a' := ?_) #[true, true, false, false, false, false, false, false, false, false, false] rfl rfl (any_of HT_.out (by kernel_rfl)) (fun _ _ _ h => h) (Or.inl ⟨by rfl, ?_⟩) ?_ ?_
        rotate_left
        ·intro w'
         go_simp
         with_reducible rfl
        rotate_left
        ·simp only [Act.put, List.setIfInBounds_toArray, List.set_cons_zero, List.set_cons_succ, i64_w, i32_w]
         rfl
        refine pure_ (i := 2) (N := some 41) (v := ?_) (a' := ?_) #[true, true, true, false, false, false, false, false, false, false, false] rfl rfl (any_of HT_.out (by kernel_rfl)) (fun _ _ _ h => h) (Or.inl ⟨by rfl, ?_⟩) ?_ ?_
        rotate_left
        ·intro w'
         go_simp
         with_reducible rfl
        rotate_left
        ·simp only [Act.put, List.setIfInBounds_toArray, List.set_cons_zero, List.set_cons_succ, i64_w, i32_w]
         rfl
        refine pure_ (i := 3) (N := some 42) (v := undef) (a' := ?_) #[true, true, true, true, false, false, false, false, false, false, false] rfl rfl (any_of HT_.out (by kernel_rfl)) (fun _ _ _ h => h) (Or.inr ⟨by rfl, rfl⟩) ?_ ?_
        rotate_left
        ·simp only [Act.put, List.setIfInBounds_toArray, List.set_cons_zero, List.set_cons_succ, i64_w, i32_w]
         rfl
        refine pure_ (i := 4) (N := some 43) (v := undef) (a' := ?_) #[true, true, true, true, true, false, false, false, false, false, false] rfl rfl (any_of HT_.out (by kernel_rfl)) (fun _ _ _ h => h) (Or.inr ⟨by rfl, rfl⟩) ?_ ?_
        rotate_left
        ·simp only [Act.put, List.setIfInBounds_toArray, List.set_cons_zero, List.set_cons_succ, i64_w, i32_w]
         rfl
        refine pure_ (i := 5) (N := some 44) (v := undef) (a' := ?_) #[true, true, true, true, true, true, false, false, false, false, false] rfl rfl (any_of HT_.out (by kernel_rfl)) (fun _ _ _ h => h) (Or.inr ⟨by rfl, rfl⟩) ?_ ?_
        rotate_left
        ·simp only [Act.put, List.setIfInBounds_toArray, List.set_cons_zero, List.set_cons_succ, i64_w, i32_w]
         rfl
        refine pure_ (i := 6) (N := some 45) (v := undef) (a' := ?_) #[true, true, true, true, true, true, true, false, false, false, false] rfl rfl (any_of HT_.out (by kernel_rfl)) (fun _ _ _ h => h) (Or.inr ⟨by rfl, rfl⟩) ?_ ?_
        rotate_left
        ·simp only [Act.put, List.setIfInBounds_toArray, List.set_cons_zero, List.set_cons_succ, i64_w, i32_w]
         rfl
        refine pure_ (i := 7) (N := some 46) (v := undef) (a' := ?_) #[true, true, true, true, true, true, true, true, false, false, false] rfl rfl (any_of HT_.out (by kernel_rfl)) (fun _ _ _ h => h) (Or.inr ⟨by rfl, rfl⟩) ?_ ?_
        rotate_left
        ·simp only [Act.put, List.setIfInBounds_toArray, List.set_cons_zero, List.set_cons_succ, i64_w, i32_w]
         rfl
        refine pure_ (i := 8) (N := some 47) (v := undef) (a' := ?_) #[true, true, true, true, true, true, true, true, true, false, false] rfl rfl (any_of HT_.out (by kernel_rfl)) (fun _ _ _ h => h) (Or.inr ⟨by rfl, rfl⟩) ?_ ?_
        rotate_left
        ·simp only [Act.put, List.setIfInBounds_toArray, List.set_cons_zero, List.set_cons_succ, i64_w, i32_w]
         rfl
        refine pure_ (i := 9) (N := some 48) (v := ?_) (a' := ?_) #[true, true, true, true, true, true, true, true, true, true, false] rfl rfl (any_of HT_.out (by kernel_rfl)) (fun _ _ _ h => h) (Or.inl ⟨by rfl, ?_⟩) ?_ ?_
        rotate_left
        ·intro w'
         go_simp
         with_reducible rfl
        rotate_left
        ·simp only [Act.put, List.setIfInBounds_toArray, List.set_cons_zero, List.set_cons_succ, i64_w, i32_w]
         rfl
        refine pure_ (i := 10) (N := some 4) (v := ?_) (a' := ?_) #[true, true, true, true, true, true, true, true, true, true, true] rfl rfl (any_of HT_.out (by kernel_rfl)) (fun _ _ _ h => h) (Or.inl ⟨by rfl, ?_⟩) ?_ ?_
        rotate_left
        ·intro w'
         go_simp
         with_reducible rfl
        rotate_left
        ·simp only [Act.put, List.setIfInBounds_toArray, List.set_cons_zero, List.set_cons_succ, i64_w, i32_w]
         rfl
        refine done_ (done_of HT_.out (by kernel_rfl)) ?_
        try go_wp2
        go_ret
        exact ⟨by first | rfl | (simp [errW_none, errW_some] <;> rfl) | (simp [*, errW_none, errW_some] <;> rfl), by repeat (first | (with_reducible first | exact HB.out | apply below_alloc | apply pw_below_drewN | apply below_drew1 | refine below_set ?_ GE214.out) | exact HB.out)⟩
      ·rw [if_neg c17] at H
       have c17b0 : (x5_12 == 0) = false := beq_eq_false_iff_ne.mpr c17
       have c17b1 : (x5_12 != 0) = true := bne_iff_ne.mpr c17
       by_cases c35 : t233 = x5_12
       ·rw [if_pos c35] at H
        have c35b0 : (t233 == x5_12) = true := beq_iff_eq.mpr c35
        have c35b1 : (t233 != x5_12) = false := bne_eq_false_iff_eq.mpr c35
        clear c35
        obtain rfl := Option.some.inj H
        have hcz36_0 : wc.cell? ⟨gb214, 0, none⟩ = some (.int .i64 a0_0) := (blk_cell BK214.out 0).trans rfl
        have hcz36_1 : wc.cell? ⟨gb214, 1, none⟩ = some (.string a0_1) := (blk_cell BK214.out 1).trans rfl
        have hcz36_2 : wc.cell? ⟨gb214, 2, none⟩ = some (.string a0_2) := (blk_cell BK214.out 2).trans rfl
        have hcz36_3 : wc.cell? ⟨gb214, 3, none⟩ = some (.string a0_3) := (blk_cell BK214.out 3).trans rfl
        have hcz36_4 : wc.cell? ⟨gb214, 4, none⟩ = some (.int .i64 a0_4) := (blk_cell BK214.out 4).trans rfl
        have hcz36_5 : wc.cell? ⟨gb214, 5, none⟩ = some (.int .i64 a0_5) := (blk_cell BK214.out 5).trans rfl
        have hcz36_6 : wc.cell? ⟨gb214, 6, none⟩ = some (.int .i64 a0_6) := (blk_cell BK214.out 6).trans rfl
        have hcz36_7 : wc.cell? ⟨gb214, 7, none⟩ = some (.int .i64 a0_7) := (blk_cell BK214.out 7).trans rfl
        have hcz36_8 : wc.cell? ⟨gb214, 8, none⟩ = some (.int .i64 a0_8) := (blk_cell BK214.out 8).trans rfl
        have hcz36_9 : wc.cell? ⟨gb214, 9, none⟩ = some (.bool a0_9) := (blk_cell BK214.out 9).trans rfl
        have hcz36_10 : wc.cell? ⟨gb214, 10, none⟩ = some (.int .i64 a0_10) := (blk_cell BK214.out 10).trans rfl
        have hcz36_11 : wc.cell? ⟨gb214, 11, none⟩ = some (.string a0_11) := (blk_cell BK214.out 11).trans rfl
        have hcz36_12 : wc.cell? ⟨gb214, 12, none⟩ = some (.string a0_12) := (blk_cell BK214.out 12).trans rfl
        have hfz36_0 := blk_frozen BK214.out 0
        have hfz36_1 := blk_frozen BK214.out 1
        have hfz36_2 := blk_frozen BK214.out 2
        have hfz36_3 := blk_frozen BK214.out 3
        have hfz36_4 := blk_frozen BK214.out 4
        have hfz36_5 := blk_frozen BK214.out 5
        have hfz36_6 := blk_frozen BK214.out 6
        have hfz36_7 := blk_frozen BK214.out 7
        have hfz36_8 := blk_frozen BK214.out 8
        have hfz36_9 := blk_frozen BK214.out 9
        have hfz36_10 := blk_frozen BK214.out 10
        have hfz36_11 := blk_frozen BK214.out 11
        have hfz36_12 := blk_frozen BK214.out 12
        go_wp2_with (first | ((with_reducible refine gate_callee (f := 11) rfl ?_); refine goesL_ (some 24) rfl rfl Tryd.func11 (by kernel_rfl) rfl #[.agg #[.int .i64 a0_0, .string a0_1, .string a0_2, .string a0_3, .int .i64 a0_4, .int .i64 a0_5, .int .i64 a0_6, .int .i64 a0_7, .int .i64 a0_8, .bool a0_9, .int .i64 a0_10, .string a0_11, .string a0_12]] rfl (by (try simp only [List.map_toArray, List.map_cons, List.map_nil]); first | done | rfl | (simp only [List.length_drop, List.length_take]; rfl)) ?_; (with_reducible refine (girolaw23_Of.calls a0_0 a0_1 a0_2 a0_3 a0_4 a0_5 a0_6 a0_7 a0_8 a0_9 a0_10 a0_11 a0_12 t217 t218 t219 t220 t221 t222 t223 t224 t225 t226 t227 t228 t229 _ A15.out).mono ?_); rintro e w37 ⟨rfl, hb⟩; refine ⟨_, rfl, ?_⟩; have n0_ := Aside0.mk (blk_below (g := gb214) (o := .cells #[.int .i64 a0_0, .string a0_1, .string a0_2, .string a0_3, .int .i64 a0_4, .int .i64 a0_5, .int .i64 a0_6, .int .i64 a0_7, .int .i64 a0_8, .bool a0_9, .int .i64 a0_10, .string a0_11, .string a0_12] 24 (0, 0)) (by (with_reducible repeat (first | refine blk_drewN ?_ _ | refine blk_drew ?_ | refine blk_alloc ?_ _)); exact BK214.out) hb); have n1_ := Aside0.mk (below_step (by repeat (first | (with_reducible first | exact HB.out | apply below_alloc | apply pw_below_drewN | apply below_drew1 | refine below_set ?_ GE214.out) | exact HB.out)) hb); clear BK214; clear HB; have BK214 := n0_; have HB := n1_; clear n0_ n1_; (try clear hb); (try clear hb2); (try clear hk); (try clear hi)) | ((with_reducible refine gate_callee (f := 10) rfl ?_); refine goesL_ (some 26) rfl rfl Tryd.func10 (by kernel_rfl) rfl #[.agg #[.int .i64 t217, .string t218, .string t219, .string t220, .int .i64 t221, .int .i64 t222, .int .i64 t223, .int .i64 t224, .int .i64 t225, .bool t226, .int .i64 t227, .string t228, .string t229], .int .i64 a1] rfl (by (try simp only [List.map_toArray, List.map_cons, List.map_nil]); first | done | rfl | (simp only [List.length_drop, List.length_take]; rfl)) ?_; (with_reducible refine (delivery_Postings.calls t217 t218 t219 t220 t221 t222 t223 t224 t225 t226 t227 t228 t229 a1 t230 t233 _ A16.out).mono ?_); rintro e w38 ⟨v231, rfl, ho0, hb⟩; refine ⟨_, rfl, ?_⟩; have n0_ := Aside0.mk (Kd.R_lower ho0 (below_size (by repeat (first | (with_reducible first | exact HB.out | apply below_alloc | apply pw_below_drewN | apply below_drew1 | refine below_set ?_ GE214.out) | exact HB.out)))); have n1_ := Aside0.mk (blk_below (g := gb214) (o := .cells #[.int .i64 a0_0, .string a0_1, .string a0_2, .string a0_3, .int .i64 a0_4, .int .i64 a0_5, .int .i64 a0_6, .int .i64 a0_7, .int .i64 a0_8, .bool a0_9, .int .i64 a0_10, .string a0_11, .string a0_12] 24 (0, 0)) (by (with_reducible repeat (first | refine blk_drewN ?_ _ | refine blk_drew ?_ | refine blk_alloc ?_ _)); exact BK214.out) hb); have n2_ := Aside0.mk (below_step (by repeat (first | (with_reducible first | exact HB.out | apply below_alloc | apply pw_below_drewN | apply below_drew1 | refine below_set ?_ GE214.out) | exact HB.out)) hb); clear BK214; clear HB; have HO232 := n0_; have BK214 := n1_; have HB := n2_; clear n0_ n1_ n2_; (try clear hb); (try clear hb2); (try clear hk); (try clear hi); (try clear ho0); obtain ⟨Ao39, co39, eo39⟩ := Kd.R_slice HO232.out; subst eo39))
        go_ret
        exact ⟨by first | rfl | (simp [errW_none, errW_some] <;> rfl) | (simp [*, errW_none, errW_some] <;> rfl), by repeat (first | (with_reducible first | exact HB.out | apply below_alloc | apply pw_below_drewN | apply below_drew1 | refine below_set ?_ GE214.out) | exact HB.out)⟩
       ·rw [if_neg c35] at H
        have c35b0 : (t233 == x5_12) = false := beq_eq_false_iff_ne.mpr c35
        have c35b1 : (t233 != x5_12) = true := bne_iff_ne.mpr c35
        obtain rfl := Option.some.inj H
        have hcz40_0 : wc.cell? ⟨gb214, 0, none⟩ = some (.int .i64 a0_0) := (blk_cell BK214.out 0).trans rfl
        have hcz40_1 : wc.cell? ⟨gb214, 1, none⟩ = some (.string a0_1) := (blk_cell BK214.out 1).trans rfl
        have hcz40_2 : wc.cell? ⟨gb214, 2, none⟩ = some (.string a0_2) := (blk_cell BK214.out 2).trans rfl
        have hcz40_3 : wc.cell? ⟨gb214, 3, none⟩ = some (.string a0_3) := (blk_cell BK214.out 3).trans rfl
        have hcz40_4 : wc.cell? ⟨gb214, 4, none⟩ = some (.int .i64 a0_4) := (blk_cell BK214.out 4).trans rfl
        have hcz40_5 : wc.cell? ⟨gb214, 5, none⟩ = some (.int .i64 a0_5) := (blk_cell BK214.out 5).trans rfl
        have hcz40_6 : wc.cell? ⟨gb214, 6, none⟩ = some (.int .i64 a0_6) := (blk_cell BK214.out 6).trans rfl
        have hcz40_7 : wc.cell? ⟨gb214, 7, none⟩ = some (.int .i64 a0_7) := (blk_cell BK214.out 7).trans rfl
        have hcz40_8 : wc.cell? ⟨gb214, 8, none⟩ = some (.int .i64 a0_8) := (blk_cell BK214.out 8).trans rfl
        have hcz40_9 : wc.cell? ⟨gb214, 9, none⟩ = some (.bool a0_9) := (blk_cell BK214.out 9).trans rfl
        have hcz40_10 : wc.cell? ⟨gb214, 10, none⟩ = some (.int .i64 a0_10) := (blk_cell BK214.out 10).trans rfl
        have hcz40_11 : wc.cell? ⟨gb214, 11, none⟩ = some (.string a0_11) := (blk_cell BK214.out 11).trans rfl
        have hcz40_12 : wc.cell? ⟨gb214, 12, none⟩ = some (.string a0_12) := (blk_cell BK214.out 12).trans rfl
        have hfz40_0 := blk_frozen BK214.out 0
        have hfz40_1 := blk_frozen BK214.out 1
        have hfz40_2 := blk_frozen BK214.out 2
        have hfz40_3 := blk_frozen BK214.out 3
        have hfz40_4 := blk_frozen BK214.out 4
        have hfz40_5 := blk_frozen BK214.out 5
        have hfz40_6 := blk_frozen BK214.out 6
        have hfz40_7 := blk_frozen BK214.out 7
        have hfz40_8 := blk_frozen BK214.out 8
        have hfz40_9 := blk_frozen BK214.out 9
        have hfz40_10 := blk_frozen BK214.out 10
        have hfz40_11 := blk_frozen BK214.out 11
        have hfz40_12 := blk_frozen BK214.out 12
        go_wp2_with (first | ((with_reducible refine gate_callee (f := 11) rfl ?_); refine goesL_ (some 24) rfl rfl Tryd.func11 (by kernel_rfl) rfl #[.agg #[.int .i64 a0_0, .string a0_1, .string a0_2, .string a0_3, .int .i64 a0_4, .int .i64 a0_5, .int .i64 a0_6, .int .i64 a0_7, .int .i64 a0_8, .bool a0_9, .int .i64 a0_10, .string a0_11, .string a0_12]] rfl (by (try simp only [List.map_toArray, List.map_cons, List.map_nil]); first | done | rfl | (simp only [List.length_drop, List.length_take]; rfl)) ?_; (with_reducible refine (girolaw23_Of.calls a0_0 a0_1 a0_2 a0_3 a0_4 a0_5 a0_6 a0_7 a0_8 a0_9 a0_10 a0_11 a0_12 t217 t218 t219 t220 t221 t222 t223 t224 t225 t226 t227 t228 t229 _ A15.out).mono ?_); rintro e w41 ⟨rfl, hb⟩; refine ⟨_, rfl, ?_⟩; have n0_ := Aside0.mk (blk_below (g := gb214) (o := .cells #[.int .i64 a0_0, .string a0_1, .string a0_2, .string a0_3, .int .i64 a0_4, .int .i64 a0_5, .int .i64 a0_6, .int .i64 a0_7, .int .i64 a0_8, .bool a0_9, .int .i64 a0_10, .string a0_11, .string a0_12] 24 (0, 0)) (by (with_reducible repeat (first | refine blk_drewN ?_ _ | refine blk_drew ?_ | refine blk_alloc ?_ _)); exact BK214.out) hb); have n1_ := Aside0.mk (below_step (by repeat (first | (with_reducible first | exact HB.out | apply below_alloc | apply pw_below_drewN | apply below_drew1 | refine below_set ?_ GE214.out) | exact HB.out)) hb); clear BK214; clear HB; have BK214 := n0_; have HB := n1_; clear n0_ n1_; (try clear hb); (try clear hb2); (try clear hk); (try clear hi)) | ((with_reducible refine gate_callee (f := 10) rfl ?_); refine goesL_ (some 26) rfl rfl Tryd.func10 (by kernel_rfl) rfl #[.agg #[.int .i64 t217, .string t218, .string t219, .string t220, .int .i64 t221, .int .i64 t222, .int .i64 t223, .int .i64 t224, .int .i64 t225, .bool t226, .int .i64 t227, .string t228, .string t229], .int .i64 a1] rfl (by (try simp only [List.map_toArray, List.map_cons, List.map_nil]); first | done | rfl | (simp only [List.length_drop, List.length_take]; rfl)) ?_; (with_reducible refine (delivery_Postings.calls t217 t218 t219 t220 t221 t222 t223 t224 t225 t226 t227 t228 t229 a1 t230 t233 _ A16.out).mono ?_); rintro e w42 ⟨v231, rfl, ho0, hb⟩; refine ⟨_, rfl, ?_⟩; have n0_ := Aside0.mk (Kd.R_lower ho0 (below_size (by repeat (first | (with_reducible first | exact HB.out | apply below_alloc | apply pw_below_drewN | apply below_drew1 | refine below_set ?_ GE214.out) | exact HB.out)))); have n1_ := Aside0.mk (blk_below (g := gb214) (o := .cells #[.int .i64 a0_0, .string a0_1, .string a0_2, .string a0_3, .int .i64 a0_4, .int .i64 a0_5, .int .i64 a0_6, .int .i64 a0_7, .int .i64 a0_8, .bool a0_9, .int .i64 a0_10, .string a0_11, .string a0_12] 24 (0, 0)) (by (with_reducible repeat (first | refine blk_drewN ?_ _ | refine blk_drew ?_ | refine blk_alloc ?_ _)); exact BK214.out) hb); have n2_ := Aside0.mk (below_step (by repeat (first | (with_reducible first | exact HB.out | apply below_alloc | apply pw_below_drewN | apply below_drew1 | refine below_set ?_ GE214.out) | exact HB.out)) hb); clear BK214; clear HB; have HO232 := n0_; have BK214 := n1_; have HB := n2_; clear n0_ n1_ n2_; (try clear hb); (try clear hb2); (try clear hk); (try clear hi); (try clear ho0)))
        go_ret
        exact ⟨by first | rfl | (simp [errW_none, errW_some] <;> rfl) | (simp [*, errW_none, errW_some] <;> rfl), by repeat (first | (with_reducible first | exact HB.out | apply below_alloc | apply pw_below_drewN | apply below_drew1 | refine below_set ?_ GE214.out) | exact HB.out)⟩
 ·replace c4 := Bool.eq_false_iff.mpr c4
  subst c4
  have H1 : (some false) = some r := by rw [if_neg (show ¬ (false = true) by decide)] at H; exact H
  clear H
  have H := H1
  clear H1
  obtain rfl := Option.some.inj H
  go_enter Tryd.func3, Tryd.ntmps3
  go_wp2_with (first | ((with_reducible refine gate_dst (N := 2) rfl ?_); (try (refine gate_guard (by rfl) ?_; dsimp only)); refine box_event ?hg (N := 2) ?hd (cs := #[.int .i64 a0_0, .string a0_1, .string a0_2, .string a0_3, .int .i64 a0_4, .int .i64 a0_5, .int .i64 a0_6, .int .i64 a0_7, .int .i64 a0_8, .bool a0_9, .int .i64 a0_10, .string a0_11, .string a0_12]) (t := 24) ?hr ?_; (case hd => rfl); (case hg => rfl); (case hr => first | (go_simp; done) | (go_simp; rfl)); intro gb214 hg w43 hbox hb; have n0_ := Aside0.mk (below_step (by repeat (first | (with_reducible first | exact HB.out | apply below_alloc | apply pw_below_drewN | apply below_drew1) | exact HB.out)) hb); have n1_ := Aside0.mk (hbox); have n2_ := Aside0.mk ((by rw [hg]; exact (below_size (by repeat (first | (with_reducible first | exact HB.out | apply below_alloc | apply pw_below_drewN | apply below_drew1) | exact HB.out))) : w.heap.size ≤ gb214)); have n3_ := Aside0.mk ((by rw [hg]; exact (below_size (by repeat (first | (with_reducible first | exact HB.out | apply below_alloc | apply pw_below_drewN | apply below_drew1) | exact HB.out))) : w.heap.size ≤ gb214)); clear HB; have HB := n0_; have BK214 := n1_; have GW214 := n2_; have GE214 := n3_; clear n0_ n1_ n2_ n3_; clear hb hbox hg) | ((with_reducible refine gate_callee (f := 8) rfl ?_); refine goesL_ (some 8) rfl rfl Tryd.func8 (by kernel_rfl) rfl #[] rfl (by (try simp only [List.map_toArray, List.map_cons, List.map_nil]); first | done | rfl | (simp only [List.length_drop, List.length_take]; rfl)) ?_; (with_reducible refine (girolaw39_known.calls k  false _ A3.out).mono ?_); rintro e w44 ⟨rfl, hb⟩; refine ⟨_, rfl, ?_⟩; have n0_ := Aside0.mk (blk_below (g := gb214) (o := .cells #[.int .i64 a0_0, .string a0_1, .string a0_2, .string a0_3, .int .i64 a0_4, .int .i64 a0_5, .int .i64 a0_6, .int .i64 a0_7, .int .i64 a0_8, .bool a0_9, .int .i64 a0_10, .string a0_11, .string a0_12] 24 (0, 0)) (by (with_reducible repeat (first | refine blk_drewN ?_ _ | refine blk_drew ?_ | refine blk_alloc ?_ _)); exact BK214.out) hb); have n1_ := Aside0.mk (below_step (by repeat (first | (with_reducible first | exact HB.out | apply below_alloc | apply pw_below_drewN | apply below_drew1 | refine below_set ?_ GE214.out) | exact HB.out)) hb); clear BK214; clear HB; have BK214 := n0_; have HB := n1_; clear n0_ n1_; (try clear hb); (try clear hb2); (try clear hk); (try clear hi)))
  go_ret
  exact ⟨by first | rfl | (simp [errW_none, errW_some] <;> rfl) | (simp [*, errW_none, errW_some] <;> rfl), by repeat (first | (with_reducible first | exact HB.out | apply below_alloc | apply pw_below_drewN | apply below_drew1 | refine below_set ?_ GE214.out) | exact HB.out)⟩
end Go.Proofs.YtpclapnmiacfpaaDoor.Q
end
section
set_option linter.unusedVariables false
namespace Go.Proofs.YtpclapnmiacfpaaDoor.Q
open Go.RowKit Go.Proofs.YtpclapnmiacfpaaDoorW.PrintWords Go.Proofs.YtpclapnmiacfpaaDoorW.PrintLast Go.Proofs.YtpclapnmiacfpaaDoorW.PrintMore
open Hand (upC dgC anC rfC prOf spanL idG idS idv luE luS luV luC expL expC expB DigB ChkTo)
theorem letter_f (a : Int) : giroref05_letter.f a = some (upC a) := by
  unfold giroref05_letter.f upC
  by_cases h : 65 ≤ a
  · rw [if_pos h]; simp [h]
  · rw [if_neg h]; simp [h]
theorem digit_f (a : Int) : giroref05_digit.f a = some (dgC a) := by
  unfold giroref05_digit.f dgC
  by_cases h : 48 ≤ a
  · rw [if_pos h]; simp [h]
  · rw [if_neg h]; simp [h]
theorem gs0 : ∀ i, i < 12 → (spanL (idG 0)).getD i 0 = if i < 2 then 0 else if i < 11 then 1 else 2 := by decide
theorem gs1 : ∀ i, i < 8 → (spanL (idG 1)).getD i 0 = if i < 1 then 0 else 1 := by decide
theorem gs2 : ∀ i, i < 16 → (spanL (idG 2)).getD i 0 = 3 := by decide
theorem may0 (i : Nat) (h : i < 12) (c : Int) : giroref05_may.f 0 i c = some (prOf ((spanL (idG 0)).getD i 0) c) := by
  rw [gs0 i h]
  unfold giroref05_may.f
  rw [if_pos rfl]
  simp only [letter_f, digit_f, Option.bind_some]
  by_cases h2 : i < 2
  · rw [if_pos (show (i : Int) < 2 by omega), if_pos h2, if_neg (show ¬ (i : Int) ≥ 2 by omega), if_neg (show ¬ (i : Int) = 11 by omega)]
    show _ = some (upC c)
    cases upC c <;> rfl
  · rw [if_neg (show ¬ (i : Int) < 2 by omega), if_neg h2, if_pos (show (i : Int) ≥ 2 by omega)]
    by_cases h11 : i < 11
    · rw [if_pos (show (i : Int) < 11 by omega), if_pos h11, if_neg (show ¬ (i : Int) = 11 by omega)]
      show _ = some (anC c)
      unfold anC
      cases upC c <;> cases dgC c <;> rfl
    · rw [if_neg (show ¬ (i : Int) < 11 by omega), if_neg h11, if_pos (show (i : Int) = 11 by omega)]
      rfl
theorem may1 (i : Nat) (h : i < 8) (c : Int) : giroref05_may.f 1 i c = some (prOf ((spanL (idG 1)).getD i 0) c) := by
  rw [gs1 i h]
  unfold giroref05_may.f
  rw [if_neg (by decide), if_pos rfl]
  simp only [letter_f, digit_f, Option.bind_some]
  by_cases h2 : i < 1
  · rw [if_neg (show ¬ (i : Int) > 0 by omega), if_pos h2]
    show _ = some (upC c)
    cases upC c <;> rfl
  · rw [if_pos (show (i : Int) > 0 by omega), if_neg h2]
    show _ = some (anC c)
    unfold anC
    cases upC c <;> rfl
theorem may2 (i : Nat) (h : i < 16) (c : Int) : giroref05_may.f 2 i c = some (prOf ((spanL (idG 2)).getD i 0) c) := by
  rw [gs2 i h]
  unfold giroref05_may.f
  rw [if_neg (by decide), if_neg (by decide), if_pos rfl]
  simp only [letter_f, digit_f, Option.bind_some]
  show _ = some (rfC c)
  unfold rfC anC
  cases upC c <;> cases dgC c <;> rfl
theorem may_q (q : Int) (hq : q = 0 ∨ q = 1 ∨ q = 2) (i : Nat) (h : i < (spanL (idG q)).length) (c : Int) : giroref05_may.f q i c = some (prOf ((spanL (idG q)).getD i 0) c) := by
  rcases hq with rfl | rfl | rfl
  · exact may0 i h c
  · exact may1 i h c
  · exact may2 i h c
def digs (l : List UInt8) : List Int := l.map fun c => (c.toNat : Int) - 48
theorem digs_app (a b : List UInt8) : digs (a ++ b) = digs a ++ digs b := by simp [digs]
theorem bt_get (s : ByteArray) (i : Nat) (h : i < s.size) : bt s (i : Int) = (s[i].toNat : Int) := by
  unfold bt; rw [dif_pos (by simpa using h)]; rfl
theorem digs_expC (c : UInt8) (h : anC c.toNat = true) : digs (expC c) = if dgC c.toNat then [((c.toNat : Int) - 48) % 256] else [((((c.toNat : Int) - 65) % 256) + 10) / 10, ((((c.toNat : Int) - 65) % 256) + 10) % 10] := by
  have hc := (Hand.anC_iff _).1 h
  unfold expC
  by_cases hd : dgC (c.toNat : Int) = true
  · rw [if_pos hd, if_pos hd]
    have := (Hand.dgC_iff _).1 hd
    simp only [digs, List.map_cons, List.map_nil]
    congr 1
    omega
  · rw [if_neg hd, if_neg hd]
    have h65 : 65 ≤ (c.toNat : Int) := by
      rcases hc with h | h
      · exact h.1
      · exact absurd ((Hand.dgC_iff _).2 h) hd
    obtain ⟨n, hn⟩ : ∃ n : Nat, n = c.toNat - 55 := ⟨_, rfl⟩
    have hn1 : 10 ≤ n ∧ n < 100 := by omega
    rw [← hn, Lib.decDigits, dif_neg (by omega), Lib.decDigits, dif_pos (by omega)]
    have e1 : ((UInt8.ofNat (48 + n / 10)).toNat : Int) = 48 + (n : Int) / 10 := by rw [Hand.ofNat_toNat _ (by omega)]; omega
    have e2 : ((UInt8.ofNat (48 + n % 10)).toNat : Int) = 48 + (n : Int) % 10 := by rw [Hand.ofNat_toNat _ (by omega)]; omega
    simp only [digs, List.map_cons, List.map_nil, e1, e2, List.cons_append, List.nil_append]
    have e3 : ((c.toNat : Int) - 65) % 256 + 10 = (n : Int) := by omega
    rw [e3]
    congr 1
    · omega
    · congr 1; omega
theorem exp_loop (s : ByteArray) (hs : s.size ≤ 1000) (hall : ∀ c ∈ s.data.toList, anC c.toNat = true) : ∀ (d i k : Nat), i + d = s.size → d < k →
    giroref05_Expand.l0 k s (digs (expL (s.data.toList.take i))) (i : Int) = some (digs (expL s.data.toList))
  | 0, i, k, h, hk => by
    obtain ⟨k, rfl⟩ : ∃ m, k = m + 1 := ⟨k - 1, by omega⟩
    have c1 : ¬ (i : Int) < (s.size : Int) := by omega
    have c2 : s.data.toList.length ≤ i := by simp; omega
    simp only [giroref05_Expand.l0]
    rw [if_neg c1, List.take_of_length_le c2]
  | d + 1, i, k, h, hk => by
    obtain ⟨k, rfl⟩ : ∃ m, k = m + 1 := ⟨k - 1, by omega⟩
    have hi : i < s.size := by omega
    have ih := exp_loop s hs hall d (i + 1) k (by omega) (by omega)
    have hm := hall _ (Hand.mem_at s i hi)
    have w2 : wrap64 ((i : Int) + 1) = ((i + 1 : Nat) : Int) := by unfold wrap64; omega
    have hl : (expL (s.data.toList.take i)).length ≤ 2 * i := by
      have h1 := Hand.expL_len (s.data.toList.take i) (fun c hc => hall c (List.mem_of_mem_take hc))
      have h2 : (s.data.toList.take i).length ≤ i := List.length_take_le _ _
      omega
    have hdl : (digs (expL (s.data.toList.take i))).length ≤ 2 * i := by simpa [digs] using hl
    rw [Hand.take_snoc' s i hi, Hand.expL_snoc, digs_app, digs_expC _ hm] at ih
    have c1 : (i : Int) < (s.size : Int) := by omega
    have c2 : 0 ≤ (i : Int) := by omega
    simp only [giroref05_Expand.l0]
    rw [if_pos c1, if_pos c2, digit_f, Option.bind_some, bt_get s i hi, w2]
    generalize digs (expL (s.data.toList.take i)) = D at ih hdl ⊢
    have c3 : D.length < 17592186044416 := by omega
    by_cases hd : dgC (s[i].toNat : Int) = true
    · rw [if_pos hd] at ih
      rw [if_pos hd, if_pos c3]
      exact ih
    · rw [if_neg hd] at ih
      have c4 : D.length + [(((s[i].toNat : Int) - 65) % 256 + 10) / 10, (((s[i].toNat : Int) - 65) % 256 + 10) % 10].length < 17592186044416 := by
        rw [show [(((s[i].toNat : Int) - 65) % 256 + 10) / 10, (((s[i].toNat : Int) - 65) % 256 + 10) % 10].length = 2 from rfl]; omega
      rw [if_neg hd, Option.bind_some, if_pos c4]
      exact ih
theorem rd_digs (l : List UInt8) (j : Int) (h0 : 0 ≤ j) (h1 : j < (expL l).length) : rd (digs (expL l)) j = bt (expB l) j - 48 := by
  obtain ⟨n, rfl⟩ := Int.eq_ofNat_of_zero_le h0
  have hn : n < (expL l).length := by omega
  have hz : (expB l).size = (expL l).length := by simp [expB, ByteArray.size]
  rw [bt_get _ n (by omega)]
  unfold rd digs
  rw [List.getD_eq_getElem?_getD, List.getElem?_map]
  simp only [Int.toNat_natCast]
  rw [List.getElem?_eq_getElem hn]
  rfl
theorem rluhn_loop (D : List Int) (T : ByteArray) (hl : T.size ≤ 1000) (hd : DigB T) (hdl : D.length = T.size) (hrd : ∀ j : Int, 0 ≤ j → j < T.size → rd D j = bt T j - 48) : ∀ (d i k : Nat), i + d = T.size → d < k →
    giroref05_Luhn.l0 k D (luS T i) (i : Int) = some (luV T)
  | 0, i, k, h, hk => by
    obtain ⟨k, rfl⟩ : ∃ m, k = m + 1 := ⟨k - 1, by omega⟩
    have hb := Hand.luS_bd T hd i (by omega)
    have hi : i = T.size := by omega
    have c1 : ¬ (i : Int) < (D.length : Int) := by omega
    simp only [giroref05_Luhn.l0]
    rw [if_neg c1, hi]
    rw [hi] at hb
    have e1 : Int.tmod (luS T T.size) 10 = luS T T.size % 10 := Int.tmod_eq_emod_of_nonneg hb.1
    rw [e1]
    have e2 : wrap64 (10 - luS T T.size % 10) = 10 - luS T T.size % 10 := by unfold wrap64; omega
    rw [e2, Int.tmod_eq_emod_of_nonneg (by omega), ← Hand.luV_def]
  | d + 1, i, k, h, hk => by
    obtain ⟨k, rfl⟩ : ∃ m, k = m + 1 := ⟨k - 1, by omega⟩
    have hb := Hand.luS_bd T hd i (by omega)
    have hx := hd ((T.size : Int) - 1 - i) (by omega) (by omega)
    have he := Hand.luE_bd i (bt T ((T.size : Int) - 1 - i) - 48) (by omega) (by omega)
    have ih := rluhn_loop D T hl hd hdl hrd d (i + 1) k (by omega) (by omega)
    have w1 : wrap64 (wrap64 ((D.length : Int) - 1) - i) = (T.size : Int) - 1 - i := by rw [hdl]; unfold wrap64; omega
    have w2 : wrap64 ((i : Int) + 1) = ((i + 1 : Nat) : Int) := by unfold wrap64; omega
    have e1 : Int.tmod (i : Int) 2 = (i : Int) % 2 := Int.tmod_eq_emod_of_nonneg (by omega)
    have hsx : luS T (i + 1) = luS T i + luE i (bt T ((T.size : Int) - 1 - i) - 48) := Hand.luS_succ T i
    have c1 : (i : Int) < (D.length : Int) := by omega
    have c2 : 0 ≤ (T.size : Int) - 1 - i := by omega
    have c3 : (T.size : Int) - 1 - i < (D.length : Int) := by omega
    have hb2 : luS T i ≤ 9000 := by omega
    have hr := hrd ((T.size : Int) - 1 - i) c2 (by omega)
    simp only [giroref05_Luhn.l0]
    rw [if_pos c1, w1, if_pos c2, if_pos c3, w2, e1, hr]
    clear w1 w2 e1 c1 c2 c3 hr
    generalize bt T ((T.size : Int) - 1 - i) = B at hx he hsx ⊢
    have hl0 := hb.1
    clear hb hd h hk hl hdl hrd
    generalize luS T i = S at hb2 hl0 hsx ⊢
    by_cases hp : (i : Int) % 2 = 0
    · rw [if_pos hp]
      have hq : i % 2 = 0 := by omega
      have hs : luS T (i + 1) = S + ((B - 48) * 2 / 10 + (B - 48) * 2 % 10) := by rw [hsx]; unfold luE; rw [if_pos hq]
      have t1 : wrap64 (2 * (B - 48)) = (B - 48) * 2 := by unfold wrap64; omega
      have t2 : Int.tdiv ((B - 48) * 2) 10 = (B - 48) * 2 / 10 := Int.tdiv_eq_ediv_of_nonneg (by omega)
      have t3 : Int.tmod ((B - 48) * 2) 10 = (B - 48) * 2 % 10 := Int.tmod_eq_emod_of_nonneg (by omega)
      have t4 : wrap64 ((B - 48) * 2 / 10) = (B - 48) * 2 / 10 := by unfold wrap64; omega
      have t5 : wrap64 (S + (B - 48) * 2 / 10) = S + (B - 48) * 2 / 10 := by unfold wrap64; omega
      have w3 : wrap64 (S + (B - 48) * 2 / 10 + (B - 48) * 2 % 10) = luS T (i + 1) := by rw [hs]; unfold wrap64; omega
      rw [t1, t2, t3, t4, t5, w3]; exact ih
    · rw [if_neg hp]
      have hq : ¬ i % 2 = 0 := by omega
      have hs : luS T (i + 1) = S + ((B - 48) / 10 + (B - 48) % 10) := by rw [hsx]; unfold luE; rw [if_neg hq]
      have t2 : Int.tdiv (B - 48) 10 = (B - 48) / 10 := Int.tdiv_eq_ediv_of_nonneg (by omega)
      have t3 : Int.tmod (B - 48) 10 = (B - 48) % 10 := Int.tmod_eq_emod_of_nonneg (by omega)
      have t4 : wrap64 ((B - 48) / 10) = (B - 48) / 10 := by unfold wrap64; omega
      have t5 : wrap64 (S + (B - 48) / 10) = S + (B - 48) / 10 := by unfold wrap64; omega
      have w3 : wrap64 (S + (B - 48) / 10 + (B - 48) % 10) = luS T (i + 1) := by rw [hs]; unfold wrap64; omega
      rw [t2, t3, t4, t5, w3]; exact ih
theorem rluhn_f (s : ByteArray) (hs : s.size ≤ 100) (hall : ∀ c ∈ s.data.toList, anC c.toNat = true) (k : Nat) (hk : 500 < k) : giroref05_Luhn.f k s = some (luV (expB s.data.toList)) := by
  have hlen := Hand.expL_len s.data.toList hall
  have hl2 : s.data.toList.length = s.size := by simp
  have h1 := exp_loop s (by omega) hall s.size 0 k (by omega) (by omega)
  have hz : (expB s.data.toList).size = (expL s.data.toList).length := by simp [expB, ByteArray.size]
  have hdl : (digs (expL s.data.toList)).length = (expB s.data.toList).size := by rw [hz]; simp [digs]
  have hle : (expB s.data.toList).size ≤ 200 := by rw [hz]; exact Nat.le_trans hlen (by rw [hl2]; exact Nat.mul_le_mul_left 2 hs)
  have h2 := rluhn_loop (digs (expL s.data.toList)) (expB s.data.toList) (Nat.le_trans hle (by decide)) (Hand.expB_dig _ hall) hdl (fun j h0 h1 => rd_digs _ j h0 (by rw [← hz]; exact h1)) (expB s.data.toList).size 0 k (Nat.zero_add _) (Nat.lt_of_le_of_lt hle (Nat.lt_trans (by decide) hk))
  unfold giroref05_Luhn.f giroref05_Expand.f
  rw [show digs (expL (s.data.toList.take 0)) = [] from rfl, show ((0 : Nat) : Int) = 0 from rfl] at h1
  rw [show luS (expB s.data.toList) 0 = 0 from Hand.luS_zero _, show ((0 : Nat) : Int) = 0 from rfl] at h2
  rw [h1, Option.bind_some]
  exact h2
end Go.Proofs.YtpclapnmiacfpaaDoor.Q
end
section
set_option linter.unusedVariables false
namespace Go.Proofs.YtpclapnmiacfpaaDoor.Q
open Go.RowKit Go.Proofs.YtpclapnmiacfpaaDoorW.PrintWords Go.Proofs.YtpclapnmiacfpaaDoorW.PrintLast Go.Proofs.YtpclapnmiacfpaaDoorW.PrintMore
open Hand (upC dgC anC rfC prOf spanL idG idS idv luE luS luV luC expL expC expB DigB ChkTo prefB)
def QOK (q : Int) : Prop := q = 0 ∨ q = 1 ∨ q = 2
theorem idv_bad' {q : Int} {s : ByteArray} (h : ¬ (prefB (spanL (idG q)) (idS q) s.data.toList = true)) : idv q s = false := by
  unfold idv; rw [Bool.eq_false_iff.2 h]; rfl
theorem lens_f (q : Int) (hq : QOK q) : giroref05_Lengths.f q = some ((idS q : Int), ((spanL (idG q)).length : Int)) := by
  rcases hq with rfl | rfl | rfl <;> decide
theorem s11 (s : ByteArray) (h : s.size = 12) : s.data.toList.drop 11 = [s[11]] := by
  have h' : s.data.toList.length = 12 := by simpa using h
  rw [List.drop_eq_getElem_cons (by omega), List.drop_eq_nil_of_le (by omega)]
  rfl
theorem chk_end (q : Int) (hq : QOK q) (s : ByteArray) (i : Int) (hc : ∀ i, i < (spanL (idG q)).length → (h : i < s.size) → prOf ((spanL (idG q)).getD i 0) (s[i].toNat : Int) = true) (k : Nat) (hk : 1000 < k) :
    ∃ a e, giroref05_Check.j2 k q s (idS q : Int) ((spanL (idG q)).length : Int) i false = some (a, e) ∧ (e = 0 ↔ idv q s = true) := by
  obtain ⟨k, rfl⟩ : ∃ m, k = m + 1 := ⟨k - 1, by omega⟩
  have hpe := Hand.pref_end (gs := spanL (idG q)) (sh := idS q) (s := s) (fun i h1 h2 => hc i h1 h2)
  simp only [giroref05_Check.j2]
  rw [if_neg (by decide)]
  by_cases h1 : s.size < idS q
  · rw [if_pos (by omega)]
    refine ⟨_, _, rfl, ?_⟩
    have : idv q s = false := idv_bad' (fun h => by have := hpe.1 h; omega)
    rw [this]; decide
  · rw [if_neg (by omega)]
    by_cases h2 : (spanL (idG q)).length < s.size
    · rw [if_pos (by omega)]
      refine ⟨_, _, rfl, ?_⟩
      have : idv q s = false := idv_bad' (fun h => by have := hpe.1 h; omega)
      rw [this]; decide
    · rw [if_neg (by omega)]
      have hp : prefB (spanL (idG q)) (idS q) s.data.toList = true := hpe.2 (by omega)
      obtain ⟨k, rfl⟩ : ∃ m, k = m + 1 := ⟨k - 1, by omega⟩
      by_cases h0 : q = 0
      · subst h0
        have hs : s.size = 12 := by
          have e1 : (spanL (idG 0)).length = 12 := by decide
          have e2 : idS 0 = 12 := by decide
          omega
        have e11 : 11 < s.size := by omega
        have hlt : (11 : Int) < (s.size : Int) := by omega
        have hle : (11 : Int) ≤ (s.size : Int) := by omega
        have hx : (s.extract 0 11).data.toList = s.data.toList.take 11 := by rw [Lib.extract_data]; simp
        have hex : (s.extract 0 11).size ≤ 100 := by rw [ByteArray.size_extract]; omega
        have hall : ∀ c ∈ (s.extract 0 11).data.toList, anC c.toNat = true := by
          rw [hx]
          intro c hcm
          obtain ⟨j, hj, rfl⟩ := List.mem_take_iff_getElem.1 hcm
          have hj1 : j < 11 := by omega
          have h3 := hc j (by have e1 : (spanL (idG 0)).length = 12 := by decide
                              omega) (by omega)
          rw [gs0 j (by omega)] at h3
          have hb : s[j]'(by omega) = s.data.toList[j]'(by simp; omega) := rfl
          rw [← hb]
          by_cases h5 : j < 2
          · rw [if_pos h5] at h3
            have h6 : upC _ = true := h3
            unfold anC; rw [h6]; rfl
          · rw [if_neg h5, if_pos hj1] at h3
            exact h3
        have h12 := hc 11 (by decide) e11
        rw [gs0 11 (by decide), if_neg (by decide), if_neg (by decide)] at h12
        have hd := (Hand.dgC_iff _).1 (show dgC (s[11].toNat : Int) = true from h12)
        have hl := rluhn_f (s.extract 0 11) hex hall (k + 1) (by omega)
        rw [hx] at hl
        rw [if_pos rfl, if_pos hlt, if_pos (by decide), if_pos hle, hl, Option.bind_some]
        have hbt : bt s 11 = (s[11].toNat : Int) := bt_get s 11 e11
        have hv := Hand.luV_bd (expB (s.data.toList.take 11))
        have hid : idv 0 s = ((s.data.toList.drop 11) == [luC (s.data.toList.take 11)]) := by
          unfold idv; rw [hp]; rfl
        have hid2 : (idv 0 s = true) ↔ (s[11].toNat : Int) - 48 = luV (expB (s.data.toList.take 11)) := by
          rw [hid, beq_iff_eq, s11 s hs]
          have hcn : ((luC (s.data.toList.take 11)).toNat : Int) = 48 + luV (expB (s.data.toList.take 11)) := by
            unfold luC; rw [Hand.ofNat_toNat _ (by omega)]; omega
          constructor
          · intro h
            have h7 : s[11] = luC (s.data.toList.take 11) := by simpa using h
            rw [h7, hcn]; omega
          · intro h
            have h8 : s[11] = luC (s.data.toList.take 11) := UInt8.toNat_inj.1 (by omega)
            rw [h8]
        rw [hbt]
        generalize luV (expB (s.data.toList.take 11)) = V at hv hid2 ⊢
        generalize (s[11].toNat : Int) = S at hd hid2 ⊢
        have hm : (S - 48) % 256 = S - 48 := by omega
        rw [hm]
        simp only [giroref05_Check.j3]
        by_cases hV : S - 48 = V
        · rw [if_neg (by rw [hV]; simp), if_neg (by decide)]
          exact ⟨_, _, rfl, by simp [hid2.2 hV]⟩
        · rw [if_pos (by simpa using hV)]
          refine ⟨_, _, rfl, ?_⟩
          have : ¬ idv 0 s = true := fun h => hV (hid2.1 h)
          simp [this]
      · rw [if_neg h0]
        simp only [giroref05_Check.j3]
        have h3 : ¬ q = 3 := by rcases hq with h | h | h <;> omega
        rw [if_neg (by decide), if_neg h3]
        refine ⟨_, _, rfl, ?_⟩
        have : idv q s = true := by unfold idv; rw [hp, Bool.true_and, Bool.or_eq_true]; exact .inl (by simpa using h0)
        simp [this]
theorem chk_loop (q : Int) (hq : QOK q) (s : ByteArray) (hs : s.size ≤ 281474976710656) : ∀ (d i k : Nat), i + d = (spanL (idG q)).length → 2 * d + 2000 < k → Hand.ChkTo (spanL (idG q)) s i →
    ∃ a e, giroref05_Check.l0 k q s (idS q : Int) ((spanL (idG q)).length : Int) (i : Int) = some (a, e) ∧ (e = 0 ↔ idv q s = true)
  | 0, i, k, h, hk, hc => by
    obtain ⟨k, rfl⟩ : ∃ m, k = m + 1 := ⟨k - 1, by omega⟩
    have hi : i = (spanL (idG q)).length := by omega
    simp only [giroref05_Check.l0]
    have hend := chk_end q hq s (i : Int) (fun j h1 h2 => hc j (by omega) h2) k (by omega)
    by_cases h1 : (i : Int) < (s.size : Int)
    · rw [if_pos h1, show decide ((i : Int) < ((spanL (idG q)).length : Int)) = false from decide_eq_false (by omega)]
      exact hend
    · rw [if_neg h1]; exact hend
  | d + 1, i, k, h, hk, hc => by
    obtain ⟨k, rfl⟩ : ∃ m, k = m + 1 := ⟨k - 1, by omega⟩
    have hi : i < (spanL (idG q)).length := by omega
    simp only [giroref05_Check.l0]
    by_cases h1 : i < s.size
    · rw [if_pos (by omega), show decide ((i : Int) < ((spanL (idG q)).length : Int)) = true from decide_eq_true (by omega)]
      obtain ⟨k, rfl⟩ : ∃ m, k = m + 1 := ⟨k - 1, by omega⟩
      have c0 : (0 : Int) ≤ (i : Int) := by omega
      have c1 : (i : Int) < (s.size : Int) := by omega
      have w2 : wrap64 ((i : Int) + 1) = ((i + 1 : Nat) : Int) := by unfold wrap64; omega
      simp only [giroref05_Check.j2]
      rw [if_pos True.intro, if_pos c0, if_pos c1, bt_get s i h1, may_q q hq i hi, Option.bind_some, w2]
      cases hv : prOf ((spanL (idG q)).getD i 0) (s[i].toNat : Int) with
      | true =>
        rw [if_pos rfl]
        exact chk_loop q hq s hs d (i + 1) k (by omega) (by omega) (Hand.chk_snoc hc (fun _ => hv))
      | false =>
        rw [if_neg (by decide)]
        refine ⟨_, _, rfl, ?_⟩
        have : idv q s = false := idv_bad' (by rw [Hand.pref_bad hi h1 hv]; decide)
        rw [this]; decide
    · rw [if_neg (by omega)]
      exact chk_end q hq s (i : Int) (fun j h3 h4 => hc j (by omega) h4) k (by omega)
theorem rcheck_f (q : Int) (hq : QOK q) (s : ByteArray) (hs : s.size ≤ 281474976710656) (k : Nat) (hk : 3000 < k) : ∃ a e, giroref05_Check.f k q s = some (a, e) ∧ (e = 0 ↔ idv q s = true) := by
  obtain ⟨k, rfl⟩ : ∃ m, k = m + 1 := ⟨k - 1, by omega⟩
  have hn : (spanL (idG q)).length ≤ 16 := by rcases hq with rfl | rfl | rfl <;> decide
  have h0 : ¬ q < 0 := by rcases hq with h | h | h <;> omega
  have h3 : decide (q > 3) = false := decide_eq_false (by rcases hq with h | h | h <;> omega)
  unfold giroref05_Check.f
  rw [if_neg h0, h3]
  simp only [giroref05_Check.j0]
  rw [if_neg (by decide), lens_f q hq, Option.bind_some]
  exact chk_loop q hq s hs (spanL (idG q)).length 0 k (by omega) (by omega) (fun j h => by omega)
theorem rvalid_f (q : Int) (hq : QOK q) (s : ByteArray) (hs : s.size ≤ 281474976710656) (k : Nat) (hk : 3000 < k) : giroref23_valid.f k q s = some (idv q s) := by
  obtain ⟨a, e, h1, h2⟩ := rcheck_f q hq s hs k hk
  unfold giroref23_valid.f
  rw [h1, Option.bind_some]
  congr 1
  rw [Bool.eq_iff_iff, beq_iff_eq]
  exact h2
end Go.Proofs.YtpclapnmiacfpaaDoor.Q
end
section
set_option linter.unusedVariables false
namespace Go.Proofs.YtpclapnmiacfpaaDoor.Q
open Go.RowKit Go.Proofs.YtpclapnmiacfpaaDoorW.PrintWords Go.Proofs.YtpclapnmiacfpaaDoorW.PrintLast Go.Proofs.YtpclapnmiacfpaaDoorW.PrintMore
open Hand (idv)
def inB (n lo hi : Int) : Bool := decide (lo ≤ n) && decide (n ≤ hi)
theorem inB_iff (n lo hi : Int) : inB n lo hi = true ↔ lo ≤ n ∧ n ≤ hi := by simp [inB]
def tc7 (b : Bool) (r0 r1 : ByteArray) : Int := if b = true then 2 else if idv 2 r0 && idv 2 r1 then 0 else 6
def tc5 (b : Bool) (q : Int) (pa : Bool) (ml : Int) (r0 r1 : ByteArray) : Int := if b = true then 2 else tc7 (if pa then !(inB ml 1 q) else ml != 0) r0 r1
def tc4 (b : Bool) (q pr : Int) (pa : Bool) (ml : Int) (r0 r1 : ByteArray) : Int := if b = true then 28 else tc5 (!(inB pr 0 2)) q pa ml r0 r1
def tc3 (b : Bool) (q td sd pr : Int) (pa : Bool) (ml : Int) (r0 r1 : ByteArray) : Int := if b = true then 2 else tc4 (!(inB sd 0 73048) || !(inB td 0 sd)) q pr pa ml r0 r1
def tc1 (b : Bool) (kd : Int) (dl rc aa : ByteArray) (q am td sd pr : Int) (pa : Bool) (ml : Int) (r0 r1 : ByteArray) : Int :=
  if b = true then 6 else if dl.toList = rc.toList then 1 else if idv 0 aa then (if inB q 1 1000000000000000 then tc3 (if kd = 1 then !(inB am 1 1000000000000000) else kd == 2 && am != 0) q td sd pr pa ml r0 r1 else 2) else 6
def tc (kd : Int) (dl rc aa : ByteArray) (q am td sd pr : Int) (pa : Bool) (ml : Int) (r0 r1 : ByteArray) : Int :=
  if kd = 1 ∨ kd = 2 then tc1 (!(idv 1 dl && idv 1 rc)) kd dl rc aa q am td sd pr pa ml r0 r1 else 11
def Sz (s : ByteArray) : Prop := s.size ≤ 281474976710656
theorem valid_f (q : Int) (hq : QOK q) (s : ByteArray) (hs : Sz s) : ident_Valid.f q s = some (idv q s) := by
  unfold ident_Valid.f; rw [if_pos ⟨hq, hs⟩]
theorem m1_f (s : ByteArray) (hs : Sz s) : matching_Trade_Check_1.f s = some (idv 1 s) := by
  unfold matching_Trade_Check_1.f; rw [valid_f 1 (.inr (.inl rfl)) s hs]; rfl
theorem m2_f (s : ByteArray) (hs : Sz s) : matching_Trade_Check_2.f s = some (idv 2 s) := by
  unfold matching_Trade_Check_2.f; rw [valid_f 2 (.inr (.inr rfl)) s hs]; rfl
theorem mw_f (n lo hi : Int) : matching_within.f n lo hi = some (inB n lo hi) := by
  unfold matching_within.f inB
  by_cases h : lo ≤ n
  · rw [if_pos h]; simp [h]
  · rw [if_neg h]; simp [h]
section
variable (kd : Int) (dl rc aa : ByteArray) (q am td sd pr : Int) (pa : Bool) (ml : Int) (r0 r1 : ByteArray) (h0 : Sz r0) (h1 : Sz r1)
include h0 h1
theorem mj7 (b : Bool) (k : Nat) : matching_Trade_Check.j7 (k + 1) b kd dl rc aa q am td sd pr pa ml r0 r1 = some (tc7 b r0 r1) := by
  simp only [matching_Trade_Check.j7]
  unfold tc7
  cases b with
  | true => rfl
  | false =>
    rw [if_neg Bool.false_ne_true, if_neg Bool.false_ne_true, m2_f r0 h0, m2_f r1 h1]
    simp only [Option.bind_some]
    cases idv 2 r0 <;> cases idv 2 r1 <;> rfl
theorem mj6 (b : Bool) (k : Nat) : matching_Trade_Check.j6 (k + 2) b kd dl rc aa q am td sd pr pa ml r0 r1 = some (tc7 (b || (!pa && ml != 0)) r0 r1) := by
  simp only [matching_Trade_Check.j6]
  cases b with
  | true => rw [if_pos (rfl : true = true), mj7 _ _ _ _ _ _ _ _ _ _ _ _ _ h0 h1]; rfl
  | false =>
    rw [if_neg Bool.false_ne_true]
    cases pa with
    | true => rw [if_pos (rfl : true = true), mj7 _ _ _ _ _ _ _ _ _ _ _ _ _ h0 h1]; rfl
    | false => rw [if_neg Bool.false_ne_true, mj7 _ _ _ _ _ _ _ _ _ _ _ _ _ h0 h1]; rfl
theorem mj5 (b : Bool) (k : Nat) : matching_Trade_Check.j5 (k + 3) b kd dl rc aa q am td sd pr pa ml r0 r1 = some (tc5 b q pa ml r0 r1) := by
  simp only [matching_Trade_Check.j5]
  unfold tc5
  cases b with
  | true => rfl
  | false =>
    rw [if_neg Bool.false_ne_true, if_neg Bool.false_ne_true]
    cases pa with
    | true => rw [if_pos (rfl : true = true), mw_f, Option.bind_some, mj6 _ _ _ _ _ _ _ _ _ _ _ _ _ h0 h1]; simp
    | false => rw [if_neg Bool.false_ne_true, mj6 _ _ _ _ _ _ _ _ _ _ _ _ _ h0 h1]; simp
theorem mj4 (b : Bool) (k : Nat) : matching_Trade_Check.j4 (k + 4) b kd dl rc aa q am td sd pr pa ml r0 r1 = some (tc4 b q pr pa ml r0 r1) := by
  simp only [matching_Trade_Check.j4]
  unfold tc4
  cases b with
  | true => rfl
  | false =>
    rw [if_neg Bool.false_ne_true, if_neg Bool.false_ne_true]
    by_cases h : pr < 0
    · rw [if_pos h, mj5 _ _ _ _ _ _ _ _ _ _ _ _ _ h0 h1, show (!(inB pr 0 2)) = true from by simp [inB]; omega]
    · rw [if_neg h, mj5 _ _ _ _ _ _ _ _ _ _ _ _ _ h0 h1]
      congr 2
      rw [Bool.eq_iff_iff]; simp [inB]; omega
theorem mj3 (b : Bool) (k : Nat) : matching_Trade_Check.j3 (k + 5) b kd dl rc aa q am td sd pr pa ml r0 r1 = some (tc3 b q td sd pr pa ml r0 r1) := by
  simp only [matching_Trade_Check.j3]
  unfold tc3
  cases b with
  | true => rfl
  | false =>
    rw [if_neg Bool.false_ne_true, if_neg Bool.false_ne_true]
    by_cases g1 : sd < 0
    · rw [if_pos g1, mj4 _ _ _ _ _ _ _ _ _ _ _ _ _ h0 h1, show (!(inB sd 0 73048) || !(inB td 0 sd)) = true from by simp [inB]; omega]
    · rw [if_neg g1]
      by_cases g2 : sd > 73048
      · rw [if_pos g2, mj4 _ _ _ _ _ _ _ _ _ _ _ _ _ h0 h1, show (!(inB sd 0 73048) || !(inB td 0 sd)) = true from by simp [inB]; omega]
      · rw [if_neg g2]
        by_cases g3 : td < 0
        · rw [if_pos g3, mj4 _ _ _ _ _ _ _ _ _ _ _ _ _ h0 h1, show (!(inB sd 0 73048) || !(inB td 0 sd)) = true from by simp [inB]; omega]
        · rw [if_neg g3, mj4 _ _ _ _ _ _ _ _ _ _ _ _ _ h0 h1]
          congr 2
          rw [Bool.eq_iff_iff]; simp [inB]; omega
theorem mj2 (b : Bool) (k : Nat) : matching_Trade_Check.j2 (k + 6) b kd dl rc aa q am td sd pr pa ml r0 r1 = some (tc3 (b || (kd == 2 && am != 0)) q td sd pr pa ml r0 r1) := by
  simp only [matching_Trade_Check.j2]
  cases b with
  | true => rw [if_pos (rfl : true = true), mj3 _ _ _ _ _ _ _ _ _ _ _ _ _ h0 h1]; rfl
  | false =>
    rw [if_neg Bool.false_ne_true]
    by_cases g : kd = 2
    · rw [if_pos g, mj3 _ _ _ _ _ _ _ _ _ _ _ _ _ h0 h1, g]; rfl
    · rw [if_neg g, mj3 _ _ _ _ _ _ _ _ _ _ _ _ _ h0 h1, beq_eq_false_iff_ne.2 g]; rfl
theorem mj1 (ha : Sz aa) (b : Bool) (k : Nat) : matching_Trade_Check.j1 (k + 7) b kd dl rc aa q am td sd pr pa ml r0 r1 = some (tc1 b kd dl rc aa q am td sd pr pa ml r0 r1) := by
  simp only [matching_Trade_Check.j1]
  unfold tc1
  cases b with
  | true => rfl
  | false =>
    rw [if_neg Bool.false_ne_true, if_neg Bool.false_ne_true]
    by_cases g : dl.toList = rc.toList
    · rw [if_pos g, if_pos g]
    · rw [if_neg g, if_neg g, valid_f 0 (.inl rfl) aa ha, Option.bind_some]
      cases idv 0 aa with
      | false => rfl
      | true =>
        rw [if_pos (rfl : true = true), if_pos (rfl : true = true), mw_f, Option.bind_some]
        cases inB q 1 1000000000000000 with
        | false => rfl
        | true =>
          rw [if_pos (rfl : true = true), if_pos (rfl : true = true)]
          by_cases g1 : kd = 1
          · rw [if_pos g1, if_pos g1, mw_f, Option.bind_some, mj2 _ _ _ _ _ _ _ _ _ _ _ _ _ h0 h1, g1]
            simp
          · rw [if_neg g1, if_neg g1, mj2 _ _ _ _ _ _ _ _ _ _ _ _ _ h0 h1]
            simp
theorem mcheck_f (hd : Sz dl) (hr : Sz rc) (ha : Sz aa) (k : Nat) (hk : 10 < k) : matching_Trade_Check.f k kd dl rc aa q am td sd pr pa ml r0 r1 = some (tc kd dl rc aa q am td sd pr pa ml r0 r1) := by
  obtain ⟨k, rfl⟩ : ∃ m, k = m + 8 := ⟨k - 8, by omega⟩
  have key : ∀ b, matching_Trade_Check.j0 (k + 8) b kd dl rc aa q am td sd pr pa ml r0 r1 = some (if b = true then 11 else tc1 (!(idv 1 dl && idv 1 rc)) kd dl rc aa q am td sd pr pa ml r0 r1) := by
    intro b
    simp only [matching_Trade_Check.j0]
    cases b with
    | true => rfl
    | false =>
      rw [if_neg Bool.false_ne_true, if_neg Bool.false_ne_true, m1_f dl hd, m1_f rc hr]
      simp only [Option.bind_some]
      cases idv 1 dl with
      | false => rw [if_neg Bool.false_ne_true, mj1 _ _ _ _ _ _ _ _ _ _ _ _ _ h0 h1 ha]; rfl
      | true => rw [if_pos (rfl : true = true), mj1 _ _ _ _ _ _ _ _ _ _ _ _ _ h0 h1 ha]; rfl
  unfold matching_Trade_Check.f tc
  by_cases g : kd = 1
  · rw [if_pos g, key, if_neg Bool.false_ne_true, if_pos (.inl g)]
  · rw [if_neg g, key]
    by_cases g2 : kd = 2
    · rw [if_neg (by simp [g2]), if_pos (.inr g2)]
    · rw [if_pos (by simpa using g2), if_neg (by simp [g, g2])]
end
end Go.Proofs.YtpclapnmiacfpaaDoor.Q
end
section
set_option linter.unusedVariables false
namespace Go.Proofs.YtpclapnmiacfpaaDoor.Q
open Go.RowKit Go.Proofs.YtpclapnmiacfpaaDoorW.PrintWords Go.Proofs.YtpclapnmiacfpaaDoorW.PrintLast Go.Proofs.YtpclapnmiacfpaaDoorW.PrintMore
open Hand (idv)
section
variable (kd : Int) (dl rc aa : ByteArray) (q am td sd pr : Int) (pa : Bool) (ml : Int) (r0 r1 : ByteArray) (h0 : Sz r0) (h1 : Sz r1)
include h0 h1
theorem rj5 (b : Bool) (k : Nat) (hk : 3000 < k) : giroref23_Check.j5 (k + 1) b kd dl rc aa q am td sd pr pa ml r0 r1 = some (tc7 b r0 r1) := by
  simp only [giroref23_Check.j5]
  unfold tc7
  cases b with
  | true => rfl
  | false =>
    rw [if_neg Bool.false_ne_true, if_neg Bool.false_ne_true, rvalid_f 2 (.inr (.inr rfl)) r0 h0 k hk, rvalid_f 2 (.inr (.inr rfl)) r1 h1 k hk]
    simp only [Option.bind_some]
    cases idv 2 r0 <;> cases idv 2 r1 <;> rfl
theorem rj4 (b : Bool) (k : Nat) (hk : 3000 < k) : giroref23_Check.j4 (k + 2) b kd dl rc aa q am td sd pr pa ml r0 r1 = some (tc5 b q pa ml r0 r1) := by
  simp only [giroref23_Check.j4]
  unfold tc5
  cases b with
  | true => rfl
  | false =>
    rw [if_neg Bool.false_ne_true, if_neg Bool.false_ne_true]
    cases pa with
    | true =>
      rw [if_pos (rfl : true = true), if_pos (rfl : true = true)]
      by_cases g1 : ml < 1
      · rw [if_pos g1, rj5 _ _ _ _ _ _ _ _ _ _ _ _ _ h0 h1 _ _ hk, show (!(inB ml 1 q)) = true from by simp [inB]; omega]
      · rw [if_neg g1]
        by_cases g2 : ml > q
        · rw [if_pos g2, rj5 _ _ _ _ _ _ _ _ _ _ _ _ _ h0 h1 _ _ hk, show (!(inB ml 1 q)) = true from by simp [inB]; omega]
        · rw [if_neg g2, rj5 _ _ _ _ _ _ _ _ _ _ _ _ _ h0 h1 _ _ hk, show (!(inB ml 1 q)) = false from by simp [inB]; omega]
    | false => rw [if_neg Bool.false_ne_true, rj5 _ _ _ _ _ _ _ _ _ _ _ _ _ h0 h1 _ _ hk, if_neg Bool.false_ne_true]
theorem rj3 (b : Bool) (k : Nat) (hk : 3000 < k) : giroref23_Check.j3 (k + 3) b kd dl rc aa q am td sd pr pa ml r0 r1 = some (tc4 b q pr pa ml r0 r1) := by
  simp only [giroref23_Check.j3]
  unfold tc4
  cases b with
  | true => rfl
  | false =>
    rw [if_neg Bool.false_ne_true, if_neg Bool.false_ne_true]
    by_cases h : pr < 0
    · rw [if_pos h, rj4 _ _ _ _ _ _ _ _ _ _ _ _ _ h0 h1 _ _ hk, show (!(inB pr 0 2)) = true from by simp [inB]; omega]
    · rw [if_neg h, rj4 _ _ _ _ _ _ _ _ _ _ _ _ _ h0 h1 _ _ hk]
      congr 2
      rw [Bool.eq_iff_iff]; simp [inB]; omega
theorem rj2 (b : Bool) (k : Nat) (hk : 3000 < k) : giroref23_Check.j2 (k + 4) b kd dl rc aa q am td sd pr pa ml r0 r1 = some (tc3 b q td sd pr pa ml r0 r1) := by
  simp only [giroref23_Check.j2]
  unfold tc3
  cases b with
  | true => rfl
  | false =>
    rw [if_neg Bool.false_ne_true, if_neg Bool.false_ne_true]
    by_cases g1 : sd < 0
    · rw [if_pos g1, rj3 _ _ _ _ _ _ _ _ _ _ _ _ _ h0 h1 _ _ hk, show (!(inB sd 0 73048) || !(inB td 0 sd)) = true from by simp [inB]; omega]
    · rw [if_neg g1]
      by_cases g2 : sd > 73048
      · rw [if_pos g2, rj3 _ _ _ _ _ _ _ _ _ _ _ _ _ h0 h1 _ _ hk, show (!(inB sd 0 73048) || !(inB td 0 sd)) = true from by simp [inB]; omega]
      · rw [if_neg g2]
        by_cases g3 : td < 0
        · rw [if_pos g3, rj3 _ _ _ _ _ _ _ _ _ _ _ _ _ h0 h1 _ _ hk, show (!(inB sd 0 73048) || !(inB td 0 sd)) = true from by simp [inB]; omega]
        · rw [if_neg g3, rj3 _ _ _ _ _ _ _ _ _ _ _ _ _ h0 h1 _ _ hk]
          congr 2
          rw [Bool.eq_iff_iff]; simp [inB]; omega
theorem rj1 (ha : Sz aa) (b : Bool) (k : Nat) (hk : 3000 < k) : giroref23_Check.j1 (k + 5) b kd dl rc aa q am td sd pr pa ml r0 r1 = some (tc1 b kd dl rc aa q am td sd pr pa ml r0 r1) := by
  simp only [giroref23_Check.j1]
  unfold tc1
  cases b with
  | true => rfl
  | false =>
    rw [if_neg Bool.false_ne_true, if_neg Bool.false_ne_true]
    by_cases g : dl.toList = rc.toList
    · rw [if_pos g, if_pos g]
    · rw [if_neg g, if_neg g, rvalid_f 0 (.inl rfl) aa ha _ (by omega), Option.bind_some]
      cases idv 0 aa with
      | false => rfl
      | true =>
        rw [if_pos (rfl : true = true), if_pos (rfl : true = true)]
        by_cases g1 : q < 1
        · rw [if_pos g1, rj2 _ _ _ _ _ _ _ _ _ _ _ _ _ h0 h1 _ _ hk, show inB q 1 1000000000000000 = false from by simp [inB]; omega]
          rfl
        · rw [if_neg g1]
          by_cases g2 : q > 1000000000000000
          · rw [if_pos g2, rj2 _ _ _ _ _ _ _ _ _ _ _ _ _ h0 h1 _ _ hk, show inB q 1 1000000000000000 = false from by simp [inB]; omega]
            rfl
          · rw [if_neg g2, show inB q 1 1000000000000000 = true from by simp [inB]; omega, if_pos (rfl : true = true)]
            by_cases g3 : kd = 1
            · rw [if_pos g3, if_pos g3]
              have n2 : ¬ kd = 2 := by omega
              by_cases g4 : am < 1
              · rw [if_pos g4, rj2 _ _ _ _ _ _ _ _ _ _ _ _ _ h0 h1 _ _ hk, show (!(inB am 1 1000000000000000)) = true from by simp [inB]; omega]
              · rw [if_neg g4]
                by_cases g5 : am > 1000000000000000
                · rw [if_pos g5, rj2 _ _ _ _ _ _ _ _ _ _ _ _ _ h0 h1 _ _ hk, show (!(inB am 1 1000000000000000)) = true from by simp [inB]; omega]
                · rw [if_neg g5, if_neg n2, rj2 _ _ _ _ _ _ _ _ _ _ _ _ _ h0 h1 _ _ hk, show (!(inB am 1 1000000000000000)) = false from by simp [inB]; omega]
            · rw [if_neg g3, if_neg g3]
              by_cases g4 : kd = 2
              · rw [if_pos g4, rj2 _ _ _ _ _ _ _ _ _ _ _ _ _ h0 h1 _ _ hk, beq_iff_eq.2 g4]; rfl
              · rw [if_neg g4, rj2 _ _ _ _ _ _ _ _ _ _ _ _ _ h0 h1 _ _ hk, beq_eq_false_iff_ne.2 g4]; rfl
theorem rcheck23_f (hd : Sz dl) (hr : Sz rc) (ha : Sz aa) (k : Nat) (hk : 4000 < k) : giroref23_Check.f k kd dl rc aa q am td sd pr pa ml r0 r1 = some (tc kd dl rc aa q am td sd pr pa ml r0 r1) := by
  obtain ⟨k, rfl⟩ : ∃ m, k = m + 6 := ⟨k - 6, by omega⟩
  have key : ∀ b, giroref23_Check.j0 (k + 6) b kd dl rc aa q am td sd pr pa ml r0 r1 = some (if b = true then 11 else tc1 (!(idv 1 dl && idv 1 rc)) kd dl rc aa q am td sd pr pa ml r0 r1) := by
    intro b
    simp only [giroref23_Check.j0]
    cases b with
    | true => rfl
    | false =>
      rw [if_neg Bool.false_ne_true, if_neg Bool.false_ne_true, rvalid_f 1 (.inr (.inl rfl)) dl hd _ (by omega), rvalid_f 1 (.inr (.inl rfl)) rc hr _ (by omega)]
      simp only [Option.bind_some]
      cases idv 1 dl with
      | false => rw [if_neg Bool.false_ne_true, rj1 _ _ _ _ _ _ _ _ _ _ _ _ _ h0 h1 ha _ _ (by omega)]; rfl
      | true => rw [if_pos (rfl : true = true), rj1 _ _ _ _ _ _ _ _ _ _ _ _ _ h0 h1 ha _ _ (by omega)]; rfl
  unfold giroref23_Check.f tc
  by_cases g : kd = 1
  · rw [if_pos g, key, if_neg Bool.false_ne_true, if_pos (.inl g)]
  · rw [if_neg g, key]
    by_cases g2 : kd = 2
    · rw [if_neg (by simp [g2]), if_pos (.inr g2)]
    · rw [if_pos (by simpa using g2), if_neg (by simp [g, g2])]
end
end Go.Proofs.YtpclapnmiacfpaaDoor.Q
end
section
set_option linter.unusedVariables false
namespace Go.Proofs.YtpclapnmiacfpaaDoor.Q
open Go.RowKit Go.Proofs.YtpclapnmiacfpaaDoor.Hand Go.Proofs.YtpclapnmiacfpaaDoorW.PrintWords Go.Proofs.YtpclapnmiacfpaaDoorW.PrintLast Go.Proofs.YtpclapnmiacfpaaDoorW.PrintMore
abbrev RP := S77
abbrev RL := S49
def convP (p : SP) : RP := ⟨⟨p.f0.f0, p.f0.f1, p.f0.f2⟩, p.f1⟩
def convL (l : SL) : RL := ⟨l.f0, l.f1, l.f2, l.f3⟩
theorem nat_wrap (j : Nat) (h : j < 4611686018427387904) : wrap64 ((j : Int) + 1) = ((j + 1 : Nat) : Int) := by
  unfold wrap64
  omega
theorem p15_l (ps : List SP) (hl : ps.length < 2932031007402) : ∀ (k j : Nat), j ≤ ps.length → ps.length - j < k → girolaw15_Postings.l0 k ps ((ps.take j).map convP) (j : Int) = some (ps.map convP)
  | 0, j, h1, h2 => by omega
  | k + 1, j, h1, h2 => by
    simp only [girolaw15_Postings.l0]
    by_cases h : j < ps.length
    · rw [if_pos (by omega : (j : Int) < (ps.length : Int)), if_pos (by omega : (0 : Int) ≤ (j : Int))]
      simp only [girolaw15_To.f, Option.bind_some]
      rw [if_pos (by rw [List.length_map, List.length_take]; omega), nat_wrap j (by omega), ← p15_l ps hl k (j + 1) (by omega) (by omega), take_snoc ps j _ h rfl, List.map_append]
      rfl
    · rw [if_neg (by omega)]
      have e : j = ps.length := by omega
      rw [e, List.take_length]
theorem p15_f (ps : List SP) (hl : ps.length < 2932031007402) (k : Nat) (hk : ps.length < k) : girolaw15_Postings.f k ps = some (ps.map convP) := by
  have := p15_l ps hl k 0 (Nat.zero_le _) (by omega)
  simpa [girolaw15_Postings.f] using this
theorem same_l (xs : List RP) (hl : xs.length < 4611686018427387904) : ∀ (k j : Nat), j ≤ xs.length → xs.length - j < k → girolaw39_same.l0 k xs xs (j : Int) = some true
  | 0, j, h1, h2 => by omega
  | k + 1, j, h1, h2 => by
    simp only [girolaw39_same.l0]
    by_cases h : j < xs.length
    · rw [if_pos (by omega : (j : Int) < (xs.length : Int)), if_pos (by omega : (0 : Int) ≤ (j : Int)), if_pos (by omega : (j : Int) < (xs.length : Int)), if_neg (by simp), nat_wrap j (by omega)]
      exact same_l xs hl k (j + 1) (by omega) (by omega)
    · rw [if_neg (by omega)]
theorem same_f (xs : List RP) (hl : xs.length < 4611686018427387904) (k : Nat) (hk : xs.length < k) : girolaw39_same.f k xs xs = some true := by
  unfold girolaw39_same.f
  rw [if_pos rfl]
  exact same_l xs hl k 0 (Nat.zero_le _) (by omega)
section
variable (kd : Int) (dl rc aa : ByteArray) (q am td sd pr : Int) (pa : Bool) (ml : Int) (r0 r1 : ByteArray)
def legsD : List SL := if kd = 1 then [⟨dl, rc, aa, q⟩, ⟨rc, dl, ⟨#[67, 65, 83, 72]⟩, am⟩] else [⟨dl, rc, aa, q⟩]
theorem legs_f : delivery_legs.f kd dl rc aa q am td sd pr pa ml r0 r1 = some (legsD kd dl rc aa q am) := by
  unfold delivery_legs.f legsD
  simp only [Option.bind_some]
  by_cases h : kd = 1
  · rw [if_pos h, if_pos h, if_pos (by simp)]
    rfl
  · rw [if_neg h, if_neg h]
theorem legsR_f : giroref39_Legs.f kd dl rc aa q am td sd pr pa ml r0 r1 = some ((legsD kd dl rc aa q am).map convL) := by
  unfold giroref39_Legs.f legsD
  simp only [Option.bind_some]
  by_cases h : kd = 1
  · rw [if_pos h, if_pos h, if_pos (by simp)]
    rfl
  · rw [if_neg h, if_neg h]
    rfl
theorem legsD_len : (legsD kd dl rc aa q am).length ≤ 2 := by
  unfold legsD
  split <;> simp
variable (h0 : Sz r0) (h1 : Sz r1) (hd : Sz dl) (hr : Sz rc) (ha : Sz aa)
include h0 h1 hd hr ha in
theorem dPost_f (a1 : Int) : delivery_Postings.f kd dl rc aa q am td sd pr pa ml r0 r1 a1 = if tc kd dl rc aa q am td sd pr pa ml r0 r1 = 0 then (if a1 = 0 ∨ a1 = 2 then some (posts a1 (legsD kd dl rc aa q am), 0) else some ([], 11)) else some ([], tc kd dl rc aa q am td sd pr pa ml r0 r1) := by
  unfold delivery_Postings.f
  rw [mcheck_f _ _ _ _ _ _ _ _ _ _ _ _ _ h0 h1 hd hr ha rounds (by decide), Option.bind_some, legs_f, Option.bind_some, if_pos (legsD_len _ _ _ _ _ _)]
theorem rPost_f (a1 : Int) (k : Nat) (hk : 3 < k) : giroref39_Postings.f k kd dl rc aa q am td sd pr pa ml r0 r1 a1 = some ((posts a1 (legsD kd dl rc aa q am)).map convP) := by
  unfold giroref39_Postings.f
  rw [legsR_f, Option.bind_some]
  obtain ⟨k, rfl⟩ : ∃ m, k = m + 3 := ⟨k - 3, by omega⟩
  unfold legsD
  by_cases h : kd = 1
  · rw [if_pos h]
    simp [giroref39_Postings.l0, posts, mv, convP, convL, rd_T49, i64_w, wrap64]
  · rw [if_neg h]
    simp [giroref39_Postings.l0, posts, mv, convP, convL, rd_T49, i64_w, wrap64]
end
def kA : ByteArray := ⟨#[66, 65, 78, 75, 65]⟩
def kB : ByteArray := ⟨#[66, 65, 78, 75, 66]⟩
def kI : ByteArray := ⟨#[85, 83, 48, 51, 55, 56, 51, 51, 49, 48, 48, 53]⟩
def kC : ByteArray := ⟨#[67, 65, 83, 72]⟩
def kD : ByteArray := ⟨#[68, 49]⟩
def kR : ByteArray := ⟨#[82, 49]⟩
def kPs : List SP := [⟨⟨kA, 0, kI⟩, -100⟩, ⟨⟨kB, 0, kI⟩, 100⟩, ⟨⟨kB, 0, kC⟩, -2500000⟩, ⟨⟨kA, 0, kC⟩, 2500000⟩]
theorem k_tc : tc 1 kA kB kI 100 2500000 9812 9816 0 false 0 kD kR = 0 := by kernel_rfl
theorem k_posts : posts 0 (legsD 1 kA kB kI 100 2500000) = kPs := by kernel_rfl
theorem k_vs : delivery_Versus.f kPs = some true := by
  unfold delivery_Versus.f delivery_Decompose.f
  kernel_rfl
theorem known_f (k : Nat) (hk : 100 < k) : girolaw39_known.f k = some true := by
  have hp : delivery_Postings.f 1 kA kB kI 100 2500000 9812 9816 0 false 0 kD kR 0 = some (kPs, 0) := by
    rw [dPost_f _ _ _ _ _ _ _ _ _ _ _ _ _ (by unfold Sz; decide) (by unfold Sz; decide) (by unfold Sz; decide) (by unfold Sz; decide) (by unfold Sz; decide), k_tc, if_pos rfl, if_pos (.inl rfl), k_posts]
  have h1 := p15_f kPs (by decide) k (by show 4 < k; omega)
  have h2 := same_f (kPs.map convP) (by decide) k (by show 4 < k; omega)
  have e : girolaw39_known.f k = (delivery_Postings.f 1 kA kB kI 100 2500000 9812 9816 0 false 0 kD kR 0).bind fun bt114 => (if bt114.2 = 0 then ((girolaw15_Postings.f k bt114.1).bind fun t121 => ((girolaw15_Postings.f k kPs).bind fun t124 => ((girolaw39_same.f k t121 t124).bind fun t127 => (if t127 = true then ((delivery_Versus.f bt114.1).bind fun t128 => (some t128)) else (some false))))) else (some false)) := rfl
  rw [e, hp, Option.bind_some]
  simp only [h1, h2, k_vs, Option.bind_some, if_true]
section
variable (kd : Int) (dl rc aa : ByteArray) (q am td sd pr : Int) (pa : Bool) (ml : Int) (r0 r1 : ByteArray)
variable (h0 : Sz r0) (h1 : Sz r1) (hd : Sz dl) (hr : Sz rc) (ha : Sz aa)
theorem posts_le (a1 : Int) : (posts a1 (legsD kd dl rc aa q am)).length ≤ 4 := by
  have := legsD_len kd dl rc aa q am
  rw [posts_len]
  omega
include h0 h1 hd hr ha in
theorem law_postings (a1 : Int) (k : Nat) (hk : 5000 < k) : girolaw39_DeliveryPostings.f k kd dl rc aa q am td sd pr pa ml r0 r1 a1 = some true := by
  have hP := dPost_f kd dl rc aa q am td sd pr pa ml r0 r1 h0 h1 hd hr ha a1
  obtain ⟨k, rfl⟩ : ∃ m, k = m + 2 := ⟨k - 2, by omega⟩
  unfold girolaw39_DeliveryPostings.f
  rw [known_f _ (by omega), Option.bind_some, if_pos rfl, rcheck23_f _ _ _ _ _ _ _ _ _ _ _ _ _ h0 h1 hd hr ha _ (by omega), Option.bind_some]
  generalize tc kd dl rc aa q am td sd pr pa ml r0 r1 = c at hP ⊢
  by_cases hc : c = 0
  · rw [if_pos hc]
    rw [if_pos hc] at hP
    by_cases h : a1 = 0 ∨ a1 = 2
    · rw [if_pos h] at hP
      have e : (if a1 = 0 then girolaw39_DeliveryPostings.j0 (k + 2) a1 c false kd dl rc aa q am td sd pr pa ml r0 r1 else girolaw39_DeliveryPostings.j0 (k + 2) a1 c (a1 != 2) kd dl rc aa q am td sd pr pa ml r0 r1) = girolaw39_DeliveryPostings.j0 (k + 2) a1 c false kd dl rc aa q am td sd pr pa ml r0 r1 := by
        rcases h with h | h
        · rw [if_pos h]
        · have : (a1 != 2) = false := by simp [h]
          rw [this]
          split <;> rfl
      rw [e]
      simp only [girolaw39_DeliveryPostings.j0, girolaw39_DeliveryPostings.j1, girolaw23_Of.f, Option.bind_some, Bool.false_eq_true, if_false]
      rw [hP, Option.bind_some, if_pos hc]
      have hl := posts_le kd dl rc aa q am a1
      simp only [if_true]
      rw [p15_f _ (by omega) _ (by omega), Option.bind_some, rPost_f _ _ _ _ _ _ _ _ _ _ _ _ _ _ _ (by omega), Option.bind_some, same_f _ (by rw [List.length_map]; omega) _ (by rw [List.length_map]; omega), Option.bind_some]
    · rw [if_neg h] at hP
      have n0 : ¬ a1 = 0 := fun e => h (.inl e)
      have n2 : (a1 != 2) = true := bne_iff_ne.mpr (fun e => h (.inr e))
      rw [if_neg n0, n2]
      simp only [girolaw39_DeliveryPostings.j0, girolaw39_DeliveryPostings.j1, girolaw23_Of.f, Option.bind_some, if_true]
      rw [hP, Option.bind_some]
      simp
  · rw [if_neg hc]
    rw [if_neg hc] at hP
    simp only [girolaw39_DeliveryPostings.j0, girolaw39_DeliveryPostings.j1, girolaw23_Of.f, Option.bind_some, Bool.false_eq_true, if_false]
    rw [hP, Option.bind_some, if_neg hc]
    simp
end
end Go.Proofs.YtpclapnmiacfpaaDoor.Q
end
section
namespace Go.Proofs.YtpclapnmiacfpaaDoor
open Go.ChangeShapes Go.WideShapes Go.ChangeAt Go.RowKit
set_option linter.unusedVariables false
set_option maxRecDepth 100000 in
theorem postings_lifted (os : Os) (started : os.Started) (H : Type) (enc : TypeId × Value → H) :
    ReturnsInHanded {} Tryd.checked os 3 .any (fun w args => (Rows.deliveryPostingsSpec.pre enc Tryd.prog Tryd.f3 [] false w args ∧ laidMetH Tryd.prog Rows.deliveryPostingsRow.laid w) ∧ sizedMet enc Tryd.prog Tryd.f3 (OpenSpec.ofChange Rows.deliveryPostingsSpec) false w args)
      (Rows.deliveryPostingsSpec.post enc Tryd.prog Tryd.f3 false true false false) := by
  refine returnsInHanded_of_change_and (C := Tryd.checked) (X := fun w _ => laidMetH Tryd.prog Rows.deliveryPostingsRow.laid w) (fun _ _ _ hh h => h.of_heap hh) own started (by kernel_rfl) Tryd.func3
    (ChangeSpec.witness_shaped (enc := enc) (C := Tryd.checked) (os := os) (X := fun w _ => laidMetH Tryd.prog Rows.deliveryPostingsRow.laid w) false (World.doorLaid Tryd.prog 400 os) #[.agg #[.int .i64 0, .string ByteArray.empty, .string ByteArray.empty, .string ByteArray.empty, .int .i64 0, .int .i64 0, .int .i64 0, .int .i64 0, .int .i64 0, .bool false, .int .i64 0, .string ByteArray.empty, .string ByteArray.empty], .int .i64 0] 8 rfl (World.shaped_of_RefB (by kernel_rfl) (by kernel_rfl)) (by kernel_rfl) (by kernel_rfl) (by kernel_rfl) (door_met os _)) ?_
  intro W base args ds gs before hval0 hW hcnd0 hsz0 hL hh
  have hsz : (DataW.weightsEach Tryd.prog (Tryd.f3.params.toList ++ Rows.deliveryPostingsSpec.plain.varTypes Tryd.prog) (ds ++ gs)).all (· ≤ reachBytes) = true := hsz0
  have hval : ∀ (j : Nat) t v, Tryd.f3.params[j]? = some t → args[j]? = some v → Value.okWide Tryd.prog W .any base t v := hval0
  have hW' := hW
  obtain ⟨p, q, hA0, hV, rfl, hfz, hnd⟩ := hW
  have hA : DataW.TrodAll enc Tryd.prog W 0 (fun _ => true) true Tryd.f3.params.toList args.toList ds p := hA0
  rw [Tryd.params3] at hA hval hsz
  obtain ⟨v0, v1, d0, d1, p0, p1, rfl, rfl, rfl, h0, h1⟩ := trodAll_two hA
  obtain ⟨rfl, rfl⟩ := trodVars_none hV
  have k0 := h0
  have lt0 : ∀ x ∈ p0, x.block < W.heap.size := by obtain ⟨m, hm⟩ := k0; exact DataW.trod_lt m _ _ _ hm
  obtain ⟨a0, b0, b1, b2, b3, b4, b5, b6, b7, b8, b9, b10, b11, rfl, hs⟩ := trade_open (hval 0 _ v0 rfl rfl) h0
  obtain ⟨a1, rfl, rfl, rfl, w1⟩ := open_int Tryd.underlying3 (hval 1 _ v1 rfl rfl) h1
  have hsize : ∀ s, s = b0 ∨ s = b1 ∨ s = b2 ∨ s = b10 ∨ s = b11 → Q.Sz s := fun s h => by
    have h2 := List.all_eq_true.1 hsz s.size (DataW.weights_mem_each (j := 0) rfl rfl _ (hs s h))
    have h3 : s.size ≤ reachBytes := by simpa using h2
    have := reachBytes_lt
    unfold Q.Sz
    omega
  clear hA0 hval0 hsz0 hsz
  have hlaw := Q.law_postings a0 b0 b1 b2 b3 b4 b5 b6 b7 b8 b9 b10 b11 (hsize _ (by simp)) (hsize _ (by simp)) (hsize _ (by simp)) (hsize _ (by simp)) (hsize _ (by simp)) a1 5001 (by decide)
  refine (Q.girolaw39_DeliveryPostings.calls 5001 a0 b0 b1 b2 b3 b4 b5 b6 b7 b8 b9 b10 b11 a1 true W hlaw).mono fun e W' ⟨he, bel⟩ => ?_
  subst he
  exact ⟨_, rfl, _, _, _, [], _, [], hW', trodAll_mk1 (shut_bool Tryd.underlying4 _), (trodAll_cons_mk (Below.trod laidOut (by kernel_rfl) (of_decide_eq_true (by kernel_rfl)) k0 bel lt0) (trodAll_cons_mk (shut_int Tryd.underlying3 w1) trodAll_mk0)), rfl, bel.frame _, fun h => by cases h⟩
theorem postings_holds : Rows.DeliveryPostingsSaid :=
  OpenClaim.holds_of_wide 3 Tryd.f3 rfl rfl rfl rfl rfl rfl rfl ⟨rfl, rfl, rfl, rfl, rfl⟩ rfl rfl rfl rfl rfl (by kernel_rfl) Tryd.func3 (by kernel_rfl)
    (of_decide_eq_true (by kernel_rfl)) (by unfold Func.isWrapper; first | (rw [if_pos (by decide +kernel)]; kernel_rfl) | (rw [if_neg (by decide +kernel)]; exact ⟨rfl, rfl⟩))
    (fun os started H enc _ => postings_lifted os started H enc)
theorem postings_card : Rows.DeliveryPostingsCardSaid :=
  Claim7.holds_tied_plain_at .later [] [.data, .data, .data] true (true, "506942008ba414b330f5c06cf87070577cb0f70e75d9183dd8bfb508c2bbb3da") false
    postings_holds (fun _ h => by cases h) (by kernel_rfl) (fun _ h => by cases h) deliveryPostings_row_tie rfl ⟨rfl, rfl⟩ (by kernel_rfl) rfl
    (fun f fn hf hfn => by
      obtain rfl : f = 3 := Option.some.inj ((show Tryd.prog.funcNamed "giro/girolaw39.DeliveryPostings" = some 3 by kernel_rfl).symm.trans hf) |>.symm
      obtain rfl : fn = Tryd.f3 := (Option.some.inj (Tryd.func3.symm.trans hfn)).symm
      exact ⟨by kernel_rfl, fun j t ht => by
        rw [Tryd.params3] at ht
        have hm : t ∈ [24, 3] := by simpa using Array.mem_of_getElem? ht
        have hall : ([24, 3].all fun u => !Tryd.prog.wantsStandIn u) = true := by kernel_rfl
        exact (show Tryd.prog.wantsStandIn t = false by simpa using List.all_eq_true.1 hall t hm)⟩)
    (by kernel_rfl)
end Go.Proofs.YtpclapnmiacfpaaDoor
end
