/- Lemmas for the card of DeliveryDecompose: contracts of the functions that the law reaches. Conditions: each lemma's own. Laid together out of this session's texts. -/
import Derived.Test.YtpclapnmiacfpaaDoorZ0
import Derived.Test.YtpclapnmiacfpaaDoorRows
import Derived.ProofKit
import Derived.LaidMore
import Derived.OpenShut
import Derived.SizedLaws
import Derived.Stop.Joined
import Derived.Maps.OwnSet
import Derived.Maps.Ext
import Derived.Sort.KeysCollected
import Derived.Test.YtpclapnmiacfpaaDoorProg
import Derived.Lib.Strings
import Derived.Lib.Slices
import Derived.Lib.Walk
import Derived.Lib.Builder
import Derived.Lib.AppendStr
import Derived.Lib.UnsafeStr
import Derived.Lib.MakeNoZero
import Derived.WalkKit
import Derived.Laws.Externs
import Derived.Laws.IdiomCopy
import Derived.Laws.BitsLemmas
import Derived.KernelRfl
import Derived.Lib.ItoaNum
import Derived.Shelf.Strings.Builder1
import Derived.Shelf.Strings.BuilderF
import Derived.Shelf.Strings.BuilderK
import Derived.Shelf.Strconv.Itoa0
import Derived.Shelf.Strconv.Itoa1
import Derived.Shelf.LaysM
import Derived.Shelf.Strconv.Itoa2
import Derived.Shelf.Strconv.Itoa3
import Derived.Shelf.Sort.Plain
import Derived.Shelf.Slices.Turned
import Derived.Ground.Names2Prog
import Derived.Shelf.Slices.Clone
import Derived.Ground.SlgmProg
import Derived.Shelf.SortM.SortNone
import Derived.IntWalk
import Derived.Laws.Rows
import Derived.Lib.Hide
import Derived.Laws.EntriesVeiled
import Derived.Maps.AppendAt
import Derived.Lib.OwnKind
import Derived.Deep.RegionHeld3
import Derived.Deep.AppendLies
import Derived.WalkSpells
import Derived.Deep.DeepMust
import Derived.Outline
import Derived.Below
import Derived.Deep.Draws
import Derived.OwnWalk
import Derived.Laws.BytesArg
import Derived.Laws.MakeOwn
import Derived.Laws.OwnMore
import Derived.Deep.OwnRows
import Derived.Tactics
import Derived.Lib.ConvBytes
import Derived.Laws.Slices
import Derived.RowKit3
import Derived.Deep.LoopGhost
import Derived.Deep.QuietTactic
import Derived.BigQuiet
import Derived.WideLaws
import Derived.Deep.DeepCutAuto
import Derived.Deep.CutBlock
import Derived.ArgAppend
import Derived.OrdersHeld
import Derived.RowKit
import Derived.StillTactics
set_option linter.unusedVariables false
set_option linter.unusedSimpArgs false
section
namespace Go.Proofs.YtpclapnmiacfpaaDoor
open Go.ChangeShapes Go.WideShapes Go.ChangeAt Go.RowKit
set_option linter.unusedVariables false
theorem own : ownKnob Tryd.prog.godebug = none := by kernel_rfl
theorem laidOut : laidOutB Tryd.prog = true := by kernel_rfl
theorem door_met (os : Os) (args : Array Value) : laidMetH Tryd.prog Rows.deliveryPostingsRow.laid ((World.doorLaid Tryd.prog 400 os).forCall (fun _ _ => 0) ⟨#[], args, []⟩).memory :=
  laidMetH_of_parts3 (fuel := 8) (laidMet_of_run' 8 (by kernel_rfl) (by kernel_rfl)) (by kernel_rfl) (by kernel_rfl)
theorem array13 {α : Type} {cs : Array α} (h : cs.size = 13) : ∃ c0 c1 c2 c3 c4 c5 c6 c7 c8 c9 c10 c11 c12, cs = #[c0, c1, c2, c3, c4, c5, c6, c7, c8, c9, c10, c11, c12] := by
  obtain ⟨l⟩ := cs
  match l, h with
  | [c0, c1, c2, c3, c4, c5, c6, c7, c8, c9, c10, c11, c12], _ => exact ⟨c0, c1, c2, c3, c4, c5, c6, c7, c8, c9, c10, c11, c12, rfl⟩
theorem list12 {α : Type} {l : List α} (h : l.length = 12) : ∃ c0 c1 c2 c3 c4 c5 c6 c7 c8 c9 c10 c11, l = [c0, c1, c2, c3, c4, c5, c6, c7, c8, c9, c10, c11] := by
  match l, h with
  | [c0, c1, c2, c3, c4, c5, c6, c7, c8, c9, c10, c11], _ => exact ⟨c0, c1, c2, c3, c4, c5, c6, c7, c8, c9, c10, c11, rfl⟩
theorem list2 {α : Type} {l : List α} (h : l.length = 2) : ∃ c0 c1, l = [c0, c1] := by
  match l, h with
  | [c0, c1], _ => exact ⟨c0, c1, rfl⟩
theorem cellsT : Tryd.prog.cellsOf 24 = 13 := by kernel_rfl
theorem cells2 : Tryd.prog.cellsOf 3 = 1 := by kernel_rfl
theorem cells9 : Tryd.prog.cellsOf 9 = 1 := by kernel_rfl
theorem cells22 : Tryd.prog.cellsOf 22 = 2 := by kernel_rfl
theorem cells64 : Tryd.prog.cellsOf 2 = 1 := by kernel_rfl
theorem cells4 : Tryd.prog.cellsOf 4 = 1 := by kernel_rfl
set_option maxRecDepth 100000 in
theorem trade_open {H : Type} {enc : TypeId × Value → H} {W : World} {base : Nat} {sp : Nat → Bool} {held : Bool} {r : Reach} {b0 : Nat} {v : Value} {d : DataW H} {p : List MemPlace}
    (hv : Value.okWide Tryd.prog W r b0 24 v) (h : DataW.Trod enc Tryd.prog W base sp held 24 v d p) :
    ∃ (a0_0 : Int) (a0_1 a0_2 a0_3 : ByteArray) (a0_4 a0_5 a0_6 a0_7 a0_8 : Int) (a0_9 : Bool) (a0_10 : Int) (a0_11 a0_12 : ByteArray),
      v = .agg #[.int .i64 a0_0, .string a0_1, .string a0_2, .string a0_3, .int .i64 a0_4, .int .i64 a0_5, .int .i64 a0_6, .int .i64 a0_7, .int .i64 a0_8, .bool a0_9, .int .i64 a0_10, .string a0_11, .string a0_12] ∧
      ∀ s, s = a0_1 ∨ s = a0_2 ∨ s = a0_3 ∨ s = a0_11 ∨ s = a0_12 → s.size ∈ d.weights Tryd.prog 24 := by
  obtain ⟨cs, rfl, hsz⟩ := okWide_struct Tryd.underlying24 hv
  obtain ⟨c0, c1, c2, c3, c4, c5, c6, c7, c8, c9, c10, c11, c12, rfl⟩ := array13 (hsz.trans cellsT)
  obtain ⟨fuel, hf⟩ := h
  obtain ⟨xs, n, _, hx, _, hlen, hel⟩ := DataW.trod_struct Tryd.underlying24 hf
  obtain ⟨y0, y1, y2, y3, y4, y5, y6, y7, y8, y9, y10, y11, rfl⟩ := list12 hlen
  have e0 := hel 0 _ rfl
  have e1 := hel 1 _ rfl
  have e2 := hel 2 _ rfl
  have e3 := hel 3 _ rfl
  have e4 := hel 4 _ rfl
  have e5 := hel 5 _ rfl
  have e6 := hel 6 _ rfl
  have e7 := hel 7 _ rfl
  have e8 := hel 8 _ rfl
  have e9 := hel 9 _ rfl
  have e10 := hel 10 _ rfl
  have e11 := hel 11 _ rfl
  clear hel hlen hsz hf hv
  simp only [cells2, cells9, cells22, cells64, cells4, Value.cells] at e0 e1 e2 e3 e4 e5 e6 e7 e8 e9 e10 e11
  obtain ⟨a0, q0, rfl, _⟩ := DataW.trod_int Tryd.underlying3 (x := y0) e0
  obtain ⟨a1, q1, rfl, _⟩ := DataW.trod_string Tryd.underlying9 (x := y1) e1
  obtain ⟨a2, q2, rfl, _⟩ := DataW.trod_string Tryd.underlying9 (x := y2) e2
  obtain ⟨a3, q3, rfl, _⟩ := DataW.trod_string Tryd.underlying9 (x := y3) e3
  obtain ⟨a4, q4, rfl, _⟩ := DataW.trod_int Tryd.underlying2 (x := y4) e4
  obtain ⟨a5, q5, rfl, _⟩ := DataW.trod_int Tryd.underlying2 (x := y5) e5
  obtain ⟨a6, q6, rfl, _⟩ := DataW.trod_int Tryd.underlying3 (x := y6) e6
  obtain ⟨a7, q7, rfl, _⟩ := DataW.trod_int Tryd.underlying3 (x := y7) e7
  obtain ⟨a8, q8, rfl, _⟩ := DataW.trod_int Tryd.underlying3 (x := y8) e8
  obtain ⟨a9, q9, rfl⟩ := DataW.trod_bool Tryd.underlying4 (x := y9) e9
  obtain ⟨a10, q10, rfl, _⟩ := DataW.trod_int Tryd.underlying2 (x := y10) e10
  obtain ⟨zs, m, _, rfl, _, hz, hze⟩ := DataW.trod_array Tryd.underlying22 (x := y11) e11
  obtain ⟨z0, z1, rfl⟩ := list2 hz
  have f0 := hze 0 (by decide)
  have f1 := hze 1 (by decide)
  simp only [cells9] at f0 f1
  obtain ⟨a11, q11, rfl, _⟩ := DataW.trod_string Tryd.underlying9 (x := z0) f0
  obtain ⟨a12, q12, rfl, _⟩ := DataW.trod_string Tryd.underlying9 (x := z1) f1
  simp [cells2, cells9, cells22, cells64, cells4] at q0 q1 q2 q3 q4 q5 q6 q7 q8 q9 q10 q11 q12
  subst q0 q1 q2 q3 q4 q5 q6 q7 q8 q9 q10 q11 q12
  obtain ⟨rfl, _⟩ := Prod.mk.inj hx
  refine ⟨a0, a1, a2, a3, a4, a5, a6, a7, a8, a9, a10, a11, a12, rfl, fun s hs => ?_⟩
  simp only [List.map_cons, List.map_nil, DataW.weights, Tryd.underlying24, Tryd.underlying22, DataW.weightsEach, DataW.weightsAll, Array.length_toList]
  rcases hs with rfl | rfl | rfl | rfl | rfl <;> simp only [ByteArray.size, List.mem_append, List.mem_cons, List.not_mem_nil, or_false, false_or, true_or, or_true, List.append_nil, List.nil_append, List.cons_append]
end Go.Proofs.YtpclapnmiacfpaaDoor
end
section
set_option linter.unusedVariables false
namespace Go.Proofs.YtpclapnmiacfpaaDoor.Hand
open Go.RowKit Go.Maps
def RV (v : Value) : Option (DataW Value × List MemPlace) := some (.held v, [])
theorem RV_inv {v u : Value} {ps : List MemPlace} (h : RV v = some (.held u, ps)) : v = u := by
  simp only [RV, Option.some.injEq, Prod.mk.injEq, DataW.held.injEq] at h
  exact h.1
section
variable {α : Type} (k : α → List UInt8) (enc : α → Value)
def putAll (xs : List α) (D : DataW Value) : DataW Value := xs.foldl (fun D x => D.put (.string (k x)) (.held (enc x))) D
def mapOf (xs : List α) : DataW Value := putAll k enc xs (.map [])
theorem mapOf_nil : mapOf k enc [] = .map [] := rfl
theorem mapOf_snoc (xs : List α) (x : α) : mapOf k enc (xs ++ [x]) = (mapOf k enc xs).put (.string (k x)) (.held (enc x)) := by
  simp [mapOf, putAll, List.foldl_append]
theorem tidy_putAll : ∀ (xs : List α) (D : DataW Value), Tidy D → Tidy (putAll k enc xs D)
  | [], D, h => h
  | x :: xs, D, h => tidy_putAll xs _ (h.put (show WideAt.IsKeyLit (.string _) from trivial) _)
theorem tidy_mapOf (xs : List α) : Tidy (mapOf k enc xs) := tidy_putAll k enc xs _ tidy_empty
theorem has_putAll (s : List UInt8) : ∀ (xs : List α) (D : DataW Value), IsMap D → (has (putAll k enc xs D) (.string s) = true ↔ has D (.string s) = true ∨ ∃ x ∈ xs, k x = s)
  | [], D, h => by simp [putAll]
  | x :: xs, D, h => by
    refine (has_putAll s xs (D.put (.string (k x)) (.held (enc x))) (h.put _ _)).trans ?_
    by_cases e : k x = s
    · subst e
      rw [has_put_same h (k := .string _) (show WideAt.IsKeyLit (.string _) from trivial)]
      simp
    · rw [has_put_other (fun e2 => e (by injection e2 with e2; exact e2.symm))]
      simp [e]
theorem has_mapOf (s : List UInt8) (xs : List α) : has (mapOf k enc xs) (.string s) = true ↔ ∃ x ∈ xs, k x = s := by
  refine (has_putAll k enc s xs _ isMap_empty).trans ?_
  simp [has]
theorem atKey_far (s : List UInt8) (z : DataW Value) : ∀ (xs : List α) (D : DataW Value), (∀ x ∈ xs, k x ≠ s) → (putAll k enc xs D).atKey (.string s) z = D.atKey (.string s) z
  | [], D, h => rfl
  | x :: xs, D, h => (atKey_far s z xs (D.put (.string (k x)) (.held (enc x))) (fun y hy => h y (List.mem_cons_of_mem _ hy))).trans (atKey_put_other (fun e2 => h x (List.mem_cons_self ..) (by injection e2 with e2; exact e2.symm)) _ _)
theorem atKey_putAll (z : DataW Value) (x : α) : ∀ (xs : List α) (D : DataW Value), IsMap D → x ∈ xs → (xs.map k).Nodup → (putAll k enc xs D).atKey (.string (k x)) z = .held (enc x)
  | [], D, h, hx, _ => by simp at hx
  | y :: xs, D, h, hx, hn => by
    rw [List.map_cons, List.nodup_cons] at hn
    rcases List.mem_cons.1 hx with rfl | hx
    · refine (atKey_far k enc (k x) z xs (D.put (.string (k x)) (.held (enc x))) (fun y hy e => hn.1 (e ▸ List.mem_map_of_mem hy))).trans ?_
      exact atKey_put_same h (show WideAt.IsKeyLit (.string _) from trivial) _ _
    · exact atKey_putAll z x xs (D.put (.string (k y)) (.held (enc y))) (h.put _ _) hx hn.2
theorem atKey_mapOf (z : DataW Value) (x : α) (xs : List α) (hx : x ∈ xs) (hn : (xs.map k).Nodup) : (mapOf k enc xs).atKey (.string (k x)) z = .held (enc x) := atKey_putAll k enc z x xs _ isMap_empty hx hn
theorem size_putAll : ∀ (xs : List α) (D : DataW Value), Tidy D → (xs.map k).Nodup → (∀ x ∈ xs, has D (.string (k x)) = false) → Maps.size (putAll k enc xs D) = Maps.size D + xs.length
  | [], D, h, _, _ => rfl
  | y :: xs, D, h, hn, hf => by
    rw [List.map_cons, List.nodup_cons] at hn
    refine (size_putAll xs (D.put (.string (k y)) (.held (enc y))) (h.put (show WideAt.IsKeyLit (.string _) from trivial) _) hn.2 (fun x hx => ?_)).trans ?_
    · rw [has_put_other (fun e2 => hn.1 (by injection e2 with e2; exact e2 ▸ List.mem_map_of_mem hx))]
      exact hf x (List.mem_cons_of_mem _ hx)
    · rw [size_put h, hf y (List.mem_cons_self ..)]
      simp
      omega
theorem size_mapOf (xs : List α) (hn : (xs.map k).Nodup) : Maps.size (mapOf k enc xs) = xs.length := by
  refine (size_putAll k enc xs _ tidy_empty hn (fun x _ => rfl)).trans ?_
  simp [Maps.size]
theorem strKeys_mapOf (xs : List α) (hn : (xs.map k).Nodup) (hs : ∀ es, mapOf k enc xs = .map es → ∀ p ∈ es, ∃ x, p.1 = .string x) : (xs.map k).Perm (Go.strKeys (mapOf k enc xs)) := by
  obtain ⟨es, e, hp⟩ := tidy_mapOf k enc xs
  rw [e]
  refine Go.perm_strKeys hp (hs es e) hn (fun s => ?_)
  rw [← e, has_mapOf, List.mem_map]
end
end Go.Proofs.YtpclapnmiacfpaaDoor.Hand
end
section
namespace Go.Proofs.YtpclapnmiacfpaaDoor.Hand
open Go.RowKit
theorem sizeBuilder : (Tryd.prog.info? 151).map (·.size) = some 2 := by kernel_rfl
theorem liesBuilder : liesAt Tryd.prog Tryd.prog.depth 151 (2 / Tryd.prog.cellsOf 151) 0 151 1 = true := by kernel_rfl
theorem infoByte : (Tryd.prog.info? 5).map (fun i => (i.zero, i.size, i.bytes)) = some (some (.int .u8 0), 1, 1) := by kernel_rfl
set_option maxHeartbeats 1000000 in
set_option maxRecDepth 100000 in
theorem copyCheck_used (b : Nat) (w : World) (h0 : w.cell? ⟨b, 0, none⟩ = some (.pointer (some ⟨b, 0, none⟩))) :
    Calls Tryd.prog 102 #[.pointer (some ⟨b, 0, none⟩)] w fun e w' => e = .returned (.tuple #[]) ∧ w' = w := by
  obtain ⟨j, hj, _⟩ := Option.map_eq_some_iff.1 sizeBuilder
  go_enter Tryd.func102, Tryd.ntmps102
  go_wp2
  rw [Lib.run_neq_ptr_same w _ Tryd.underlying149 hj]
  go_wp2
  go_end0
  exact ⟨rfl, rfl⟩
set_option maxHeartbeats 1000000 in
set_option maxRecDepth 100000 in
theorem copyCheck_fresh (b : Nat) (w : World) (h0 : w.cell? ⟨b, 0, none⟩ = some (.pointer none)) (hsh : w.shape? b = some (151, 2)) (hfz : w.frozen? ⟨b, 0, none⟩ = false) :
    Calls Tryd.prog 102 #[.pointer (some ⟨b, 0, none⟩)] w fun e w' => e = .returned (.tuple #[]) ∧ w' = w.setCell ⟨b, 0, none⟩ (.pointer (some ⟨b, 0, none⟩)) := by
  obtain ⟨j, hj, hjs⟩ := Option.map_eq_some_iff.1 sizeBuilder
  go_enter Tryd.func102, Tryd.ntmps102
  go_wp2
  rw [Lib.run_to_unsafe w ⟨b, 0, none⟩ Tryd.underlying149 Tryd.underlying160 hj (by rw [hjs]; decide) hsh (Nat.zero_lt_succ 1)]
  simp only [Result.andThen]
  rw [Oper.upon_value]
  go_wp2
  rw [run_callFunc_extern Tryd.func104 (by kernel_rfl) (by kernel_rfl) (by kernel_rfl) (e := Extern.AbiNoEscape.same) (by kernel_rfl)]
  rw [Lib.run_noEscape]
  simp only [Result.andThen]
  rw [Oper.upon_value]
  go_wp2
  rw [Lib.run_from_unsafe w ⟨b, 0, none⟩ Tryd.underlying160 Tryd.underlying149 hj hsh liesBuilder]
  simp only [Result.andThen]
  rw [Oper.upon_value]
  go_wp2
  go_end0
  exact ⟨rfl, rfl⟩
theorem copyCheck (B b : Nat) (bs : List Value) (w : World) (h : Lib.IsBuilder 151 5 B b bs w) :
    Calls Tryd.prog 102 #[.pointer (some ⟨b, 0, none⟩)] w fun e w' => e = .returned (.tuple #[]) ∧ (Lib.BuilderAt 151 5 B b (.pointer (some ⟨b, 0, none⟩)) bs w' ∧ Below B w w') := by
  rcases h with h | h
  · refine (copyCheck_fresh b w h.cell0 h.shape h.frozen0).mono ?_
    rintro e w' ⟨rfl, rfl⟩
    exact ⟨rfl, h.used _, (Below.refl B w).setCell (p := ⟨b, 0, none⟩) h.1 _⟩
  · refine (copyCheck_used b w h.cell0).mono ?_
    rintro e w' ⟨rfl, rfl⟩
    exact ⟨rfl, h, Below.refl B _⟩
set_option maxHeartbeats 2000000 in
set_option maxRecDepth 100000 in
theorem WriteByte (B b : Nat) (bs : List Value) (c : Int) (w : World) (h : Lib.IsBuilder 151 5 B b bs w) (hlen : bs.length + 1 ≤ 140737488355328) (hBw : B ≤ w.heap.size) :
    Calls Tryd.prog 98 #[.pointer (some ⟨b, 0, none⟩), .int .u8 c] w fun e w' => e = .returned .nilIface ∧ (Lib.BuilderAt 151 5 B b (.pointer (some ⟨b, 0, none⟩)) (bs ++ [.int .u8 c]) w' ∧ Below B w w') := by
  obtain ⟨i0, hi, hz0, hz1, hz2⟩ := info_parts infoByte
  go_enter Tryd.func98, Tryd.ntmps98
  go_wp2_with (go_at_call 102; refine (copyCheck B b bs _ h).mono ?_)
  rintro e w1 ⟨rfl, h1, hb1⟩
  obtain ⟨hB, v, hbk, hown, hne⟩ := h1
  have c0 : w1.cell? ⟨b, 0, none⟩ = some (.pointer (some ⟨b, 0, none⟩)) := by rw [Lib.cell_of_heap hbk]; rfl
  have c1 : w1.cell? ⟨b, 1, none⟩ = some v := by rw [Lib.cell_of_heap hbk]; rfl
  go_wp2_with (at_builtin; refine wpList_append_own _ rfl _ _ 115 rfl B 5 i0 (.int .u8 0) 1 1 Tryd.underlying115 hi hz0 hz1 hz2 rfl (by decide) _ _ _ rfl (hown.alloc _) ⟨w1.heap.size, 0, none⟩ 1 1 [.int .u8 c] rfl rfl ?c1 ?c2 ?c3 ?c4 ?c5 ?_)
  case c1 =>
    intro j u hj
    match j, hj with
    | 0, hj => simp at hj; subst hj; simp [Addr.add]
  case c2 => intro u hu; simp at hu; subst hu; rfl
  case c3 => unfold maxLen; omega
  case c4 => omega
  case c5 => have := hb1.size; simp; omega
  intro v' w2 hown' hgrow _
  have hlt : b < w1.heap.size := by
    rcases Nat.lt_or_ge b w1.heap.size with h' | h'
    · exact h'
    · simp [Array.getElem?_eq_none h'] at hbk
  have hb2 : w2.heap[b]? = some (.cells #[.pointer (some ⟨b, 0, none⟩), v] 151 (0, 0)) := by
    rw [hgrow.block b (by simp; omega) (fun e => hne e.symm), Lib.alloc_old w1 _ b hlt]
    exact hbk
  have d0 : w2.cell? ⟨b, 0, none⟩ = some (.pointer (some ⟨b, 0, none⟩)) := by rw [Lib.cell_of_heap hb2]; rfl
  have d1 : w2.cell? ⟨b, 1, none⟩ = some v := by rw [Lib.cell_of_heap hb2]; rfl
  have f1 : w2.frozen? ⟨b, 1, none⟩ = false := Lib.frozen_of_heap hb2 1
  obtain ⟨g, cap, rfl⟩ : ∃ g cap, v' = .slice (some ⟨g, 0, none⟩) (bs.length + 1) cap := by
    rcases hown'.2 with ⟨_, h0⟩ | ⟨g, cap, cur, hv, _⟩
    · omega
    · exact ⟨g, cap, hv⟩
  go_wp2
  go_ret
  refine ⟨rfl, ?_, ?_⟩
  · exact Lib.BuilderAt.put (T := 151) (e := 5) hB hb2 (bs' := bs ++ [.int .u8 c]) (by simpa using hown') (by decide)
  · exact ((hb1.alloc (by have := hb1.size; omega) _).grown hgrow (by have := hb1.size; simp; omega) (fun k hk => (hown.lt k hk).1)).setCell (p := ⟨b, 1, none⟩) hB _
set_option maxHeartbeats 2000000 in
set_option maxRecDepth 100000 in
theorem WriteString (B b : Nat) (bs : List Value) (s : ByteArray) (w : World) (h : Lib.IsBuilder 151 5 B b bs w) (hlen : bs.length + s.size ≤ 140737488355328) (hBw : B ≤ w.heap.size) :
    Calls Tryd.prog 99 #[.pointer (some ⟨b, 0, none⟩), .string s] w fun e w' => e = .returned (.tuple #[.int .i64 s.size, .nilIface]) ∧ (Lib.BuilderAt 151 5 B b (.pointer (some ⟨b, 0, none⟩)) (bs ++ Lib.strCells s) w' ∧ Below B w w') := by
  obtain ⟨i0, hi, hz0, hz1, hz2⟩ := info_parts infoByte
  go_enter Tryd.func99, Tryd.ntmps99
  go_wp2_with (go_at_call 102; refine (copyCheck B b bs _ h).mono ?_)
  rintro e w1 ⟨rfl, h1, hb1⟩
  obtain ⟨hB, v, hbk, hown, hne⟩ := h1
  have c0 : w1.cell? ⟨b, 0, none⟩ = some (.pointer (some ⟨b, 0, none⟩)) := by rw [Lib.cell_of_heap hbk]; rfl
  have c1 : w1.cell? ⟨b, 1, none⟩ = some v := by rw [Lib.cell_of_heap hbk]; rfl
  go_wp2_with (at_builtin; refine Lib.wpList_append_own_string _ rfl _ _ 115 9 rfl B 5 i0 Tryd.underlying115 Tryd.underlying9 hi hz0 hz1 hz2 _ _ _ rfl hown s rfl ?c3 ?c4 ?c5 ?_)
  case c3 => unfold maxLen; omega
  case c4 => omega
  case c5 => have := hb1.size; omega
  intro v' w2 hown' hgrow _
  have hlt : b < w1.heap.size := by
    rcases Nat.lt_or_ge b w1.heap.size with h' | h'
    · exact h'
    · simp [Array.getElem?_eq_none h'] at hbk
  have hb2 : w2.heap[b]? = some (.cells #[.pointer (some ⟨b, 0, none⟩), v] 151 (0, 0)) := by
    rw [hgrow.block b hlt (fun e => hne e.symm)]
    exact hbk
  have d0 : w2.cell? ⟨b, 0, none⟩ = some (.pointer (some ⟨b, 0, none⟩)) := by rw [Lib.cell_of_heap hb2]; rfl
  have d1 : w2.cell? ⟨b, 1, none⟩ = some v := by rw [Lib.cell_of_heap hb2]; rfl
  have f1 : w2.frozen? ⟨b, 1, none⟩ = false := Lib.frozen_of_heap hb2 1
  obtain ⟨ao, n', cap, rfl⟩ : ∃ ao n' cap, v' = .slice ao n' cap := by
    rcases hown'.2 with ⟨hv, _⟩ | ⟨g, cap, cur, hv, _⟩
    · exact ⟨_, _, _, hv⟩
    · exact ⟨_, _, _, hv⟩
  go_wp2
  go_ret2
  refine ⟨rfl, ?_, ?_⟩
  · exact Lib.BuilderAt.put (T := 151) (e := 5) hB hb2 (bs' := bs ++ Lib.strCells s) (by simpa [Lib.strCells_length] using hown') (by decide)
  · exact (hb1.grown hgrow (by have := hb1.size; omega) (fun k hk => (hown.lt k hk).1)).setCell (p := ⟨b, 1, none⟩) hB _
end Go.Proofs.YtpclapnmiacfpaaDoor.Hand
end
section
namespace Go.Proofs.YtpclapnmiacfpaaDoor.Hand
def upC (a : Int) : Bool := decide (65 ≤ a) && decide (a ≤ 90)
def dgC (a : Int) : Bool := decide (48 ≤ a) && decide (a ≤ 57)
def anC (a : Int) : Bool := upC a || dgC a
def rfC (a : Int) : Bool := anC a || (a == 45)
theorem upC_iff (a : Int) : upC a = true ↔ 65 ≤ a ∧ a ≤ 90 := by simp [upC]
theorem dgC_iff (a : Int) : dgC a = true ↔ 48 ≤ a ∧ a ≤ 57 := by simp [dgC]
theorem anC_iff (a : Int) : anC a = true ↔ (65 ≤ a ∧ a ≤ 90) ∨ (48 ≤ a ∧ a ≤ 57) := by simp [anC, upC_iff, dgC_iff]
def expC (c : UInt8) : List UInt8 := if dgC c.toNat then [c] else Go.Lib.decDigits (c.toNat - 55)
def expL (l : List UInt8) : List UInt8 := l.flatMap expC
theorem expL_nil : expL [] = [] := rfl
theorem expL_snoc (l : List UInt8) (c : UInt8) : expL (l ++ [c]) = expL l ++ expC c := by simp [expL]
theorem decDigits_small (n : Nat) (h : n < 100) : (Go.Lib.decDigits n).length ≤ 2 := by
  rw [Go.Lib.decDigits]
  split
  · simp
  · rw [Go.Lib.decDigits]
    split
    · simp
    · omega
theorem expC_len (c : UInt8) (h : anC c.toNat = true) : (expC c).length ≤ 2 := by
  unfold expC
  split
  · simp
  · refine decDigits_small _ ?_
    have := (anC_iff _).1 h
    omega
theorem expL_len (l : List UInt8) (h : ∀ c ∈ l, anC c.toNat = true) : (expL l).length ≤ 2 * l.length := by
  induction l with
  | nil => simp [expL]
  | cons c l ih =>
    have h1 := expC_len c (h c (by simp))
    have h2 := ih (fun d hd => h d (by simp [hd]))
    simp only [expL, List.flatMap_cons, List.length_append, List.length_cons] at *
    omega
theorem take_snoc' (s : ByteArray) (k : Nat) (h : k < s.size) : s.data.toList.take (k + 1) = s.data.toList.take k ++ [s[k]] := by
  rw [List.take_succ_eq_append_getElem (by simpa using h)]; rfl
theorem mem_at (s : ByteArray) (k : Nat) (h : k < s.size) : s[k] ∈ s.data.toList := by
  have : s[k] = s.data.toList[k]'(by simpa using h) := rfl
  rw [this]; exact List.getElem_mem _
end Go.Proofs.YtpclapnmiacfpaaDoor.Hand
end
section
namespace Go.Proofs
open Go.Shelf
def Tryd.lays169_ren : Go.Shelf.Ren := ⟨fun | 169 => 100 | n => n, fun | 70 => 149 | 9 => 9 | 0 => 0 | 72 => 151 | 37 => 115 | 127 => 158 | 3 => 3 | 5 => 5 | n => n, fun | n => n⟩
theorem Tryd.lays169 : Go.Proofs.Lays.n169 Tryd.prog Tryd.lays169_ren := {
  mixed := by kernel_rfl
  f169 := Tryd.func100.trans (congrArg some (by kernel_rfl))
  t0 := Tryd.underlying0
  a0 := Tryd.isAgg0
  z0 := Tryd.sizeOf0
  v0 := Tryd.zeroValue0
  t3 := Tryd.underlying3
  a3 := Tryd.isAgg3
  z3 := Tryd.sizeOf3
  v3 := Tryd.zeroValue3
  t9 := Tryd.underlying9
  a9 := Tryd.isAgg9
  z9 := Tryd.sizeOf9
  v9 := Tryd.zeroValue9
  t37 := Tryd.underlying115
  a37 := Tryd.isAgg115
  z37 := Tryd.sizeOf115
  v37 := Tryd.zeroValue115
  t70 := Tryd.underlying149
  a70 := Tryd.isAgg149
  z70 := Tryd.sizeOf149
  v70 := Tryd.zeroValue149
  t72 := Tryd.underlying151
  a72 := Tryd.isAgg151
  z72 := Tryd.sizeOf151
  v72 := Tryd.zeroValue151
  t127 := Tryd.underlying158
  a127 := Tryd.isAgg158
  z127 := Tryd.sizeOf158
  v127 := Tryd.zeroValue158 }
theorem Tryd.Builder_Extra_169 : Builder.Extra Tryd.prog Tryd.lays169_ren := {
  sizeBuilder := by kernel_rfl
  liesBuilder := by kernel_rfl
  t5 := Tryd.underlying5
  a5 := Tryd.isAgg5
  z5 := Tryd.sizeOf5
  v5 := Tryd.zeroValue5
  infoByte := by kernel_rfl
  cellsByte := by kernel_rfl
  sizeByte := by kernel_rfl
  neB5 := by decide }
open Go.RowKit in
theorem Tryd.Builder_String_any (B b : Nat) (l : List UInt8) (w : World) (h : Lib.IsBuilder 151 5 B b (Lib.byteCells l) w) (hBw : B ≤ w.heap.size) :
    Calls Tryd.prog 100 #[.pointer (some ⟨b, 0, none⟩)] w fun e w' => e = .returned (.string ⟨l.toArray⟩) ∧ Below B w w' := Any.Builder_String_any Tryd.lays169 Tryd.Builder_Extra_169 B b l w h hBw
def Tryd.laysM171_ren : Go.Shelf.Ren := ⟨fun | 171 => 96 | 243 => 101 | 246 => 103 | 283 => 105 | 284 => 106 | 285 => 107 | 286 => 108 | 129 => 82 | 317 => 109 | 318 => 110 | 319 => 111 | 320 => 112 | 337 => 113 | 338 => 114 | n => n, fun | 3 => 3 | 9 => 9 | 2 => 2 | 4 => 4 | 171 => 162 | 0 => 0 | 53 => 137 | 37 => 115 | 5 => 5 | 173 => 164 | 212 => 168 | 51 => 135 | 20 => 20 | 213 => 169 | 46 => 111 | 232 => 171 | 233 => 172 | n => n, fun | 17 => 0 | 18 => 1 | 19 => 2 | n => n⟩
theorem Tryd.laysM171 : Go.Proofs.LaysM.n171 Tryd.prog Tryd.laysM171_ren := {
  mixed := by kernel_rfl
  f129 := Tryd.func82.trans (congrArg some (by kernel_rfl))
  f171 := Tryd.func96.trans (congrArg some (by kernel_rfl))
  f243 := Tryd.func101.trans (congrArg some (by kernel_rfl))
  f246 := Tryd.func103.trans (congrArg some (by kernel_rfl))
  f283 := Tryd.func105.trans (congrArg some (by kernel_rfl))
  f284 := Tryd.func106.trans (congrArg some (by kernel_rfl))
  f285 := Tryd.func107.trans (congrArg some (by kernel_rfl))
  f286 := Tryd.func108.trans (congrArg some (by kernel_rfl))
  f317 := Tryd.func109.trans (congrArg some (by kernel_rfl))
  f318 := Tryd.func110.trans (congrArg some (by kernel_rfl))
  f319 := Tryd.func111.trans (congrArg some (by kernel_rfl))
  f320 := Tryd.func112.trans (congrArg some (by kernel_rfl))
  f337 := Tryd.func113.trans (congrArg some (by kernel_rfl))
  f338 := Tryd.func114.trans (congrArg some (by kernel_rfl))
  t0 := Tryd.underlying0
  a0 := Tryd.isAgg0
  z0 := Tryd.sizeOf0
  v0 := Tryd.zeroValue0
  t2 := Tryd.underlying2
  a2 := Tryd.isAgg2
  z2 := Tryd.sizeOf2
  v2 := Tryd.zeroValue2
  t3 := Tryd.underlying3
  a3 := Tryd.isAgg3
  z3 := Tryd.sizeOf3
  v3 := Tryd.zeroValue3
  t4 := Tryd.underlying4
  a4 := Tryd.isAgg4
  z4 := Tryd.sizeOf4
  v4 := Tryd.zeroValue4
  t5 := Tryd.underlying5
  a5 := Tryd.isAgg5
  z5 := Tryd.sizeOf5
  v5 := Tryd.zeroValue5
  t9 := Tryd.underlying9
  a9 := Tryd.isAgg9
  z9 := Tryd.sizeOf9
  v9 := Tryd.zeroValue9
  t20 := Tryd.underlying20
  a20 := Tryd.isAgg20
  z20 := Tryd.sizeOf20
  v20 := Tryd.zeroValue20
  t37 := Tryd.underlying115
  a37 := Tryd.isAgg115
  z37 := Tryd.sizeOf115
  v37 := Tryd.zeroValue115
  t46 := Tryd.underlying111
  a46 := Tryd.isAgg111
  z46 := Tryd.sizeOf111
  v46 := Tryd.zeroValue111
  t51 := Tryd.underlying135
  a51 := Tryd.isAgg135
  z51 := Tryd.sizeOf135
  v51 := Tryd.zeroValue135
  t53 := Tryd.underlying137
  a53 := Tryd.isAgg137
  z53 := Tryd.sizeOf137
  v53 := Tryd.zeroValue137
  t171 := Tryd.underlying162
  a171 := Tryd.isAgg162
  z171 := Tryd.sizeOf162
  v171 := Tryd.zeroValue162
  t173 := Tryd.underlying164
  a173 := Tryd.isAgg164
  z173 := Tryd.sizeOf164
  v173 := Tryd.zeroValue164
  t212 := Tryd.underlying168
  a212 := Tryd.isAgg168
  z212 := Tryd.sizeOf168
  v212 := Tryd.zeroValue168
  t213 := Tryd.underlying169
  a213 := Tryd.isAgg169
  z213 := Tryd.sizeOf169
  t232 := Tryd.underlying171
  a232 := Tryd.isAgg171
  z232 := Tryd.sizeOf171
  v232 := Tryd.zeroValue171
  t233 := Tryd.underlying172
  a233 := Tryd.isAgg172
  z233 := Tryd.sizeOf172
  v233 := Tryd.zeroValue172
  g17 := by kernel_rfl
  g18 := by kernel_rfl
  g19 := by kernel_rfl
  i0 := by kernel_rfl
  i2 := by kernel_rfl
  i3 := by kernel_rfl
  i4 := by kernel_rfl
  i5 := by kernel_rfl
  i9 := by kernel_rfl
  i20 := by kernel_rfl
  i37 := by kernel_rfl
  i46 := by kernel_rfl
  i51 := by kernel_rfl
  i53 := by kernel_rfl
  i171 := by kernel_rfl
  i173 := by kernel_rfl
  i212 := by kernel_rfl
  i232 := by kernel_rfl
  i233 := by kernel_rfl
  m17 := by kernel_rfl
  m18 := by kernel_rfl
  m19 := by kernel_rfl }
open Go.RowKit Go.Sort Go.Lib in
theorem Tryd.strconv_Itoa (n : Int) (h0 : -9223372036854775808 ≤ n) (h1 : n ≤ 9223372036854775807) (w : World) (htab : Lib.TabIs Tryd.prog w "internal/strconv.uint64pow10" .u64 Lib.pow10Tab) :
    Calls Tryd.prog 96 #[.int .i64 n] w fun e w' => e = .returned (.string ⟨(Lib.itoa n).toArray⟩) ∧ ∃ k os, w' = grow (w.drewN k) os := Any.strconv_Itoa Tryd.laysM171 n h0 h1 w htab
def Tryd.lays171_ren : Go.Shelf.Ren := ⟨fun | 171 => 96 | 243 => 101 | 246 => 103 | 283 => 105 | 284 => 106 | 285 => 107 | 286 => 108 | 129 => 82 | 317 => 109 | 318 => 110 | 319 => 111 | 320 => 112 | 337 => 113 | 338 => 114 | n => n, fun | 3 => 3 | 9 => 9 | 2 => 2 | 4 => 4 | 171 => 162 | 0 => 0 | 53 => 137 | 37 => 115 | 5 => 5 | 173 => 164 | 212 => 168 | 51 => 135 | 20 => 20 | 213 => 169 | 46 => 111 | 232 => 171 | 233 => 172 | n => n, fun | 17 => 0 | 18 => 1 | 19 => 2 | n => n⟩
theorem Tryd.lays171 : Go.Proofs.Lays.n171 Tryd.prog Tryd.lays171_ren := {
  mixed := by kernel_rfl
  f129 := Tryd.func82.trans (congrArg some (by kernel_rfl))
  f171 := Tryd.func96.trans (congrArg some (by kernel_rfl))
  f243 := Tryd.func101.trans (congrArg some (by kernel_rfl))
  f246 := Tryd.func103.trans (congrArg some (by kernel_rfl))
  f283 := Tryd.func105.trans (congrArg some (by kernel_rfl))
  f284 := Tryd.func106.trans (congrArg some (by kernel_rfl))
  f285 := Tryd.func107.trans (congrArg some (by kernel_rfl))
  f286 := Tryd.func108.trans (congrArg some (by kernel_rfl))
  f317 := Tryd.func109.trans (congrArg some (by kernel_rfl))
  f318 := Tryd.func110.trans (congrArg some (by kernel_rfl))
  f319 := Tryd.func111.trans (congrArg some (by kernel_rfl))
  f320 := Tryd.func112.trans (congrArg some (by kernel_rfl))
  f337 := Tryd.func113.trans (congrArg some (by kernel_rfl))
  f338 := Tryd.func114.trans (congrArg some (by kernel_rfl))
  t0 := Tryd.underlying0
  a0 := Tryd.isAgg0
  z0 := Tryd.sizeOf0
  v0 := Tryd.zeroValue0
  t2 := Tryd.underlying2
  a2 := Tryd.isAgg2
  z2 := Tryd.sizeOf2
  v2 := Tryd.zeroValue2
  t3 := Tryd.underlying3
  a3 := Tryd.isAgg3
  z3 := Tryd.sizeOf3
  v3 := Tryd.zeroValue3
  t4 := Tryd.underlying4
  a4 := Tryd.isAgg4
  z4 := Tryd.sizeOf4
  v4 := Tryd.zeroValue4
  t5 := Tryd.underlying5
  a5 := Tryd.isAgg5
  z5 := Tryd.sizeOf5
  v5 := Tryd.zeroValue5
  t9 := Tryd.underlying9
  a9 := Tryd.isAgg9
  z9 := Tryd.sizeOf9
  v9 := Tryd.zeroValue9
  t20 := Tryd.underlying20
  a20 := Tryd.isAgg20
  z20 := Tryd.sizeOf20
  v20 := Tryd.zeroValue20
  t37 := Tryd.underlying115
  a37 := Tryd.isAgg115
  z37 := Tryd.sizeOf115
  v37 := Tryd.zeroValue115
  t46 := Tryd.underlying111
  a46 := Tryd.isAgg111
  z46 := Tryd.sizeOf111
  v46 := Tryd.zeroValue111
  t51 := Tryd.underlying135
  a51 := Tryd.isAgg135
  z51 := Tryd.sizeOf135
  v51 := Tryd.zeroValue135
  t53 := Tryd.underlying137
  a53 := Tryd.isAgg137
  z53 := Tryd.sizeOf137
  v53 := Tryd.zeroValue137
  t171 := Tryd.underlying162
  a171 := Tryd.isAgg162
  z171 := Tryd.sizeOf162
  v171 := Tryd.zeroValue162
  t173 := Tryd.underlying164
  a173 := Tryd.isAgg164
  z173 := Tryd.sizeOf164
  v173 := Tryd.zeroValue164
  t212 := Tryd.underlying168
  a212 := Tryd.isAgg168
  z212 := Tryd.sizeOf168
  v212 := Tryd.zeroValue168
  t213 := Tryd.underlying169
  a213 := Tryd.isAgg169
  z213 := Tryd.sizeOf169
  t232 := Tryd.underlying171
  a232 := Tryd.isAgg171
  z232 := Tryd.sizeOf171
  v232 := Tryd.zeroValue171
  t233 := Tryd.underlying172
  a233 := Tryd.isAgg172
  z233 := Tryd.sizeOf172
  v233 := Tryd.zeroValue172
  g17 := by kernel_rfl
  g18 := by kernel_rfl
  g19 := by kernel_rfl }
open Go.RowKit Go.Sort Go.Lib in
theorem Tryd.strconv_Itoa_small (i : Nat) (hi : i < 100) (w : World) :
    Calls Tryd.prog 96 #[.int .i64 i] w fun e w' => e = .returned (.string ⟨(Lib.decDigits i).toArray⟩) ∧ w' = w := Any.strconv_Itoa_small Tryd.lays171 i hi w
def Tryd.lays190_ren : Go.Shelf.Ren := ⟨fun | 190 => 51 | 125 => 64 | 258 => 63 | 128 => 81 | 129 => 82 | 302 => 72 | 303 => 73 | 304 => 74 | 305 => 75 | 306 => 76 | 307 => 77 | 308 => 78 | 309 => 79 | 310 => 80 | 333 => 89 | 329 => 90 | 330 => 91 | 334 => 92 | 335 => 93 | 336 => 94 | 344 => 97 | n => n, fun | 31 => 83 | 9 => 9 | 3 => 3 | 46 => 111 | 0 => 0 | 51 => 135 | 53 => 137 | 4 => 4 | 183 => 127 | 182 => 126 | 131 => 132 | 5 => 5 | 218 => 141 | 222 => 145 | 228 => 147 | 229 => 91 | n => n, fun | n => n⟩
theorem Tryd.lays190 : Go.Proofs.Lays.n190 Tryd.prog Tryd.lays190_ren := {
  mixed := by kernel_rfl
  f125 := Tryd.func64.trans (congrArg some (by kernel_rfl))
  f128 := Tryd.func81.trans (congrArg some (by kernel_rfl))
  f129 := Tryd.func82.trans (congrArg some (by kernel_rfl))
  f190 := Tryd.func51.trans (congrArg some (by kernel_rfl))
  f258 := Tryd.func63.trans (congrArg some (by kernel_rfl))
  f302 := Tryd.func72.trans (congrArg some (by kernel_rfl))
  f303 := Tryd.func73.trans (congrArg some (by kernel_rfl))
  f304 := Tryd.func74.trans (congrArg some (by kernel_rfl))
  f305 := Tryd.func75.trans (congrArg some (by kernel_rfl))
  f306 := Tryd.func76.trans (congrArg some (by kernel_rfl))
  f307 := Tryd.func77.trans (congrArg some (by kernel_rfl))
  f308 := Tryd.func78.trans (congrArg some (by kernel_rfl))
  f309 := Tryd.func79.trans (congrArg some (by kernel_rfl))
  f310 := Tryd.func80.trans (congrArg some (by kernel_rfl))
  f329 := Tryd.func90.trans (congrArg some (by kernel_rfl))
  f330 := Tryd.func91.trans (congrArg some (by kernel_rfl))
  f333 := Tryd.func89.trans (congrArg some (by kernel_rfl))
  f334 := Tryd.func92.trans (congrArg some (by kernel_rfl))
  f335 := Tryd.func93.trans (congrArg some (by kernel_rfl))
  f336 := Tryd.func94.trans (congrArg some (by kernel_rfl))
  f344 := Tryd.func97.trans (congrArg some (by kernel_rfl))
  t0 := Tryd.underlying0
  a0 := Tryd.isAgg0
  z0 := Tryd.sizeOf0
  v0 := Tryd.zeroValue0
  t3 := Tryd.underlying3
  a3 := Tryd.isAgg3
  z3 := Tryd.sizeOf3
  v3 := Tryd.zeroValue3
  t4 := Tryd.underlying4
  a4 := Tryd.isAgg4
  z4 := Tryd.sizeOf4
  v4 := Tryd.zeroValue4
  t5 := Tryd.underlying5
  a5 := Tryd.isAgg5
  z5 := Tryd.sizeOf5
  v5 := Tryd.zeroValue5
  t9 := Tryd.underlying9
  a9 := Tryd.isAgg9
  z9 := Tryd.sizeOf9
  v9 := Tryd.zeroValue9
  t31 := Tryd.underlying83
  a31 := Tryd.isAgg83
  z31 := Tryd.sizeOf83
  v31 := Tryd.zeroValue83
  t46 := Tryd.underlying111
  a46 := Tryd.isAgg111
  z46 := Tryd.sizeOf111
  v46 := Tryd.zeroValue111
  t51 := Tryd.underlying135
  a51 := Tryd.isAgg135
  z51 := Tryd.sizeOf135
  v51 := Tryd.zeroValue135
  t53 := Tryd.underlying137
  a53 := Tryd.isAgg137
  z53 := Tryd.sizeOf137
  v53 := Tryd.zeroValue137
  t131 := Tryd.underlying132
  a131 := Tryd.isAgg132
  z131 := Tryd.sizeOf132
  v131 := Tryd.zeroValue132
  t182 := Tryd.underlying126
  a182 := Tryd.isAgg126
  z182 := Tryd.sizeOf126
  v182 := Tryd.zeroValue126
  t183 := Tryd.underlying127
  a183 := Tryd.isAgg127
  z183 := Tryd.sizeOf127
  v183 := Tryd.zeroValue127
  t218 := Tryd.underlying141
  a218 := Tryd.isAgg141
  z218 := Tryd.sizeOf141
  v218 := Tryd.zeroValue141
  t222 := Tryd.underlying145
  a222 := Tryd.isAgg145
  z222 := Tryd.sizeOf145
  v222 := Tryd.zeroValue145
  t228 := Tryd.underlying147
  a228 := Tryd.isAgg147
  z228 := Tryd.sizeOf147
  v228 := Tryd.zeroValue147
  t229 := Tryd.underlying91
  a229 := Tryd.isAgg91
  z229 := Tryd.sizeOf91
  v229 := Tryd.zeroValue91 }
open Go.Sort Go.RowKit in
theorem Tryd.slices_Sort_string (blk off cap : Nat) (ss : List (List UInt8)) (w : World) (hH : Holds encStr w blk off ss.toArray) (hblk : blk < w.heap.size) (hsz : ss.length < 4611686018427387904) :
    Calls Tryd.prog 51 #[.slice (some ⟨blk, off, none⟩) ss.length cap] w fun e w' =>
      e = .returned (.tuple #[]) ∧ ∃ n os, w' = grow (putRow encStr (Sort.ahead w n) blk off (ss.mergeSort fun x y => decide (x ≤ y)).toArray) os := Any.slices_Sort_string Tryd.lays190 blk off cap ss w hH hblk hsz
def Tryd.laysSlM6_f51_ren : Go.Shelf.Ren := ⟨fun | 6 => 51 | 8 => 64 | 9 => 63 | 19 => 81 | 20 => 82 | 21 => 72 | 22 => 73 | 23 => 74 | 24 => 75 | 25 => 76 | 26 => 77 | 27 => 78 | 28 => 79 | 29 => 80 | 36 => 89 | 31 => 90 | 32 => 91 | 37 => 92 | 38 => 93 | 39 => 94 | 41 => 97 | n => n, fun | 27 => 83 | 29 => 9 | 3 => 3 | 32 => 111 | 26 => 83 | 0 => 0 | 44 => 135 | 46 => 137 | 4 => 4 | 36 => 127 | 35 => 126 | 41 => 132 | 5 => 5 | 9 => 9 | 53 => 141 | 57 => 145 | 63 => 147 | 64 => 91 | n => n, fun | n => n⟩
theorem Tryd.laysSlM6_f51 : Go.Proofs.SlLaysM.n6 Tryd.prog Tryd.laysSlM6_f51_ren := {
  mixed := by kernel_rfl
  f6 := ⟨Tryd.f51.name, by decide, Tryd.func51.trans (congrArg some (by kernel_rfl))⟩
  f8 := Tryd.func64.trans (congrArg some (by kernel_rfl))
  f9 := ⟨Tryd.f63.name, by decide, Tryd.func63.trans (congrArg some (by kernel_rfl))⟩
  f19 := Tryd.func81.trans (congrArg some (by kernel_rfl))
  f20 := Tryd.func82.trans (congrArg some (by kernel_rfl))
  f21 := ⟨Tryd.f72.name, by decide, Tryd.func72.trans (congrArg some (by kernel_rfl))⟩
  f22 := ⟨Tryd.f73.name, by decide, Tryd.func73.trans (congrArg some (by kernel_rfl))⟩
  f23 := ⟨Tryd.f74.name, by decide, Tryd.func74.trans (congrArg some (by kernel_rfl))⟩
  f24 := ⟨Tryd.f75.name, by decide, Tryd.func75.trans (congrArg some (by kernel_rfl))⟩
  f25 := ⟨Tryd.f76.name, by decide, Tryd.func76.trans (congrArg some (by kernel_rfl))⟩
  f26 := ⟨Tryd.f77.name, by decide, Tryd.func77.trans (congrArg some (by kernel_rfl))⟩
  f27 := ⟨Tryd.f78.name, by decide, Tryd.func78.trans (congrArg some (by kernel_rfl))⟩
  f28 := ⟨Tryd.f79.name, by decide, Tryd.func79.trans (congrArg some (by kernel_rfl))⟩
  f29 := ⟨Tryd.f80.name, by decide, Tryd.func80.trans (congrArg some (by kernel_rfl))⟩
  f31 := Tryd.func90.trans (congrArg some (by kernel_rfl))
  f32 := Tryd.func91.trans (congrArg some (by kernel_rfl))
  f36 := ⟨Tryd.f89.name, by decide, Tryd.func89.trans (congrArg some (by kernel_rfl))⟩
  f37 := ⟨Tryd.f92.name, by decide, Tryd.func92.trans (congrArg some (by kernel_rfl))⟩
  f38 := ⟨Tryd.f93.name, by decide, Tryd.func93.trans (congrArg some (by kernel_rfl))⟩
  f39 := ⟨Tryd.f94.name, by decide, Tryd.func94.trans (congrArg some (by kernel_rfl))⟩
  f41 := ⟨Tryd.f97.name, by decide, Tryd.func97.trans (congrArg some (by kernel_rfl))⟩
  t0 := Tryd.underlying0
  a0 := Tryd.isAgg0
  z0 := Tryd.sizeOf0
  v0 := Tryd.zeroValue0
  t3 := Tryd.underlying3
  a3 := Tryd.isAgg3
  z3 := Tryd.sizeOf3
  v3 := Tryd.zeroValue3
  t4 := Tryd.underlying4
  a4 := Tryd.isAgg4
  z4 := Tryd.sizeOf4
  v4 := Tryd.zeroValue4
  t5 := Tryd.underlying5
  a5 := Tryd.isAgg5
  z5 := Tryd.sizeOf5
  v5 := Tryd.zeroValue5
  t9 := Tryd.underlying9
  a9 := Tryd.isAgg9
  z9 := Tryd.sizeOf9
  v9 := Tryd.zeroValue9
  t26 := Tryd.underlying83
  a26 := Tryd.isAgg83
  z26 := Tryd.sizeOf83
  v26 := Tryd.zeroValue83
  t27 := Tryd.underlying83
  a27 := Tryd.isAgg83
  z27 := Tryd.sizeOf83
  v27 := Tryd.zeroValue83
  t29 := Tryd.underlying9
  a29 := Tryd.isAgg9
  z29 := Tryd.sizeOf9
  v29 := Tryd.zeroValue9
  t32 := Tryd.underlying111
  a32 := Tryd.isAgg111
  z32 := Tryd.sizeOf111
  v32 := Tryd.zeroValue111
  t35 := Tryd.underlying126
  a35 := Tryd.isAgg126
  z35 := Tryd.sizeOf126
  v35 := Tryd.zeroValue126
  t36 := Tryd.underlying127
  a36 := Tryd.isAgg127
  z36 := Tryd.sizeOf127
  v36 := Tryd.zeroValue127
  t41 := Tryd.underlying132
  a41 := Tryd.isAgg132
  z41 := Tryd.sizeOf132
  v41 := Tryd.zeroValue132
  t44 := Tryd.underlying135
  a44 := Tryd.isAgg135
  z44 := Tryd.sizeOf135
  v44 := Tryd.zeroValue135
  t46 := Tryd.underlying137
  a46 := Tryd.isAgg137
  z46 := Tryd.sizeOf137
  v46 := Tryd.zeroValue137
  t53 := Tryd.underlying141
  a53 := Tryd.isAgg141
  z53 := Tryd.sizeOf141
  v53 := Tryd.zeroValue141
  t57 := Tryd.underlying145
  a57 := Tryd.isAgg145
  z57 := Tryd.sizeOf145
  v57 := Tryd.zeroValue145
  t63 := Tryd.underlying147
  a63 := Tryd.isAgg147
  z63 := Tryd.sizeOf147
  v63 := Tryd.zeroValue147
  t64 := Tryd.underlying91
  a64 := Tryd.isAgg91
  z64 := Tryd.sizeOf91
  v64 := Tryd.zeroValue91 }
open Go.RowKit Go.Sort in
theorem Tryd.slices_Sort_string_none (p : Option Addr) (cap : Nat) (w : World) :
    Calls Tryd.prog 51 #[.slice p 0 cap] w fun e w' => e = .returned (.tuple #[]) ∧ w' = w := AnyM.slices_Sort_string_none Tryd.laysSlM6_f51 p cap w
end Go.Proofs
end
section
namespace Go.Proofs.YtpclapnmiacfpaaDoor.Hand
open Go.RowKit
theorem cell_blk {w : World} {b : Nat} {cs : Array Value} {t : TypeId} {fz : Nat × Nat} (h : w.heap[b]? = some (.cells cs t fz)) (i : Nat) (v : Value) (hv : cs[i]? = some v) : w.cell? ⟨b, i, none⟩ = some v := by
  rw [Lib.cell_of_heap h]; exact hv
theorem heap_at (w : World) (o : Obj) (i : Nat) (h : i = w.heap.size) : (w.alloc o).heap[i]? = some o := by subst h; exact Go.heap_alloc_new w o
theorem letter_c (a : Int) (w : World) : Calls Tryd.prog 83 #[.int .u8 a] w fun e w' => e = .returned (.bool (upC a)) ∧ w = w' := by
  by_cases h1 : 65 ≤ a
  · go_enter Tryd.func83, Tryd.ntmps83
    go_wp2
    go_ret
    simp [upC, h1]
  · go_enter Tryd.func83, Tryd.ntmps83
    go_wp2
    go_ret
    simp [upC]
    omega
theorem digit_c (a : Int) (w : World) : Calls Tryd.prog 85 #[.int .u8 a] w fun e w' => e = .returned (.bool (dgC a)) ∧ w = w' := by
  by_cases h1 : 48 ≤ a
  · go_enter Tryd.func85, Tryd.ntmps85
    go_wp2
    go_ret
    simp [dgC, h1]
  · go_enter Tryd.func85, Tryd.ntmps85
    go_wp2
    go_ret
    simp [dgC]
    omega
theorem alnum_c (a : Int) (w : World) : Calls Tryd.prog 84 #[.int .u8 a] w fun e w' => e = .returned (.bool (anC a)) ∧ w = w' := by
  cases h1 : upC a with
  | true =>
    go_enter Tryd.func84, Tryd.ntmps84
    go_wp2_with (go_at_call 83; refine (letter_c _ _).mono ?_; rintro e w' ⟨rfl, rfl⟩; rw [h1])
    go_ret
    simp [anC, h1]
  | false =>
    go_enter Tryd.func84, Tryd.ntmps84
    go_wp2_with (first | (go_at_call 83; refine (letter_c _ _).mono ?_; rintro e w' ⟨rfl, rfl⟩; rw [h1]) | (go_at_call 85; refine (digit_c _ _).mono ?_; rintro e w' ⟨rfl, rfl⟩))
    go_ret
    simp [anC, h1]
theorem refch_c (a : Int) (w : World) : Calls Tryd.prog 87 #[.int .u8 a] w fun e w' => e = .returned (.bool (rfC a)) ∧ w = w' := by
  cases h1 : anC a with
  | true =>
    go_enter Tryd.func87, Tryd.ntmps87
    go_wp2_with (go_at_call 84; refine (alnum_c _ _).mono ?_; rintro e w' ⟨rfl, rfl⟩; rw [h1])
    go_ret
    simp [rfC, h1]
  | false =>
    go_enter Tryd.func87, Tryd.ntmps87
    go_wp2_with (go_at_call 84; refine (alnum_c _ _).mono ?_; rintro e w' ⟨rfl, rfl⟩; rw [h1])
    go_ret
    simp [rfC, h1]
set_option maxHeartbeats 2000000 in
set_option maxRecDepth 100000 in
theorem expand_c (s : ByteArray) (w : World) (hs : s.size ≤ 100) (hall : ∀ c ∈ s.data.toList, anC c.toNat = true) :
    Calls Tryd.prog 95 #[.string s] w fun e w' => e = .returned (.string ⟨(expL s.data.toList).toArray⟩) ∧ Below w.heap.size w w' := by
  have HA := Lib.hid hall
  clear hall
  go_enter Tryd.func95, Tryd.ntmps95
  go_wp2
  go_loopw [7] (fun v wr => ∃ k : Nat, k ≤ s.size ∧ v = .int .i64 k ∧ Lib.IsBuilder 151 5 w.heap.size w.heap.size (Lib.byteCells (expL (s.data.toList.take k))) wr ∧ Below w.heap.size w wr ∧ w.heap.size ≤ wr.heap.size) (fun v _ => s.size - (intOf v).toNat)
  case atStart => exact ⟨0, Nat.zero_le _, rfl, Lib.fresh_isBuilder _ _ _, (Below.refl _ _).alloc (Nat.le_refl _) _, by simp⟩
  case round =>
    obtain ⟨k, hk, rfl, hb, hB, hle⟩ := hrel
    have HB := Lib.hid hb
    clear hb
    by_cases hlt : k < s.size
    · have hmem := HA.out _ (mem_at s k hlt)
      have hlen := expL_len (s.data.toList.take k) (fun c hc => HA.out c (List.mem_of_mem_take hc))
      have hlk : (s.data.toList.take k).length ≤ k := List.length_take_le _ _
      have HT := Lib.hid (take_snoc' s k hlt)
      have hbl : (Lib.byteCells (expL (s.data.toList.take k))).length = (expL (s.data.toList.take k)).length := Lib.byteCells_length _
      have hbl1 : (Lib.byteCells (expL (s.data.toList.take k))).length ≤ 200 := by omega
      clear hlen hlk hbl
      cases hd : dgC (s[k].toNat : Int) with
      | true =>
        have HD := Lib.hid hd
        clear hd
        go_wp2_with (first | (go_at_call 85; refine (digit_c _ _).mono ?_; rintro e w' ⟨rfl, rfl⟩; rw [HD.out]) | (go_at_call 98; refine (WriteByte w.heap.size w.heap.size _ _ _ HB.out (by omega) hle).mono ?_; rintro e w1 ⟨rfl, hb1, hB1⟩))
        go_roundw
        case rel =>
          refine ⟨k + 1, by omega, by go_num, ?_, hB.trans hB1, Nat.le_trans hle hB1.size⟩
          rw [HT.out, expL_snoc]
          have : expC s[k] = [s[k]] := by unfold expC; rw [HD.out]; rfl
          rw [this, Lib.byteCells_append]
          exact .inr hb1
        case measure => simp [intOf]; omega
      | false =>
        have HD := Lib.hid hd
        have h65 : 65 ≤ (s[k].toNat : Int) ∧ (s[k].toNat : Int) ≤ 90 := by
          rcases (anC_iff _).1 hmem with h | h
          · exact h
          · rw [(dgC_iff _).2 h] at hd; cases hd
        obtain ⟨h65a, h65b⟩ := h65
        clear hd hmem
        obtain ⟨n, hn⟩ : ∃ n : Nat, n = s[k].toNat - 55 := ⟨_, rfl⟩
        have hn1 : n < 100 := by omega
        have HN := Lib.hid (show ((s[k].toNat : Int) - 65 + 10 = (n : Int)) by omega)
        have HN2 := Lib.hid hn
        clear hn
        have hdl := decDigits_small n hn1
        go_wp2_with (first | (go_at_call 85; refine (digit_c _ _).mono ?_; rintro e w' ⟨rfl, rfl⟩; rw [HD.out]) | (go_at_call 96; rw [HN.out]; refine (Tryd.strconv_Itoa_small n hn1 _).mono ?_; rintro e w' ⟨rfl, rfl⟩) | (go_at_call 99; refine (WriteString w.heap.size w.heap.size _ _ _ HB.out ?_ hle).mono ?_; (show _ + (Lib.decDigits n).length ≤ _; omega); rintro e w1 ⟨rfl, hb1, hB1⟩))
        go_roundw
        case rel =>
          refine ⟨k + 1, by omega, by go_num, ?_, hB.trans hB1, Nat.le_trans hle hB1.size⟩
          rw [HT.out, expL_snoc]
          have : expC s[k] = Lib.decDigits n := by unfold expC; rw [HD.out, HN2.out]; rfl
          rw [this, Lib.byteCells_append]
          exact .inr hb1
        case measure => simp [intOf]; omega
    · have hke : k = s.size := by omega
      have HK := Lib.hid hke
      clear hke
      go_wp2_with (go_at_call 100; refine (Tryd.Builder_String_any w.heap.size w.heap.size _ _ HB.out hle).mono ?_; rintro e w1 ⟨rfl, hB1⟩)
      go_ret
      have ht : s.data.toList.take k = s.data.toList := List.take_of_length_le (by rw [HK.out]; simp)
      rw [ht]
      exact ⟨rfl, hB.trans hB1⟩
end Go.Proofs.YtpclapnmiacfpaaDoor.Hand
namespace Go.Proofs.YtpclapnmiacfpaaDoor.L
open Go.RowKit
def strconv_Itoa.f (a0 : Int) : Option ByteArray := if 0 ≤ a0 ∧ a0 < 100 then some ⟨(Lib.decDigits a0.toNat).toArray⟩ else none
theorem strconv_Itoa.calls (a0 : Int) (r : ByteArray) (w : World) (h : strconv_Itoa.f a0 = some r) : Calls Tryd.prog 96 #[.int .i64 a0] w fun e w' => e = .returned (.string r) ∧ Below w.heap.size w w' := by
  unfold strconv_Itoa.f at h
  split at h
  · rename_i hb
    obtain ⟨n, rfl⟩ := Int.eq_ofNat_of_zero_le hb.1
    cases h
    exact (Tryd.strconv_Itoa_small n (by omega) w).mono fun e w' ⟨he, hw⟩ => ⟨he, hw ▸ Below.refl _ _⟩
  · cases h
def ident_expand.f (a0 : ByteArray) : Option ByteArray := if a0.size ≤ 100 ∧ ∀ c ∈ a0.data.toList, Hand.anC c.toNat = true then some ⟨(Hand.expL a0.data.toList).toArray⟩ else none
theorem ident_expand.calls (a0 : ByteArray) (r : ByteArray) (w : World) (h : ident_expand.f a0 = some r) : Calls Tryd.prog 95 #[.string a0] w fun e w' => e = .returned (.string r) ∧ Below w.heap.size w w' := by
  unfold ident_expand.f at h
  split at h
  · rename_i hb
    cases h
    exact Hand.expand_c a0 w hb.1 hb.2
  · cases h
end Go.Proofs.YtpclapnmiacfpaaDoor.L
end
section
set_option linter.unusedVariables false
namespace Go.Proofs.YtpclapnmiacfpaaDoor.Hand
open Go.RowKit Go.Proofs.YtpclapnmiacfpaaDoorW.PrintWords
theorem giver_c (k : Int) (w : World) : Calls Tryd.prog 29 #[.int .i64 k] w fun e w' => e = .returned (.func (.func 48) #[] #[.pointer (some ⟨w.heap.size, 0, none⟩)]) ∧ w.alloc (.cells #[.int .i64 k] 3) = w' := by
  go_enter Tryd.func29, Tryd.ntmps29
  go_wp2
  go_ret
  exact ⟨rfl, rfl⟩
theorem taker_c (k : Int) (w : World) : Calls Tryd.prog 30 #[.int .i64 k] w fun e w' => e = .returned (.func (.func 49) #[] #[.pointer (some ⟨w.heap.size, 0, none⟩)]) ∧ w.alloc (.cells #[.int .i64 k] 3) = w' := by
  go_enter Tryd.func30, Tryd.ntmps30
  go_wp2
  go_ret
  exact ⟨rfl, rfl⟩
theorem giver1_c (fr tt aa : ByteArray) (am k : Int) (p : Nat) (w : World) (hp : w.cell? ⟨p, 0, none⟩ = some (.int .i64 k)) :
    Calls Tryd.prog 48 #[.agg #[.string fr, .string tt, .string aa, .int .i64 am], .pointer (some ⟨p, 0, none⟩)] w fun e w' => e = .returned (.agg #[.string fr, .int .i64 k, .string aa]) ∧ Below w.heap.size w w' := by
  have eb := World.new_ne w ⟨p, 0, none⟩ hp
  have hlt := World.block_lt_of_cell? w _ hp
  go_enter Tryd.func48, Tryd.ntmps48
  go_wp2
  exact bodyPost_ret (v := .agg #[.string fr, .int .i64 k, .string aa]) (by simp [results, Tryd.results48, go_sem]) rfl ⟨rfl, ((Below.refl _ w).alloc (Nat.le_refl _) _).alloc (by simp) _⟩
theorem taker1_c (fr tt aa : ByteArray) (am k : Int) (p : Nat) (w : World) (hp : w.cell? ⟨p, 0, none⟩ = some (.int .i64 k)) :
    Calls Tryd.prog 49 #[.agg #[.string fr, .string tt, .string aa, .int .i64 am], .pointer (some ⟨p, 0, none⟩)] w fun e w' => e = .returned (.agg #[.string tt, .int .i64 k, .string aa]) ∧ Below w.heap.size w w' := by
  have eb := World.new_ne w ⟨p, 0, none⟩ hp
  have hlt := World.block_lt_of_cell? w _ hp
  go_enter Tryd.func49, Tryd.ntmps49
  go_wp2
  exact bodyPost_ret (v := .agg #[.string tt, .int .i64 k, .string aa]) (by simp [results, Tryd.results49, go_sem]) rfl ⟨rfl, ((Below.refl _ w).alloc (Nat.le_refl _) _).alloc (by simp) _⟩
structure Moved (w w' : World) (e : Ending) (fr tt aa : ByteArray) (am k1 k2 : Int) : Prop where
  out : ∃ W1, Below w.heap.size w W1 ∧ e = .returned (.slice (some ⟨W1.heap.size, 0, none⟩) 2 2) ∧ w' = W1.alloc (.cells #[.string fr, .int .i64 k1, .string aa, .int .i64 (IntKind.i64.wrap (-am)), .string tt, .int .i64 k2, .string aa, .int .i64 am] 68)
set_option maxHeartbeats 4000000 in
set_option maxRecDepth 100000 in
theorem move_c (fr tt aa : ByteArray) (am k1 k2 : Int) (p1 p2 : Nat) (w : World) (h1 : w.cell? ⟨p1, 0, none⟩ = some (.int .i64 k1)) (h2 : w.cell? ⟨p2, 0, none⟩ = some (.int .i64 k2)) :
    Calls Tryd.prog 28 #[.agg #[.string fr, .string tt, .string aa, .int .i64 am], .func (.func 48) #[] #[.pointer (some ⟨p1, 0, none⟩)], .func (.func 49) #[] #[.pointer (some ⟨p2, 0, none⟩)]] w fun e w' => Moved w w' e fr tt aa am k1 k2 := by
  have e1 := World.new_ne w ⟨p1, 0, none⟩ h1
  have e2 := World.new_ne w ⟨p2, 0, none⟩ h2
  go_enter Tryd.func28, Tryd.ntmps28
  go_wp2_with fail
  have hbk := heap_at w (.cells #[.string fr, .string tt, .string aa, .int .i64 am] 71) w.heap.size rfl
  have hB0 : Below w.heap.size w (w.alloc (.cells #[.string fr, .string tt, .string aa, .int .i64 am] 71)) := (Below.refl _ w).alloc (Nat.le_refl _) _
  have q1 := pw_cell_below hB0 h1
  have q2 := pw_cell_below hB0 h2
  clear e1 e2
  generalize w.alloc (.cells #[.string fr, .string tt, .string aa, .int .i64 am] 71) = W at hbk hB0 q1 q2 ⊢
  have HB0 := Lib.hid hB0
  clear hB0
  obtain ⟨B, hBe⟩ : ∃ B, B = w.heap.size := ⟨_, rfl⟩
  rw [← hBe] at hbk ⊢
  clear hBe h1 h2
  have k0 := cell_blk hbk 0 _ rfl
  have k1' := cell_blk hbk 1 _ rfl
  have k2' := cell_blk hbk 2 _ rfl
  have k3 := cell_blk hbk 3 _ rfl
  clear hbk
  go_region_held3 (fun w' => w'.cell? ⟨B, 0, none⟩ = some (.string fr) ∧ w'.cell? ⟨B, 1, none⟩ = some (.string tt) ∧ w'.cell? ⟨B, 2, none⟩ = some (.string aa) ∧ w'.cell? ⟨B, 3, none⟩ = some (.int .i64 am) ∧ w'.cell? ⟨p1, 0, none⟩ = some (.int .i64 k1) ∧ w'.cell? ⟨p2, 0, none⟩ = some (.int .i64 k2))
    (first | go_keep | (go_split_ands; refine ⟨?_, ?_, ?_, ?_, ?_, ?_⟩ <;> (refine pw_cell_below hb3 ?_; assumption)) | (go_split_ands; refine ⟨?_, ?_, ?_, ?_, ?_, ?_⟩ <;> (refine pw_cell_below hb2 ?_; assumption)))
    (first
      | (go_at_call 48; go_must (refine (giver1_c fr tt aa am k1 p1 _ (by first | assumption | (go_split_ands; assumption))).mono ?_); rintro e w2 ⟨rfl, hb2⟩)
      | (go_at_call 49; go_must (refine (taker1_c fr tt aa am k2 p2 _ (by first | assumption | (go_split_ands; assumption))).mono ?_); rintro e w3 ⟨rfl, hb3⟩))
  rename_i hH
  clear hH k0 k1' k2' k3 q1 q2
  have HB1 := Lib.hid (below_then (below_then (below_drew HB0.out) (below_drew HB0.out).size hb2) (Nat.le_trans (below_drew HB0.out).size hb2.size) hb3)
  clear hb2 hb3
  go_wp2
  go_ret
  exact ⟨_, HB1.out, rfl, rfl⟩
end Go.Proofs.YtpclapnmiacfpaaDoor.Hand
end
section
namespace Go.Proofs.YtpclapnmiacfpaaDoor.Q
open Go.RowKit Go.Proofs.YtpclapnmiacfpaaDoorW.PrintWords Go.Proofs.YtpclapnmiacfpaaDoorW.PrintLast Go.Proofs.YtpclapnmiacfpaaDoorW.PrintMore
attribute [local go_sem] max2_int min2_int max_two min_two max_three min_three max_four min_four
set_option linter.unusedVariables false
set_option linter.unusedSimpArgs false
def errW : Option Int → Value
 | none => .nilIface
 | some c => .iface 0 (.int .i64 c)
theorem errW_none : errW none = .nilIface := rfl
theorem errW_some (c : Int) : errW (some c) = .iface 0 (.int .i64 c) := rfl
theorem info3 : (Tryd.prog.info? 3).map (fun i => (i.zero, i.size, i.bytes)) = some (some (.int .i64 0), 1, 8) := by kernel_rfl
theorem info49 : (Tryd.prog.info? 49).map (fun i => (i.zero, i.size, i.bytes)) = some (some (.agg #[(.string ⟨#[]⟩), (.string ⟨#[]⟩), (.string ⟨#[]⟩), (.int .i64 0)]), 4, 56) := by kernel_rfl
theorem info68 : (Tryd.prog.info? 68).map (fun i => (i.zero, i.size, i.bytes)) = some (some (.agg #[(.string ⟨#[]⟩), (.int .i64 0), (.string ⟨#[]⟩), (.int .i64 0)]), 4, 48) := by kernel_rfl
theorem info71 : (Tryd.prog.info? 71).map (fun i => (i.zero, i.size, i.bytes)) = some (some (.agg #[(.string ⟨#[]⟩), (.string ⟨#[]⟩), (.string ⟨#[]⟩), (.int .i64 0)]), 4, 56) := by kernel_rfl
theorem info77 : (Tryd.prog.info? 77).map (fun i => (i.zero, i.size, i.bytes)) = some (some (.agg #[(.string ⟨#[]⟩), (.int .i64 0), (.string ⟨#[]⟩), (.int .i64 0)]), 4, 48) := by kernel_rfl
structure S22 where
 f0 : ByteArray
 f1 : ByteArray
def z22 : S22 := ⟨(⟨#[]⟩ : ByteArray), (⟨#[]⟩ : ByteArray)⟩
structure S31 where
 f0 : Int
 f1 : ByteArray
 f2 : ByteArray
 f3 : ByteArray
 f4 : Int
 f5 : Int
 f6 : Int
 f7 : Int
 f8 : Int
 f9 : Bool
 f10 : Int
 f11 : S22
def z31 : S31 := ⟨(0 : Int), (⟨#[]⟩ : ByteArray), (⟨#[]⟩ : ByteArray), (⟨#[]⟩ : ByteArray), (0 : Int), (0 : Int), (0 : Int), (0 : Int), (0 : Int), false, (0 : Int), z22⟩
structure S66 where
 f0 : ByteArray
 f1 : Int
 f2 : ByteArray
def z66 : S66 := ⟨(⟨#[]⟩ : ByteArray), (0 : Int), (⟨#[]⟩ : ByteArray)⟩
def k66 : Kd S66 := Kd.iso (Kd.pair Kd.string (Kd.pair (Kd.int .i64) Kd.string)) (fun x : S66 => (x.f0, x.f1, x.f2))
theorem k66_open {w : World} {x : S66} {cs : List Value} (h : k66.K w x cs) : cs = [.string x.f0, .int .i64 x.f1, .string x.f2] := by
 obtain ⟨_, _, rfl, rfl, ⟨_, _, rfl, rfl, rfl⟩⟩ := h
 exact rfl
theorem k66_mkM (w : World) (base : Nat) (ok : Nat → Prop) (x : S66)  : k66.M w base ok x [.string x.f0, .int .i64 x.f1, .string x.f2] := ⟨[.string x.f0], [.int .i64 x.f1, .string x.f2], rfl, rfl, ⟨[.int .i64 x.f1], [.string x.f2], rfl, rfl, rfl⟩⟩
structure S68 where
 f0 : S66
 f1 : Int
def z68 : S68 := ⟨z66, (0 : Int)⟩
def k68 : Kd S68 := Kd.iso (Kd.pair k66 (Kd.int .i64)) (fun x : S68 => (x.f0, x.f1))
theorem k68_open {w : World} {x : S68} {cs : List Value} (h : k68.K w x cs) : cs = [.string x.f0.f0, .int .i64 x.f0.f1, .string x.f0.f2, .int .i64 x.f1] := by
 obtain ⟨_, _, rfl, s0, rfl⟩ := h
 obtain rfl := k66_open s0
 exact rfl
theorem k68_mkM (w : World) (base : Nat) (ok : Nat → Prop) (x : S68)  : k68.M w base ok x [.string x.f0.f0, .int .i64 x.f0.f1, .string x.f0.f2, .int .i64 x.f1] := ⟨[.string x.f0.f0, .int .i64 x.f0.f1, .string x.f0.f2], [.int .i64 x.f1], rfl, (k66_mkM w base ok x.f0 ), rfl⟩
def rd_T68 (xs : List S68) (i : Int) : S68 := xs.getD i.toNat z68
theorem at_T68 {w : World} {A : Option Addr} {n : Nat} {xs : List S68} (h : Kd.C k68 w A n xs) (i : Int) (h0 : 0 ≤ i) (h1 : i < n) : ∃ ad , A = some ad ∧ w.cell? (ad.add (i.toNat * 4)) = some (.string (rd_T68 xs i).f0.f0) ∧ w.cell? ⟨(ad.add (i.toNat * 4)).block, (ad.add (i.toNat * 4)).off + 1, none⟩ = some (.int .i64 (rd_T68 xs i).f0.f1) ∧ w.cell? ⟨(ad.add (i.toNat * 4)).block, (ad.add (i.toNat * 4)).off + 2, none⟩ = some (.string (rd_T68 xs i).f0.f2) ∧ w.cell? ⟨(ad.add (i.toNat * 4)).block, (ad.add (i.toNat * 4)).off + 3, none⟩ = some (.int .i64 (rd_T68 xs i).f1) := by
 obtain ⟨ad, c, e, _, hK, hc0⟩ := Kd.C_get h z68 i h0 h1
 have hc : ∀ j u, c[j]? = some u → w.cell? (ad.add (i.toNat * 4 + j)) = some u := hc0
 obtain rfl := k68_open hK
 exact ⟨ad, e, hc 0 _ rfl, by rw [← add_field _ _ 1 (by omega)]; exact hc 1 _ rfl, by rw [← add_field _ _ 2 (by omega)]; exact hc 2 _ rfl, by rw [← add_field _ _ 3 (by omega)]; exact hc 3 _ rfl⟩
structure S75 where
 f0 : ByteArray
 f1 : Int
 f2 : ByteArray
def z75 : S75 := ⟨(⟨#[]⟩ : ByteArray), (0 : Int), (⟨#[]⟩ : ByteArray)⟩
def k75 : Kd S75 := Kd.iso (Kd.pair Kd.string (Kd.pair (Kd.int .i64) Kd.string)) (fun x : S75 => (x.f0, x.f1, x.f2))
theorem k75_open {w : World} {x : S75} {cs : List Value} (h : k75.K w x cs) : cs = [.string x.f0, .int .i64 x.f1, .string x.f2] := by
 obtain ⟨_, _, rfl, rfl, ⟨_, _, rfl, rfl, rfl⟩⟩ := h
 exact rfl
theorem k75_mkM (w : World) (base : Nat) (ok : Nat → Prop) (x : S75)  : k75.M w base ok x [.string x.f0, .int .i64 x.f1, .string x.f2] := ⟨[.string x.f0], [.int .i64 x.f1, .string x.f2], rfl, rfl, ⟨[.int .i64 x.f1], [.string x.f2], rfl, rfl, rfl⟩⟩
structure S77 where
 f0 : S75
 f1 : Int
def z77 : S77 := ⟨z75, (0 : Int)⟩
def k77 : Kd S77 := Kd.iso (Kd.pair k75 (Kd.int .i64)) (fun x : S77 => (x.f0, x.f1))
theorem k77_open {w : World} {x : S77} {cs : List Value} (h : k77.K w x cs) : cs = [.string x.f0.f0, .int .i64 x.f0.f1, .string x.f0.f2, .int .i64 x.f1] := by
 obtain ⟨_, _, rfl, s0, rfl⟩ := h
 obtain rfl := k75_open s0
 exact rfl
theorem k77_mkM (w : World) (base : Nat) (ok : Nat → Prop) (x : S77)  : k77.M w base ok x [.string x.f0.f0, .int .i64 x.f0.f1, .string x.f0.f2, .int .i64 x.f1] := ⟨[.string x.f0.f0, .int .i64 x.f0.f1, .string x.f0.f2], [.int .i64 x.f1], rfl, (k75_mkM w base ok x.f0 ), rfl⟩
def rd_T77 (xs : List S77) (i : Int) : S77 := xs.getD i.toNat z77
theorem at_T77 {w : World} {A : Option Addr} {n : Nat} {xs : List S77} (h : Kd.C k77 w A n xs) (i : Int) (h0 : 0 ≤ i) (h1 : i < n) : ∃ ad , A = some ad ∧ w.cell? (ad.add (i.toNat * 4)) = some (.string (rd_T77 xs i).f0.f0) ∧ w.cell? ⟨(ad.add (i.toNat * 4)).block, (ad.add (i.toNat * 4)).off + 1, none⟩ = some (.int .i64 (rd_T77 xs i).f0.f1) ∧ w.cell? ⟨(ad.add (i.toNat * 4)).block, (ad.add (i.toNat * 4)).off + 2, none⟩ = some (.string (rd_T77 xs i).f0.f2) ∧ w.cell? ⟨(ad.add (i.toNat * 4)).block, (ad.add (i.toNat * 4)).off + 3, none⟩ = some (.int .i64 (rd_T77 xs i).f1) := by
 obtain ⟨ad, c, e, _, hK, hc0⟩ := Kd.C_get h z77 i h0 h1
 have hc : ∀ j u, c[j]? = some u → w.cell? (ad.add (i.toNat * 4 + j)) = some u := hc0
 obtain rfl := k77_open hK
 exact ⟨ad, e, hc 0 _ rfl, by rw [← add_field _ _ 1 (by omega)]; exact hc 1 _ rfl, by rw [← add_field _ _ 2 (by omega)]; exact hc 2 _ rfl, by rw [← add_field _ _ 3 (by omega)]; exact hc 3 _ rfl⟩
structure S49 where
 f0 : ByteArray
 f1 : ByteArray
 f2 : ByteArray
 f3 : Int
def z49 : S49 := ⟨(⟨#[]⟩ : ByteArray), (⟨#[]⟩ : ByteArray), (⟨#[]⟩ : ByteArray), (0 : Int)⟩
def k49 : Kd S49 := Kd.iso (Kd.pair Kd.string (Kd.pair Kd.string (Kd.pair Kd.string (Kd.int .i64)))) (fun x : S49 => (x.f0, x.f1, x.f2, x.f3))
theorem k49_open {w : World} {x : S49} {cs : List Value} (h : k49.K w x cs) : cs = [.string x.f0, .string x.f1, .string x.f2, .int .i64 x.f3] := by
 obtain ⟨_, _, rfl, rfl, ⟨_, _, rfl, rfl, ⟨_, _, rfl, rfl, rfl⟩⟩⟩ := h
 exact rfl
theorem k49_mkM (w : World) (base : Nat) (ok : Nat → Prop) (x : S49)  : k49.M w base ok x [.string x.f0, .string x.f1, .string x.f2, .int .i64 x.f3] := ⟨[.string x.f0], [.string x.f1, .string x.f2, .int .i64 x.f3], rfl, rfl, ⟨[.string x.f1], [.string x.f2, .int .i64 x.f3], rfl, rfl, ⟨[.string x.f2], [.int .i64 x.f3], rfl, rfl, rfl⟩⟩⟩
def rd_T49 (xs : List S49) (i : Int) : S49 := xs.getD i.toNat z49
theorem at_T49 {w : World} {A : Option Addr} {n : Nat} {xs : List S49} (h : Kd.C k49 w A n xs) (i : Int) (h0 : 0 ≤ i) (h1 : i < n) : ∃ ad , A = some ad ∧ w.cell? (ad.add (i.toNat * 4)) = some (.string (rd_T49 xs i).f0) ∧ w.cell? ⟨(ad.add (i.toNat * 4)).block, (ad.add (i.toNat * 4)).off + 1, none⟩ = some (.string (rd_T49 xs i).f1) ∧ w.cell? ⟨(ad.add (i.toNat * 4)).block, (ad.add (i.toNat * 4)).off + 2, none⟩ = some (.string (rd_T49 xs i).f2) ∧ w.cell? ⟨(ad.add (i.toNat * 4)).block, (ad.add (i.toNat * 4)).off + 3, none⟩ = some (.int .i64 (rd_T49 xs i).f3) := by
 obtain ⟨ad, c, e, _, hK, hc0⟩ := Kd.C_get h z49 i h0 h1
 have hc : ∀ j u, c[j]? = some u → w.cell? (ad.add (i.toNat * 4 + j)) = some u := hc0
 obtain rfl := k49_open hK
 exact ⟨ad, e, hc 0 _ rfl, by rw [← add_field _ _ 1 (by omega)]; exact hc 1 _ rfl, by rw [← add_field _ _ 2 (by omega)]; exact hc 2 _ rfl, by rw [← add_field _ _ 3 (by omega)]; exact hc 3 _ rfl⟩
structure S71 where
 f0 : ByteArray
 f1 : ByteArray
 f2 : ByteArray
 f3 : Int
def z71 : S71 := ⟨(⟨#[]⟩ : ByteArray), (⟨#[]⟩ : ByteArray), (⟨#[]⟩ : ByteArray), (0 : Int)⟩
def k71 : Kd S71 := Kd.iso (Kd.pair Kd.string (Kd.pair Kd.string (Kd.pair Kd.string (Kd.int .i64)))) (fun x : S71 => (x.f0, x.f1, x.f2, x.f3))
theorem k71_open {w : World} {x : S71} {cs : List Value} (h : k71.K w x cs) : cs = [.string x.f0, .string x.f1, .string x.f2, .int .i64 x.f3] := by
 obtain ⟨_, _, rfl, rfl, ⟨_, _, rfl, rfl, ⟨_, _, rfl, rfl, rfl⟩⟩⟩ := h
 exact rfl
theorem k71_mkM (w : World) (base : Nat) (ok : Nat → Prop) (x : S71)  : k71.M w base ok x [.string x.f0, .string x.f1, .string x.f2, .int .i64 x.f3] := ⟨[.string x.f0], [.string x.f1, .string x.f2, .int .i64 x.f3], rfl, rfl, ⟨[.string x.f1], [.string x.f2, .int .i64 x.f3], rfl, rfl, ⟨[.string x.f2], [.int .i64 x.f3], rfl, rfl, rfl⟩⟩⟩
def rd_T71 (xs : List S71) (i : Int) : S71 := xs.getD i.toNat z71
theorem at_T71 {w : World} {A : Option Addr} {n : Nat} {xs : List S71} (h : Kd.C k71 w A n xs) (i : Int) (h0 : 0 ≤ i) (h1 : i < n) : ∃ ad , A = some ad ∧ w.cell? (ad.add (i.toNat * 4)) = some (.string (rd_T71 xs i).f0) ∧ w.cell? ⟨(ad.add (i.toNat * 4)).block, (ad.add (i.toNat * 4)).off + 1, none⟩ = some (.string (rd_T71 xs i).f1) ∧ w.cell? ⟨(ad.add (i.toNat * 4)).block, (ad.add (i.toNat * 4)).off + 2, none⟩ = some (.string (rd_T71 xs i).f2) ∧ w.cell? ⟨(ad.add (i.toNat * 4)).block, (ad.add (i.toNat * 4)).off + 3, none⟩ = some (.int .i64 (rd_T71 xs i).f3) := by
 obtain ⟨ad, c, e, _, hK, hc0⟩ := Kd.C_get h z71 i h0 h1
 have hc : ∀ j u, c[j]? = some u → w.cell? (ad.add (i.toNat * 4 + j)) = some u := hc0
 obtain rfl := k71_open hK
 exact ⟨ad, e, hc 0 _ rfl, by rw [← add_field _ _ 1 (by omega)]; exact hc 1 _ rfl, by rw [← add_field _ _ 2 (by omega)]; exact hc 2 _ rfl, by rw [← add_field _ _ 3 (by omega)]; exact hc 3 _ rfl⟩
end Go.Proofs.YtpclapnmiacfpaaDoor.Q
end
section
namespace Go.Proofs.YtpclapnmiacfpaaDoor.L
open Go.RowKit Go.Proofs.YtpclapnmiacfpaaDoorW.PrintWords Go.Proofs.YtpclapnmiacfpaaDoorW.PrintLast Go.Proofs.YtpclapnmiacfpaaDoorW.PrintMore
attribute [local go_sem] max2_int min2_int max_two min_two max_three min_three max_four min_four
set_option linter.unusedVariables false
set_option linter.unusedSimpArgs false
def errW : Option Int → Value
 | none => .nilIface
 | some c => .iface 0 (.int .i64 c)
theorem errW_none : errW none = .nilIface := rfl
theorem errW_some (c : Int) : errW (some c) = .iface 0 (.int .i64 c) := rfl
end Go.Proofs.YtpclapnmiacfpaaDoor.L
end
section
namespace Go.Proofs.YtpclapnmiacfpaaDoor.L
open Go.RowKit Go.Proofs.YtpclapnmiacfpaaDoorW.PrintWords Go.Proofs.YtpclapnmiacfpaaDoorW.PrintLast Go.Proofs.YtpclapnmiacfpaaDoorW.PrintMore
attribute [local go_sem] max2_int min2_int max_two min_two max_three min_three max_four min_four
set_option linter.unusedVariables false
set_option linter.unusedSimpArgs false
def ident_luhn.l0 : Nat → ByteArray → Int → Int → Int → Option (ByteArray)
 | 0, _, _, _, _ => none
 | k + 1, x3, x4, x10, x11 => if x11 < x10 then (if 0 ≤ (wrap64 ((wrap64 ((x3.size : Int) - 1)) - x11)) then (if (wrap64 ((wrap64 ((x3.size : Int) - 1)) - x11)) < (x3.size : Int) then (if (Int.tmod x11 2) = 0 then (ident_luhn.l0 k x3 (wrap64 (x4 + ((((((bt x3 (wrap64 ((wrap64 ((x3.size : Int) - 1)) - x11))) - 48) % 256) * 2) / 10) + (((((bt x3 (wrap64 ((wrap64 ((x3.size : Int) - 1)) - x11))) - 48) % 256) * 2) % 10)))) x10 (wrap64 (x11 + 1))) else (ident_luhn.l0 k x3 (wrap64 (x4 + (((((bt x3 (wrap64 ((wrap64 ((x3.size : Int) - 1)) - x11))) - 48) % 256) / 10) + ((((bt x3 (wrap64 ((wrap64 ((x3.size : Int) - 1)) - x11))) - 48) % 256) % 10)))) x10 (wrap64 (x11 + 1)))) else (none)) else (none)) else ((strconv_Itoa.f (Int.tmod (wrap64 (10 - (Int.tmod x4 10))) 10)).bind fun t102 => (some t102))
def ident_luhn.f (k : Nat) (a0 : ByteArray) : Option (ByteArray) := (ident_expand.f a0).bind fun t101 => (ident_luhn.l0 k t101 0 (t101.size : Int) 0)
theorem ident_luhn.mono_l : ∀ k, (∀ y0 y1 y2 y3, LeO (ident_luhn.l0 k y0 y1 y2 y3) (ident_luhn.l0 (k + 1) y0 y1 y2 y3))
 | 0 => fun _ _ _ _ r h => by simp [ident_luhn.l0] at h
 | k + 1 => by
  have ih0 := ident_luhn.mono_l k
  ·intro y0 y1 y2 y3
   unfold ident_luhn.l0
   repeat' first
   | (with_reducible exact ih0 _ _ _ _)
   | (with_reducible exact LeO.refl _)
   | (with_reducible exact LeO.none _)
   | (with_reducible refine LeO.ite ?_ ?_)
   | (with_reducible refine LeO.bind ?_ (fun _ => ?_))
   | exact ih0 _ _ _ _
   | exact LeO.none _
   | refine LeO.ite ?_ ?_
   | refine LeO.bind ?_ (fun _ => ?_)
theorem ident_luhn.mono : ∀ a0 k, LeO (ident_luhn.f k a0) (ident_luhn.f (k + 1) a0) := by
 intro a0 k
 have ih0 := ident_luhn.mono_l k
 unfold ident_luhn.f
 repeat' first
   | (with_reducible exact ih0 _ _ _ _)
   | (with_reducible exact LeO.refl _)
   | (with_reducible exact LeO.none _)
   | (with_reducible refine LeO.ite ?_ ?_)
   | (with_reducible refine LeO.bind ?_ (fun _ => ?_))
   | exact ih0 _ _ _ _
   | exact LeO.none _
   | refine LeO.ite ?_ ?_
   | refine LeO.bind ?_ (fun _ => ?_)
set_option maxHeartbeats 8000000 in
set_option maxRecDepth 100000 in
theorem ident_luhn.calls (k : Nat) (a0 : ByteArray) (r : ByteArray) (w : World) (h : ident_luhn.f k a0 = some r) :
  Calls Tryd.prog 86 #[.string a0] w fun e w' => e = .returned (.string r) ∧ Below w.heap.size w w' := by
 have HB := Aside0.mk (Below.refl w.heap.size w)
 have H : ((ident_expand.f a0).bind fun t101 => (ident_luhn.l0 k t101 0 (t101.size : Int) 0)) = some r := h
 clear h
 replace H := Option.bind_eq_some_iff.mp H
 obtain ⟨t101, A20, H⟩ := H
 replace H : (ident_luhn.l0 k t101 0 (t101.size : Int) 0) = some r := H
 have A2 := Aside0.mk A20
 clear A20
 have H' := Aside0.mk H
 clear H
 go_enter Tryd.func86, Tryd.ntmps86
 go_wp2_with (first | ((with_reducible refine gate_callee (f := 95) rfl ?_); refine goesL_ (some 8) rfl rfl Tryd.func95 (by kernel_rfl) rfl #[.string a0] rfl (by (try simp only [List.map_toArray, List.map_cons, List.map_nil]); first | done | rfl | (simp only [List.length_drop, List.length_take]; rfl)) ?_; (with_reducible refine (ident_expand.calls a0 t101 _ A2.out).mono ?_); rintro e w3 ⟨rfl, hb⟩; refine ⟨_, rfl, ?_⟩; have n0_ := Aside0.mk (below_step (by repeat (first | (with_reducible first | exact HB.out | apply below_alloc | apply pw_below_drewN | apply below_drew1) | exact HB.out)) hb); clear HB; have HB := n0_; clear n0_; (try clear hb); (try clear hb2); (try clear hk); (try clear hi)))
 go_loopg [4, 11] k (fun kq v4 v11 w' => ∃ (x4_1 : Int) (x11_1 : Int), v4 = .int .i64 x4_1 ∧ v11 = .int .i64 x11_1 ∧ Aside0 (ident_luhn.l0 kq t101 x4_1 (t101.size : Int) x11_1 = some r) ∧ Aside0 (kq ≤ k) ∧ Aside0 (Below w.heap.size w w'))
 case atStart => exact ⟨(0), (0), (by first | rfl | (simp; done) | (simp [*]; done)), (by first | rfl | (simp; done) | (simp [*]; done)), H', ⟨Nat.le_refl _⟩, ⟨by repeat (first | (with_reducible first | exact HB.out | apply below_alloc | apply pw_below_drewN | apply below_drew1) | exact HB.out)⟩⟩
 case round =>
  clear H'
  try clear p2
  obtain ⟨x4_1, x11_1, rfl, rfl, HA, HK1, HB⟩ := hrel
  cases gk with
  | zero => exact absurd HA.out (by simp [ident_luhn.l0])
  | succ k1 =>
   have H := HA.out
   clear HA
   simp only [ident_luhn.l0] at H
   by_cases c4 : x11_1 < (t101.size : Int)
   ·rw [if_pos c4] at H
    have c4b0 : decide (x11_1 < (t101.size : Int)) = true := decide_eq_true c4
    clear c4
    obtain ⟨ji5, hji5⟩ : ∃ j_ : Int, (wrap64 ((wrap64 ((t101.size : Int) - 1)) - x11_1)) = j_ := ⟨_, rfl⟩
    replace H : (if 0 ≤ (ji5) then (if (ji5) < (t101.size : Int) then (if (Int.tmod x11_1 2) = 0 then (ident_luhn.l0 k1 t101 (wrap64 (x4_1 + ((((((bt t101 (ji5)) - 48) % 256) * 2) / 10) + (((((bt t101 (ji5)) - 48) % 256) * 2) % 10)))) (t101.size : Int) (wrap64 (x11_1 + 1))) else (ident_luhn.l0 k1 t101 (wrap64 (x4_1 + (((((bt t101 (ji5)) - 48) % 256) / 10) + ((((bt t101 (ji5)) - 48) % 256) % 10)))) (t101.size : Int) (wrap64 (x11_1 + 1)))) else (none)) else (none)) = some r := by first | (rw [hji5] at H; exact H) | (simp only [hji5] at H ⊢; exact H)
    have hji5w : (IntKind.i64.wrap ((wrap64 ((t101.size : Int) - 1)) - x11_1)) = ji5 := (i64_w _).trans hji5
    by_cases c6 : 0 ≤ (ji5)
    ·rw [if_pos c6] at H
     have c6b0 : decide (0 ≤ (ji5)) = true := decide_eq_true c6
     clear c6
     by_cases c7 : (ji5) < (t101.size : Int)
     ·rw [if_pos c7] at H
      have c7b0 : decide ((ji5) < (t101.size : Int)) = true := decide_eq_true c7
      clear c7
      by_cases c9 : (Int.tmod x11_1 2) = 0
      ·rw [if_pos c9] at H
       have c9b0 : ((Int.tmod x11_1 2) == 0) = true := beq_iff_eq.mpr c9
       have c9b1 : ((Int.tmod x11_1 2) != 0) = false := bne_eq_false_iff_eq.mpr c9
       clear c9
       have H' := Aside0.mk H
       clear H
       have p8 : 0 ≤ ((ji5) : Int) := of_decide_eq_true (by first | (with_reducible assumption) | assumption)
       have q8 : (ji5) < (t101.size : Int) := of_decide_eq_true (by first | (with_reducible assumption) | assumption)
       have hx8 := bt_at t101 (ji5)
       replace p8 := eq_true p8
       replace q8 := eq_true q8
       go_wp2
       go_roundg k1
       case measure => have := HK1.out; omega
       case rel => exact ⟨(wrap64 (x4_1 + ((((((bt t101 (ji5)) - 48) % 256) * 2) / 10) + (((((bt t101 (ji5)) - 48) % 256) * 2) % 10)))), (wrap64 (x11_1 + 1)), (by first | rfl | (simp; done) | (simp only [← hji5] <;> (first | rfl | simp)) | (simp [*]; done)), (by first | rfl | (simp; done) | (simp [*]; done)), H', ⟨by have := HK1.out; omega⟩, ⟨by repeat (first | (with_reducible first | exact HB.out | apply below_alloc | apply pw_below_drewN | apply below_drew1) | exact HB.out)⟩⟩
      ·rw [if_neg c9] at H
       have c9b0 : ((Int.tmod x11_1 2) == 0) = false := beq_eq_false_iff_ne.mpr c9
       have c9b1 : ((Int.tmod x11_1 2) != 0) = true := bne_iff_ne.mpr c9
       have H' := Aside0.mk H
       clear H
       have p8 : 0 ≤ ((ji5) : Int) := of_decide_eq_true (by first | (with_reducible assumption) | assumption)
       have q8 : (ji5) < (t101.size : Int) := of_decide_eq_true (by first | (with_reducible assumption) | assumption)
       have hx8 := bt_at t101 (ji5)
       replace p8 := eq_true p8
       replace q8 := eq_true q8
       go_wp2
       go_roundg k1
       case measure => have := HK1.out; omega
       case rel => exact ⟨(wrap64 (x4_1 + (((((bt t101 (ji5)) - 48) % 256) / 10) + ((((bt t101 (ji5)) - 48) % 256) % 10)))), (wrap64 (x11_1 + 1)), (by first | rfl | (simp; done) | (simp only [← hji5] <;> (first | rfl | simp)) | (simp [*]; done)), (by first | rfl | (simp; done) | (simp [*]; done)), H', ⟨by have := HK1.out; omega⟩, ⟨by repeat (first | (with_reducible first | exact HB.out | apply below_alloc | apply pw_below_drewN | apply below_drew1) | exact HB.out)⟩⟩
     ·rw [if_neg c7] at H
      exact absurd H (by simp)
    ·rw [if_neg c6] at H
     exact absurd H (by simp)
   ·rw [if_neg c4] at H
    have c4b0 : decide (x11_1 < (t101.size : Int)) = false := decide_eq_false c4
    clear c4
    replace H := Option.bind_eq_some_iff.mp H
    obtain ⟨t102, A100, H⟩ := H
    replace H : (some t102) = some r := H
    have A10 := Aside0.mk A100
    clear A100
    obtain rfl := Option.some.inj H
    go_wp2_with (first | ((with_reducible refine gate_callee (f := 96) rfl ?_); refine goesL_ (some 40) rfl rfl Tryd.func96 (by kernel_rfl) rfl #[.int .i64 (Int.tmod (wrap64 (10 - (Int.tmod x4_1 10))) 10)] rfl (by (try simp only [List.map_toArray, List.map_cons, List.map_nil]); first | done | rfl | (simp only [List.length_drop, List.length_take]; rfl)) ?_; (with_reducible refine (strconv_Itoa.calls (Int.tmod (wrap64 (10 - (Int.tmod x4_1 10))) 10) t102 _ A10.out).mono ?_); rintro e w11 ⟨rfl, hb⟩; refine ⟨_, rfl, ?_⟩; have n0_ := Aside0.mk (below_step (by repeat (first | (with_reducible first | exact HB.out | apply below_alloc | apply pw_below_drewN | apply below_drew1) | exact HB.out)) hb); clear HB; have HB := n0_; clear n0_; (try clear hb); (try clear hb2); (try clear hk); (try clear hi)))
    go_ret
    exact ⟨by first | rfl | (simp [errW_none, errW_some] <;> rfl) | (simp [*, errW_none, errW_some] <;> rfl), by repeat (first | (with_reducible first | exact HB.out | apply below_alloc | apply pw_below_drewN | apply below_drew1) | exact HB.out)⟩
end Go.Proofs.YtpclapnmiacfpaaDoor.L
end
section
namespace Go.Proofs.YtpclapnmiacfpaaDoor.L
open Go.RowKit Go.Proofs.YtpclapnmiacfpaaDoorW.PrintWords Go.Proofs.YtpclapnmiacfpaaDoorW.PrintLast Go.Proofs.YtpclapnmiacfpaaDoorW.PrintMore
attribute [local go_sem] max2_int min2_int max_two min_two max_three min_three max_four min_four
set_option linter.unusedVariables false
set_option linter.unusedSimpArgs false
end Go.Proofs.YtpclapnmiacfpaaDoor.L
end
section
namespace Go.Proofs.YtpclapnmiacfpaaDoor.Hand
open Go.RowKit
abbrev fv (g : Nat) : Value := .func (.func g) #[] #[]
def fnOf : Nat → Nat
  | 0 => 83
  | 1 => 84
  | 2 => 85
  | _ => 87
def prOf (q : Nat) (a : Int) : Bool := if q = 0 then upC a else if q = 1 then anC a else if q = 2 then dgC a else rfC a
noncomputable def kindsV (w : World) : Value := .agg #[.int .i64 12, .slice (some ⟨w.heap.size + 1, 0, none⟩) 3 3, .int .i64 11, fv 86, .int .i64 4, .slice (some ⟨w.heap.size + 1 + 1, 0, none⟩) 2 2, .int .i64 0, .nilFunc, .int .i64 1, .slice (some ⟨w.heap.size + 1 + 1 + 1, 0, none⟩) 1 1, .int .i64 0, .nilFunc, .int .i64 20, .slice (some ⟨w.heap.size + 1 + 1 + 1 + 1, 0, none⟩) 2 2, .int .i64 18, fv 88]
structure KindsW (w w' : World) : Prop where
  below : Below w.heap.size w w'
  size : w'.heap.size = w.heap.size + 5
  b1 : w'.heap[w.heap.size + 1]? = some (.cells #[.int .i64 2, fv 83, .int .i64 9, fv 84, .int .i64 1, fv 85] 140)
  b2 : w'.heap[w.heap.size + 2]? = some (.cells #[.int .i64 1, fv 83, .int .i64 7, fv 84] 140)
  b3 : w'.heap[w.heap.size + 3]? = some (.cells #[.int .i64 16, fv 87] 140)
set_option maxHeartbeats 2000000 in
set_option maxRecDepth 100000 in
theorem kinds_c (w : World) : Calls Tryd.prog 69 #[] w fun e w' => e = .returned (kindsV w) ∧ KindsW w w' := by
  go_enter Tryd.func69, Tryd.ntmps69
  go_wp2
  refine bodyPost_ret (v := kindsV w) (by simp [results, Tryd.results69, go_sem, kindsV]) rfl ⟨rfl, ?_, ?_, ?_, ?_, ?_⟩
  · exact (((((Below.refl _ w).alloc (Nat.le_refl _) _).alloc (by simp) _).alloc (by simp; omega) _).alloc (by simp; omega) _).alloc (by simp; omega) _
  · simp
  · exact (Lib.alloc_old _ _ _ (by simp only [World.size_alloc]; omega)).trans ((Lib.alloc_old _ _ _ (by simp only [World.size_alloc]; omega)).trans ((Lib.alloc_old _ _ _ (by simp only [World.size_alloc]; omega)).trans (heap_at _ _ _ (by simp only [World.size_alloc]))))
  · exact (Lib.alloc_old _ _ _ (by simp only [World.size_alloc]; omega)).trans ((Lib.alloc_old _ _ _ (by simp only [World.size_alloc]; omega)).trans (heap_at _ _ _ (by simp only [World.size_alloc])))
  · exact (Lib.alloc_old _ _ _ (by simp only [World.size_alloc]; omega)).trans (heap_at _ _ _ (by simp only [World.size_alloc]))
end Go.Proofs.YtpclapnmiacfpaaDoor.Hand
end
section
namespace Go.Proofs.YtpclapnmiacfpaaDoor.Hand
open Go.RowKit
def spanL (sp : List (Nat × Nat)) : List Nat := sp.flatMap fun x => List.replicate x.1 x.2
theorem spanL_snoc (sp : List (Nat × Nat)) (x : Nat × Nat) : spanL (sp ++ [x]) = spanL sp ++ List.replicate x.1 x.2 := by simp [spanL]
theorem infoClass : (Tryd.prog.info? 138).map (fun i => (i.zero, i.size, i.bytes)) = some (some .nilFunc, 1, 8) := by kernel_rfl
theorem take_snocN (sp : List (Nat × Nat)) (k : Nat) (h : k < sp.length) : sp.take (k + 1) = sp.take k ++ [sp.getD k (0, 0)] := by
  rw [List.take_succ_eq_append_getElem h]; simp [List.getD_eq_getElem?_getD, h]
theorem spanL_take_le (sp : List (Nat × Nat)) (k : Nat) : (spanL (sp.take k)).length ≤ (spanL sp).length := by
  have h : spanL sp = spanL (sp.take k) ++ spanL (sp.drop k) := by unfold spanL; rw [← List.flatMap_append, List.take_append_drop]
  rw [h, List.length_append]; omega
set_option maxHeartbeats 4000000 in
set_option maxRecDepth 100000 in
theorem classes_c (bs : Nat) (a0 a2 : Int) (a3 : Value) (sp : List (Nat × Nat)) (w : World)
    (hc : ∀ j, j < sp.length → w.cell? ⟨bs, j * 2, none⟩ = some (.int .i64 (sp.getD j (0, 0)).1) ∧ w.cell? ⟨bs, j * 2 + 1, none⟩ = some (fv (fnOf (sp.getD j (0, 0)).2)))
    (hsp : sp.length ≤ 10) (hlen : (spanL sp).length ≤ 100) :
    Calls Tryd.prog 71 #[.agg #[.int .i64 a0, .slice (some ⟨bs, 0, none⟩) sp.length sp.length, .int .i64 a2, a3]] w fun e w' => ∃ v, e = .returned v ∧ w'.ownsRow w.heap.size 138 1 v (spanL sp).length ((spanL sp).map fun q => fv (fnOf q)) ∧ Below w.heap.size w w' := by
  obtain ⟨i0, hi, hz0, hz1, hz2⟩ := info_parts infoClass
  have HC := Lib.hid hc
  clear hc
  have hbx : Below w.heap.size w (w.alloc (.cells #[.int .i64 a0, .slice (some ⟨bs, 0, none⟩) sp.length sp.length, .int .i64 a2, a3] 119)) := (Below.refl _ _).alloc (Nat.le_refl _) _
  go_enter Tryd.func71, Tryd.ntmps71
  go_wp2
  go_loopw [3, 9] (fun v3 v9 wr => ∃ j : Nat, j ≤ sp.length ∧ v9 = .int .i64 j ∧ wr.ownsRow w.heap.size 138 1 v3 (spanL (sp.take j)).length ((spanL (sp.take j)).map fun q => fv (fnOf q)) ∧ Below w.heap.size w wr ∧ w.heap.size < wr.heap.size) (fun _ v9 _ => sp.length - (intOf v9).toNat)
  case atStart => exact ⟨0, Nat.zero_le _, rfl, World.ownsRow_nil _ _ _ _, hbx, by simp⟩
  case round =>
    obtain ⟨j, hj, rfl, hown, hB, hlt0⟩ := hrel
    by_cases hlt : j < sp.length
    · have c1 := (hB.cell (p := ⟨bs, j * 2, none⟩) (World.block_lt_of_cell? _ _ (HC.out j hlt).1)).trans (HC.out j hlt).1
      have c2 := (hB.cell (p := ⟨bs, j * 2 + 1, none⟩) (World.block_lt_of_cell? _ _ (HC.out j hlt).2)).trans (HC.out j hlt).2
      generalize hx : sp.getD j (0, 0) = x at c1 c2
      obtain ⟨n, q⟩ := x
      have HX := Lib.hid hx
      clear hx
      have hn100 : (spanL (sp.take j)).length + n ≤ 100 := by
        have h1 := spanL_take_le sp (j + 1)
        rw [take_snocN sp j hlt, HX.out, spanL_snoc, List.length_append, List.length_replicate] at h1
        omega
      obtain ⟨L0, hL0⟩ : ∃ L0, L0 = spanL (sp.take j) := ⟨_, rfl⟩
      rw [← hL0] at hown hn100
      have HL0 := Lib.hid hL0
      clear hL0 hlen
      obtain ⟨wo, rfl⟩ : ∃ wo : World, wo = wr := ⟨_, rfl⟩
      go_wp2
      go_loopw [3, 15] (fun v3 v15 wi => ∃ i : Nat, i ≤ n ∧ v15 = .int .i64 i ∧ wi.ownsRow w.heap.size 138 1 v3 (L0.length + i) (L0.map (fun q => fv (fnOf q)) ++ List.replicate i (fv (fnOf q))) ∧ wi.heap[wo.heap.size]? = some (.cells #[.int .i64 n, fv (fnOf q)] 140) ∧ Below w.heap.size w wi ∧ wo.heap.size < wi.heap.size) (fun _ v15 _ => n - (intOf v15).toNat)
      case atStart => exact ⟨0, Nat.zero_le _, rfl, by simpa using hown.alloc _, heap_at _ _ _ rfl, hB.alloc (by omega) _, by simp⟩
      case round =>
        obtain ⟨i, hi1, rfl, hown1, hbk, hB1, hlt1⟩ := hrel
        by_cases hin : i < n
        · have hcell : wr.cell? ⟨wo.heap.size, 1, none⟩ = some (fv (fnOf q)) := by rw [Lib.cell_of_heap hbk]; rfl
          have HBK := Lib.hid hbk
          clear hbk
          go_wp2_with (at_builtin; refine wpList_append_own _ rfl _ _ 123 rfl w.heap.size 138 i0 .nilFunc 1 8 Tryd.underlying123 hi hz0 hz1 hz2 rfl (by decide) _ _ _ rfl (hown1.alloc _) ⟨wr.heap.size, 0, none⟩ 1 1 [fv (fnOf q)] rfl rfl ?c1 ?c2 ?c3 ?c4 ?c5 ?_)
          case c1 => exact cell_one_new _ _ _
          case c2 => intro u hu; simp at hu; subst hu; rfl
          case c3 => unfold maxLen; omega
          case c4 => omega
          case c5 => have := hB1.size; simp; omega
          intro v' w2 hown' hgrow _
          have hne : u3.ownBlock ≠ some wo.heap.size := by
            intro he
            obtain ⟨c, fz, hk⟩ := Lib.ownsRow_kind hown1 _ he
            rw [HBK.out] at hk
            simp at hk
          have hbk2 : w2.heap[wo.heap.size]? = some (.cells #[.int .i64 n, fv (fnOf q)] 140) := by
            rw [hgrow.block wo.heap.size (by simp only [World.size_alloc]; omega) (fun e => hne e.symm), Lib.alloc_old wr _ _ hlt1]
            exact HBK.out
          go_wp2
          go_roundw
          case rel =>
            refine ⟨i + 1, by omega, by go_num, ?_, hbk2, (hB1.alloc (by have := hB1.size; omega) _).grown hgrow (by have := hB1.size; simp; omega) (fun k hk => (hown1.lt k hk).1), ?_⟩
            · have : L0.map (fun q => fv (fnOf q)) ++ List.replicate (i + 1) (fv (fnOf q)) = (L0.map (fun q => fv (fnOf q)) ++ List.replicate i (fv (fnOf q))) ++ [fv (fnOf q)] := by
                rw [List.replicate_succ', List.append_assoc]
              rw [this, List.append_assoc, ← Nat.add_assoc]; simpa using hown'
            · have := hgrow.size; simp at this; omega
          case measure => simp [intOf]; omega
        · have hie : i = n := by omega
          subst hie
          go_wp2
          go_roundw
          case rel =>
            refine ⟨j + 1, by omega, by go_num, ?_, hB1, by omega⟩
            rw [take_snocN sp j hlt, HX.out, spanL_snoc, ← HL0.out]
            simpa using hown1
          case measure => simp [intOf]; omega
    · have hje : j = sp.length := by omega
      subst hje
      go_wp2
      go_ret
      rw [List.take_length] at hown
      exact ⟨_, rfl, hown, hB⟩
end Go.Proofs.YtpclapnmiacfpaaDoor.Hand
end
section
namespace Go.Proofs.YtpclapnmiacfpaaDoor.Hand
open Go.RowKit
def prefB (gs : List Nat) (sh : Nat) (l : List UInt8) : Bool := (List.zip gs l).all (fun x => prOf x.1 x.2.toNat) && decide (sh ≤ l.length) && decide (l.length ≤ gs.length)
theorem prefB_iff (gs : List Nat) (sh : Nat) (l : List UInt8) : prefB gs sh l = true ↔ (∀ i, i < gs.length → i < l.length → prOf (gs.getD i 0) ((l.getD i 0).toNat : Int) = true) ∧ sh ≤ l.length ∧ l.length ≤ gs.length := by
  simp only [prefB, Bool.and_eq_true, decide_eq_true_eq, and_assoc]
  refine and_congr_left fun _ => ?_
  rw [List.all_eq_true]
  constructor
  · intro h i h1 h2
    have := h (gs[i], l[i]) (List.mem_iff_getElem.2 ⟨i, by simp; omega, by simp⟩)
    simpa [List.getD_eq_getElem?_getD, h1, h2] using this
  · intro h x hx
    obtain ⟨i, hi, rfl⟩ := List.mem_iff_getElem.1 hx
    have h1 : i < gs.length := by simp at hi; omega
    have h2 : i < l.length := by simp at hi; omega
    have := h i h1 h2
    simpa [List.getD_eq_getElem?_getD, h1, h2] using this
def PrefRes (gs : List Nat) (sh : Nat) (s : ByteArray) (e : Ending) : Prop := ∃ at' er : Int, e = .returned (.tuple #[.int .i64 at', .int .i64 er]) ∧ (er = 0 ↔ prefB gs sh s.data.toList = true)
def ChkTo (gs : List Nat) (s : ByteArray) (k : Nat) : Prop := ∀ i, i < k → (h : i < s.size) → prOf (gs.getD i 0) (s[i].toNat : Int) = true
theorem getD_at (s : ByteArray) (i : Nat) (h : i < s.size) : s.data.toList.getD i 0 = s[i] := by
  have h' : i < s.data.toList.length := by simpa using h
  rw [List.getD_eq_getElem?_getD, List.getElem?_eq_getElem h']; rfl
theorem chk_snoc {gs : List Nat} {s : ByteArray} {k : Nat} (h : ChkTo gs s k) (hk : (h : k < s.size) → prOf (gs.getD k 0) (s[k].toNat : Int) = true) : ChkTo gs s (k + 1) := by
  intro i hi hs
  by_cases e : i = k
  · subst e; exact hk hs
  · exact h i (by omega) hs
theorem pref_bad {gs : List Nat} {sh : Nat} {s : ByteArray} {k : Nat} (hk : k < gs.length) (hs : k < s.size) (h : prOf (gs.getD k 0) (s[k].toNat : Int) = false) : prefB gs sh s.data.toList = false := by
  rw [Bool.eq_false_iff]
  intro hp
  have := ((prefB_iff _ _ _).1 hp).1 k hk (by simpa using hs)
  rw [getD_at s k hs, h] at this
  cases this
theorem pref_end {gs : List Nat} {sh : Nat} {s : ByteArray} (h : ChkTo gs s gs.length) : prefB gs sh s.data.toList = true ↔ sh ≤ s.size ∧ s.size ≤ gs.length := by
  rw [prefB_iff]
  have hl : s.data.toList.length = s.size := by simp
  rw [hl]
  refine ⟨fun h => h.2, fun h2 => ⟨fun i h1 h3 => ?_, h2⟩⟩
  rw [getD_at s i h3]
  exact h i h1 h3
theorem prRes_mk {gs : List Nat} {sh : Nat} {s : ByteArray} {at' er : Int} (h : er = 0 ↔ prefB gs sh s.data.toList = true) : PrefRes gs sh s (.returned (.tuple #[.int .i64 at', .int .i64 er])) := ⟨_, _, rfl, h⟩
theorem class_c (q : Nat) (a : Int) (w : World) : Calls Tryd.prog (fnOf q) #[.int .u8 a] w fun e w' => e = .returned (.bool (prOf q a)) ∧ w = w' := by
  match q with
  | 0 => exact letter_c a w
  | 1 => exact alnum_c a w
  | 2 => exact digit_c a w
  | n + 3 => exact refch_c a w
set_option maxHeartbeats 4000000 in
set_option maxRecDepth 100000 in
theorem prefix_c (g c : Nat) (gs : List Nat) (hg : ∀ q ∈ gs, q < 4) (hlen : gs.length ≤ 100) (sh : Nat) (hsh : sh ≤ 100) (s : ByteArray) (hs : s.size ≤ maxLen) (w : World)
    (hc : ∀ i, i < gs.length → w.cell? ⟨g, i, none⟩ = some (fv (fnOf (gs.getD i 0)))) :
    Calls Tryd.prog 70 #[.slice (some ⟨g, 0, none⟩) gs.length c, .int .i64 sh, .string s] w fun e w' => PrefRes gs sh s e ∧ w = w' := by
  unfold maxLen at hs
  have HC := Lib.hid hc
  have HG := Lib.hid hg
  clear hc hg
  go_enter Tryd.func70, Tryd.ntmps70
  go_wp2
  go_loop [12] (fun v => ∃ k : Nat, k ≤ gs.length ∧ v = .int .i64 k ∧ ChkTo gs s k) (fun v => gs.length - (intOf v).toNat)
  case atStart => exact ⟨0, Nat.zero_le _, rfl, fun i hi => by omega⟩
  case round =>
    obtain ⟨k, hk, rfl, hchk⟩ := hrel
    have HK := Lib.hid hchk
    clear hchk
    by_cases hlt : k < gs.length
    · have hcell := HC.out k hlt
      have hq : gs.getD k 0 < 4 := HG.out _ (by rw [List.getD_eq_getElem?_getD, List.getElem?_eq_getElem hlt]; exact List.getElem_mem _)
      obtain ⟨q, hqe⟩ : ∃ q, q = gs.getD k 0 := ⟨_, rfl⟩
      rw [← hqe] at hcell hq
      have HQ := Lib.hid hqe
      clear hqe
      by_cases hin : k < s.size
      · obtain hq4 : q = 0 ∨ q = 1 ∨ q = 2 ∨ q = 3 := by omega
        cases hv : prOf q (s[k].toNat : Int) with
        | true =>
          have HV := Lib.hid hv
          clear hv hq
          rcases hq4 with rfl | rfl | rfl | rfl
          all_goals
            have hcell' := hcell
            dsimp only [fnOf, fv] at hcell'
            clear hcell
            go_wp2_with (first | (go_at_call 83; refine (class_c 0 _ _).mono ?_; rintro e w' ⟨rfl, rfl⟩; rw [HV.out]) | (go_at_call 84; refine (class_c 1 _ _).mono ?_; rintro e w' ⟨rfl, rfl⟩; rw [HV.out]) | (go_at_call 85; refine (class_c 2 _ _).mono ?_; rintro e w' ⟨rfl, rfl⟩; rw [HV.out]) | (go_at_call 87; refine (class_c 3 _ _).mono ?_; rintro e w' ⟨rfl, rfl⟩; rw [HV.out]))
            go_round
            case rel => exact ⟨k + 1, by omega, by go_num, chk_snoc HK.out (fun _ => by rw [← HQ.out]; exact HV.out)⟩
            case measure => simp [intOf]; omega
        | false =>
          have HV := Lib.hid hv
          clear hv hq
          have HP := Lib.hid (pref_bad (sh := sh) hlt hin (by rw [← HQ.out]; exact HV.out))
          rcases hq4 with rfl | rfl | rfl | rfl
          all_goals
            have hcell' := hcell
            dsimp only [fnOf, fv] at hcell'
            clear hcell
            go_wp2_with (first | (go_at_call 83; refine (class_c 0 _ _).mono ?_; rintro e w' ⟨rfl, rfl⟩; rw [HV.out]) | (go_at_call 84; refine (class_c 1 _ _).mono ?_; rintro e w' ⟨rfl, rfl⟩; rw [HV.out]) | (go_at_call 85; refine (class_c 2 _ _).mono ?_; rintro e w' ⟨rfl, rfl⟩; rw [HV.out]) | (go_at_call 87; refine (class_c 3 _ _).mono ?_; rintro e w' ⟨rfl, rfl⟩; rw [HV.out]))
            go_ret2
            exact ⟨prRes_mk (by rw [HP.out]; simp), rfl⟩
      · go_wp2
        go_round
        case rel => exact ⟨k + 1, by omega, by go_num, chk_snoc HK.out (fun h => absurd h hin)⟩
        case measure => simp [intOf]; omega
    · have hke : k = gs.length := by omega
      have hend := pref_end (sh := sh) (hke ▸ HK.out)
      have HE := Lib.hid hend
      have HKE := Lib.hid hke
      clear hend hke
      by_cases h1 : s.size < sh
      · go_wp2
        go_ret2
        exact ⟨prRes_mk (by rw [HE.out]; constructor <;> intro h <;> omega), rfl⟩
      · by_cases h2 : gs.length < s.size
        · go_wp2
          go_ret2
          exact ⟨prRes_mk (by rw [HE.out]; constructor <;> intro h <;> omega), rfl⟩
        · go_wp2
          go_ret2
          exact ⟨prRes_mk (by rw [HE.out]; constructor <;> intro h <;> omega), rfl⟩
end Go.Proofs.YtpclapnmiacfpaaDoor.Hand
end
section
set_option linter.unusedVariables false
namespace Go.Proofs.YtpclapnmiacfpaaDoor.Hand
open Go.RowKit Go.Proofs.YtpclapnmiacfpaaDoorW.PrintWords
def luE (i : Nat) (b : Int) : Int := if i % 2 = 0 then (b * 2) / 10 + (b * 2) % 10 else b / 10 + b % 10
def luS (t : ByteArray) : Nat → Int
  | 0 => 0
  | k + 1 => luS t k + luE k (bt t ((t.size : Int) - 1 - k) - 48)
theorem luS_zero (t : ByteArray) : luS t 0 = 0 := rfl
theorem luS_succ (t : ByteArray) (k : Nat) : luS t (k + 1) = luS t k + luE k (bt t ((t.size : Int) - 1 - k) - 48) := rfl
theorem luE_bd (i : Nat) (b : Int) (h0 : 0 ≤ b) (h9 : b ≤ 9) : 0 ≤ luE i b ∧ luE i b ≤ 9 := by
  unfold luE; split <;> omega
def DigB (t : ByteArray) : Prop := ∀ j : Int, 0 ≤ j → j < t.size → 48 ≤ bt t j ∧ bt t j ≤ 57
theorem luS_bd (t : ByteArray) (hd : DigB t) : ∀ i : Nat, i ≤ t.size → 0 ≤ luS t i ∧ luS t i ≤ 9 * i
  | 0, _ => by simp [luS]
  | i + 1, h => by
    have h1 := luS_bd t hd i (by omega)
    have h2 := hd ((t.size : Int) - 1 - i) (by omega) (by omega)
    have h3 := luE_bd i (bt t ((t.size : Int) - 1 - i) - 48) (by omega) (by omega)
    simp only [luS]
    omega
def luV (t : ByteArray) : Int := (10 - luS t t.size % 10) % 10
theorem luV_def (t : ByteArray) : luV t = (10 - luS t t.size % 10) % 10 := rfl
theorem luV_bd (t : ByteArray) : 0 ≤ luV t ∧ luV t ≤ 9 := by unfold luV; omega
theorem luhn_loop (t : ByteArray) (ht : t.size ≤ 1000) (hd : DigB t) : ∀ (d i k : Nat), i + d = t.size → d < k → L.ident_luhn.l0 k t (luS t i) (t.size : Int) (i : Int) = L.strconv_Itoa.f (luV t)
  | 0, i, k, h, hk => by
    obtain ⟨k, rfl⟩ : ∃ m, k = m + 1 := ⟨k - 1, by omega⟩
    have hb := luS_bd t hd i (by omega)
    have hi : i = t.size := by omega
    subst hi
    simp only [L.ident_luhn.l0]
    rw [if_neg (by omega)]
    have e1 : Int.tmod (luS t t.size) 10 = luS t t.size % 10 := Int.tmod_eq_emod_of_nonneg hb.1
    rw [e1]
    have e2 : wrap64 (10 - luS t t.size % 10) = 10 - luS t t.size % 10 := by unfold wrap64; omega
    rw [e2, Int.tmod_eq_emod_of_nonneg (by omega), ← luV_def t]
    generalize L.strconv_Itoa.f (luV t) = o
    cases o with
    | none => rfl
    | some x => rfl
  | d + 1, i, k, h, hk => by
    obtain ⟨k, rfl⟩ : ∃ m, k = m + 1 := ⟨k - 1, by omega⟩
    have hb := luS_bd t hd i (by omega)
    have hx := hd ((t.size : Int) - 1 - i) (by omega) (by omega)
    have he := luE_bd i (bt t ((t.size : Int) - 1 - i) - 48) (by omega) (by omega)
    have ih := luhn_loop t ht hd d (i + 1) k (by omega) (by omega)
    have w1 : wrap64 (wrap64 ((t.size : Int) - 1) - i) = (t.size : Int) - 1 - i := by unfold wrap64; omega
    have w2 : wrap64 ((i : Int) + 1) = ((i + 1 : Nat) : Int) := by unfold wrap64; omega
    have e1 : Int.tmod (i : Int) 2 = (i : Int) % 2 := Int.tmod_eq_emod_of_nonneg (by omega)
    have hsx : luS t (i + 1) = luS t i + luE i (bt t ((t.size : Int) - 1 - i) - 48) := rfl
    have c1 : (i : Int) < (t.size : Int) := by omega
    have c2 : 0 ≤ (t.size : Int) - 1 - i := by omega
    have c3 : (t.size : Int) - 1 - i < (t.size : Int) := by omega
    have hb2 : luS t i ≤ 9000 := by omega
    simp only [L.ident_luhn.l0]
    rw [if_pos c1, w1, if_pos c2, if_pos c3, w2, e1]
    clear w1 w2 e1 c1 c2 c3
    generalize bt t ((t.size : Int) - 1 - i) = B at hx he hsx ⊢
    have m1 : (B - 48) % 256 = B - 48 := by omega
    rw [m1]
    have hl0 := hb.1
    clear hb hd ht h hk
    generalize luS t i = S at hb2 hl0 hsx ⊢
    by_cases hp : (i : Int) % 2 = 0
    · rw [if_pos hp]
      have hq : i % 2 = 0 := by omega
      have hs : luS t (i + 1) = S + ((B - 48) * 2 / 10 + (B - 48) * 2 % 10) := by rw [hsx]; unfold luE; rw [if_pos hq]
      have w3 : wrap64 (S + ((B - 48) * 2 / 10 + (B - 48) * 2 % 10)) = luS t (i + 1) := by rw [hs]; unfold wrap64; omega
      rw [w3]; exact ih
    · rw [if_neg hp]
      have hq : ¬ i % 2 = 0 := by omega
      have hs : luS t (i + 1) = S + ((B - 48) / 10 + (B - 48) % 10) := by rw [hsx]; unfold luE; rw [if_neg hq]
      have w3 : wrap64 (S + ((B - 48) / 10 + (B - 48) % 10)) = luS t (i + 1) := by rw [hs]; unfold wrap64; omega
      rw [w3]; exact ih
theorem ofNat_toNat (n : Nat) (h : n < 256) : (UInt8.ofNat n).toNat = n := by simp [UInt8.toNat_ofNat']; omega
theorem decDigits_dig (n : Nat) (h : n < 100) : ∀ d ∈ Lib.decDigits n, 48 ≤ d.toNat ∧ d.toNat ≤ 57 := by
  rw [Lib.decDigits]
  split
  · intro d hd; rw [List.mem_singleton] at hd; subst hd; rw [ofNat_toNat _ (by omega)]; omega
  · rw [Lib.decDigits]
    split
    · intro d hd; rw [List.mem_append, List.mem_singleton, List.mem_singleton] at hd; rcases hd with rfl | rfl <;> rw [ofNat_toNat _ (by omega)] <;> omega
    · omega
theorem expL_dig (l : List UInt8) (h : ∀ c ∈ l, anC c.toNat = true) : ∀ d ∈ expL l, 48 ≤ d.toNat ∧ d.toNat ≤ 57 := by
  intro d hd
  obtain ⟨c, hc, hd⟩ := List.mem_flatMap.1 hd
  have hc' := (anC_iff _).1 (h c hc)
  unfold expC at hd
  split at hd
  · rename_i hg; simp at hd; subst hd; have := (dgC_iff _).1 hg; omega
  · exact decDigits_dig _ (by omega) d hd
def expB (l : List UInt8) : ByteArray := ⟨(expL l).toArray⟩
theorem expB_dig (l : List UInt8) (h : ∀ c ∈ l, anC c.toNat = true) : DigB (expB l) := by
  intro j h0 h1
  have hj : j.toNat < (expB l).size := by omega
  have := expL_dig l h ((expB l)[j.toNat]) (by have := mem_at (expB l) j.toNat hj; simpa [expB] using this)
  unfold bt
  rw [dif_pos hj]
  omega
def luC (l : List UInt8) : UInt8 := UInt8.ofNat (48 + (luV (expB l)).toNat)
theorem luhn_f (s : ByteArray) (hs : s.size ≤ 100) (hall : ∀ c ∈ s.data.toList, anC c.toNat = true) (k : Nat) (hk : 500 < k) : L.ident_luhn.f k s = some ⟨#[luC s.data.toList]⟩ := by
  unfold L.ident_luhn.f L.ident_expand.f
  rw [if_pos ⟨hs, hall⟩]
  have hl := expL_len s.data.toList hall
  have hz : (expB s.data.toList).size = (expL s.data.toList).length := by simp [expB, ByteArray.size]
  have hl2 : s.data.toList.length = s.size := by simp
  have h := luhn_loop (expB s.data.toList) (by omega) (expB_dig _ hall) (expB s.data.toList).size 0 k (by omega) (by omega)
  rw [show luS (expB s.data.toList) 0 = 0 from rfl, show ((0 : Nat) : Int) = 0 from rfl] at h
  rw [Option.bind_some]
  show L.ident_luhn.l0 k (expB s.data.toList) 0 ((expB s.data.toList).size : Int) 0 = _
  rw [h]
  have hb := luV_bd (expB s.data.toList)
  unfold L.strconv_Itoa.f
  rw [if_pos (by omega), Lib.decDigits, dif_pos (by omega)]
  rfl
def idG (kind : Int) : List (Nat × Nat) := if kind = 0 then [(2, 0), (9, 1), (1, 2)] else if kind = 1 then [(1, 0), (7, 1)] else [(16, 3)]
def idS (kind : Int) : Nat := if kind = 0 then 12 else if kind = 1 then 4 else 1
def idv (kind : Int) (s : ByteArray) : Bool := prefB (spanL (idG kind)) (idS kind) s.data.toList && (kind != 0 || (s.data.toList.drop 11 == [luC (s.data.toList.take 11)]))
end Go.Proofs.YtpclapnmiacfpaaDoor.Hand
end
section
set_option linter.unusedVariables false
namespace Go.Proofs.YtpclapnmiacfpaaDoor.Hand
open Go.RowKit Go.Proofs.YtpclapnmiacfpaaDoorW.PrintWords
def ChkRes (b : Bool) (e : Ending) : Prop := ∃ at' er : Int, e = .returned (.tuple #[.int .i64 at', .int .i64 er]) ∧ (er = 0 ↔ b = true)
theorem chk_mk {b : Bool} {at' er : Int} (h : er = 0 ↔ b = true) : ChkRes b (.returned (.tuple #[.int .i64 at', .int .i64 er])) := ⟨_, _, rfl, h⟩
theorem idv_bad {q : Int} {s : ByteArray} (h : prefB (spanL (idG q)) (idS q) s.data.toList ≠ true) : idv q s = false := by
  unfold idv; rw [Bool.eq_false_iff.2 h]; rfl
theorem idv_plain {q : Int} {s : ByteArray} (hq : q ≠ 0) (h : prefB (spanL (idG q)) (idS q) s.data.toList = true) : idv q s = true := by
  unfold idv; rw [h, Bool.true_and, Bool.or_eq_true]; exact .inl (by simpa using hq)
theorem classes1 (B2 : Nat) (w : World) (c0 : w.cell? ⟨B2, 0, none⟩ = some (.int .i64 1)) (c1 : w.cell? ⟨B2, 1, none⟩ = some (fv 83)) (c2 : w.cell? ⟨B2, 2, none⟩ = some (.int .i64 7)) (c3 : w.cell? ⟨B2, 3, none⟩ = some (fv 84)) :
    Calls Tryd.prog 71 #[.agg #[.int .i64 4, .slice (some ⟨B2, 0, none⟩) 2 2, .int .i64 0, .nilFunc]] w fun e w' => ∃ g c, e = .returned (.slice (some ⟨g, 0, none⟩) (spanL (idG 1)).length c) ∧ (∀ i, i < (spanL (idG 1)).length → w'.cell? ⟨g, i, none⟩ = some (fv (fnOf ((spanL (idG 1)).getD i 0)))) ∧ Below w.heap.size w w' := by
  refine (classes_c B2 4 0 (.nilFunc) (idG 1) w ?_ (by decide) (by decide)).mono ?_
  · intro j hj
    match j, hj with
    | 0, _ => exact ⟨c0, c1⟩
    | 1, _ => exact ⟨c2, c3⟩
  · rintro e w' ⟨v, rfl, hown, hb⟩
    obtain ⟨g, c, rfl, h3, h4⟩ := hown.form (by decide)
    refine ⟨g, c, rfl, fun i hi => ?_, hb⟩
    have h1 := hown.cellAt i (by simpa using hi)
    rw [h1, List.getElem?_map, List.getElem?_eq_getElem hi, List.getD_eq_getElem?_getD, List.getElem?_eq_getElem hi]
    rfl
set_option maxHeartbeats 4000000 in
set_option maxRecDepth 100000 in
theorem check1 (s : ByteArray) (hs : s.size ≤ maxLen) (w : World) : Calls Tryd.prog 61 #[.int .i64 1, .string s] w fun e w' => ChkRes (idv 1 s) e ∧ Below w.heap.size w w' := by
  have hix : ∀ wx, (Instr.index 120 (kindsV w) (.int .i64 1)).run Tryd.prog wx = .ok (.agg #[.int .i64 4, .slice (some ⟨w.heap.size + 1 + 1, 0, none⟩) 2 2, .int .i64 0, .nilFunc]) wx := fun _ => by kernel_rfl
  go_enter Tryd.func61, Tryd.ntmps61
  go_wp2_with (go_at_call 69; refine (kinds_c _).mono ?_; rintro e w1 ⟨rfl, hk⟩)
  clear hix
  have hz := hk.size
  have hB0 : Below w.heap.size w (w1.alloc (.cells #[.int .i64 4, .slice (some ⟨w.heap.size + 1 + 1, 0, none⟩) 2 2, .int .i64 0, .nilFunc] 119)) := hk.below.alloc hk.below.size _
  have hbk := heap_at w1 (.cells #[.int .i64 4, .slice (some ⟨w.heap.size + 1 + 1, 0, none⟩) 2 2, .int .i64 0, .nilFunc] 119) w1.heap.size rfl
  have hb2 := (Lib.alloc_old w1 (.cells #[.int .i64 4, .slice (some ⟨w.heap.size + 1 + 1, 0, none⟩) 2 2, .int .i64 0, .nilFunc] 119) (w.heap.size + 2) (by omega)).trans hk.b2
  clear hk hz
  generalize hE2 : w.heap.size + 1 + 1 = B2 at hbk hB0 ⊢
  rw [show w.heap.size + 2 = B2 from hE2] at hb2
  generalize w1.heap.size = B at hbk ⊢
  generalize w1.alloc (.cells #[.int .i64 4, .slice (some ⟨B2, 0, none⟩) 2 2, .int .i64 0, .nilFunc] 119) = W at hbk hb2 hB0 ⊢
  clear hE2
  have k0 := cell_blk hbk 0 _ rfl
  have k1 := cell_blk hbk 1 _ rfl
  have k2 := cell_blk hbk 2 _ rfl
  have k3 := cell_blk hbk 3 _ rfl
  have m0 := cell_blk hb2 0 _ rfl
  have m1 := cell_blk hb2 1 _ rfl
  have m2 := cell_blk hb2 2 _ rfl
  have m3 := cell_blk hb2 3 _ rfl
  clear hbk hb2
  have HB0 := Lib.hid hB0
  clear hB0
  go_region_held3 (fun w' => w'.cell? ⟨B, 0, none⟩ = some (.int .i64 4) ∧ w'.cell? ⟨B, 1, none⟩ = some (.slice (some ⟨B2, 0, none⟩) 2 2) ∧ w'.cell? ⟨B, 2, none⟩ = some (.int .i64 0) ∧ w'.cell? ⟨B, 3, none⟩ = some (.nilFunc) ∧ w'.cell? ⟨B2, 0, none⟩ = some (.int .i64 1) ∧ w'.cell? ⟨B2, 1, none⟩ = some (fv 83) ∧ w'.cell? ⟨B2, 2, none⟩ = some (.int .i64 7) ∧ w'.cell? ⟨B2, 3, none⟩ = some (fv 84)) (first | go_keep | (go_split_ands; refine ⟨?_, ?_, ?_, ?_, ?_, ?_, ?_, ?_⟩ <;> (refine pw_cell_below hb2 ?_; assumption)))
    (first
      | (go_at_call 71; go_must (refine (classes1 B2 _ (by first | assumption | (go_split_ands; assumption)) (by first | assumption | (go_split_ands; assumption)) (by first | assumption | (go_split_ands; assumption)) (by first | assumption | (go_split_ands; assumption))).mono ?_); rintro e w2 ⟨g, c, rfl, hcl, hb2⟩; have HCL := Lib.hid hcl; clear hcl)
      | (go_at_call 70; refine (prefix_c g c _ (by decide) (by decide) 4 (by decide) s hs _ HCL.out).mono ?_; rintro e w3 ⟨⟨at1, er, rfl, hiff⟩, rfl⟩; have HI := Lib.hid hiff; clear hiff))
  obtain ⟨n0, n1, n2, n3, _⟩ := (show _ ∧ _ ∧ _ ∧ _ ∧ _ from ‹_ ∧ _›)
  have HB1 := Lib.hid (below_then (below_drew HB0.out) (below_drew HB0.out).size hb2)
  clear hb2 HB0 HCL k0 k1 k2 k3 m0 m1 m2 m3
  by_cases her : er = 0
  · have HER := Lib.hid her
    have her1 : (er != 0) = false := by simp [her]
    clear her
    go_wp2
    have hqn : ∀ wx, (binOp .neq 117 .nilFunc .nilFunc).run Tryd.prog wx = .ok (.bool false) wx := fun _ => by kernel_rfl
    go_quiet (fail)
    all_goals go_wp2
    all_goals go_ret2
    all_goals exact ⟨chk_mk (by rw [idv_plain (by decide) (HI.out.1 HER.out)]; simp), pw_below_drewN HB1.out _⟩
  · have her1 : (er != 0) = true := by simp [her]
    have HER := Lib.hid her
    clear her
    go_wp2
    go_ret2
    exact ⟨chk_mk (by rw [idv_bad (fun h => HER.out (HI.out.2 h))]; simpa using HER.out), HB1.out⟩
theorem classes2 (B2 : Nat) (w : World) (c0 : w.cell? ⟨B2, 0, none⟩ = some (.int .i64 16)) (c1 : w.cell? ⟨B2, 1, none⟩ = some (fv 87)) :
    Calls Tryd.prog 71 #[.agg #[.int .i64 1, .slice (some ⟨B2, 0, none⟩) 1 1, .int .i64 0, .nilFunc]] w fun e w' => ∃ g c, e = .returned (.slice (some ⟨g, 0, none⟩) (spanL (idG 2)).length c) ∧ (∀ i, i < (spanL (idG 2)).length → w'.cell? ⟨g, i, none⟩ = some (fv (fnOf ((spanL (idG 2)).getD i 0)))) ∧ Below w.heap.size w w' := by
  refine (classes_c B2 1 0 (.nilFunc) (idG 2) w ?_ (by decide) (by decide)).mono ?_
  · intro j hj
    match j, hj with
    | 0, _ => exact ⟨c0, c1⟩
  · rintro e w' ⟨v, rfl, hown, hb⟩
    obtain ⟨g, c, rfl, h3, h4⟩ := hown.form (by decide)
    refine ⟨g, c, rfl, fun i hi => ?_, hb⟩
    have h1 := hown.cellAt i (by simpa using hi)
    rw [h1, List.getElem?_map, List.getElem?_eq_getElem hi, List.getD_eq_getElem?_getD, List.getElem?_eq_getElem hi]
    rfl
set_option maxHeartbeats 4000000 in
set_option maxRecDepth 100000 in
theorem check2 (s : ByteArray) (hs : s.size ≤ maxLen) (w : World) : Calls Tryd.prog 61 #[.int .i64 2, .string s] w fun e w' => ChkRes (idv 2 s) e ∧ Below w.heap.size w w' := by
  have hix : ∀ wx, (Instr.index 120 (kindsV w) (.int .i64 2)).run Tryd.prog wx = .ok (.agg #[.int .i64 1, .slice (some ⟨w.heap.size + 1 + 1 + 1, 0, none⟩) 1 1, .int .i64 0, .nilFunc]) wx := fun _ => by kernel_rfl
  go_enter Tryd.func61, Tryd.ntmps61
  go_wp2_with (go_at_call 69; refine (kinds_c _).mono ?_; rintro e w1 ⟨rfl, hk⟩)
  clear hix
  have hz := hk.size
  have hB0 : Below w.heap.size w (w1.alloc (.cells #[.int .i64 1, .slice (some ⟨w.heap.size + 1 + 1 + 1, 0, none⟩) 1 1, .int .i64 0, .nilFunc] 119)) := hk.below.alloc hk.below.size _
  have hbk := heap_at w1 (.cells #[.int .i64 1, .slice (some ⟨w.heap.size + 1 + 1 + 1, 0, none⟩) 1 1, .int .i64 0, .nilFunc] 119) w1.heap.size rfl
  have hb2 := (Lib.alloc_old w1 (.cells #[.int .i64 1, .slice (some ⟨w.heap.size + 1 + 1 + 1, 0, none⟩) 1 1, .int .i64 0, .nilFunc] 119) (w.heap.size + 3) (by omega)).trans hk.b3
  clear hk hz
  generalize hE2 : w.heap.size + 1 + 1 + 1 = B2 at hbk hB0 ⊢
  rw [show w.heap.size + 3 = B2 from hE2] at hb2
  generalize w1.heap.size = B at hbk ⊢
  generalize w1.alloc (.cells #[.int .i64 1, .slice (some ⟨B2, 0, none⟩) 1 1, .int .i64 0, .nilFunc] 119) = W at hbk hb2 hB0 ⊢
  clear hE2
  have k0 := cell_blk hbk 0 _ rfl
  have k1 := cell_blk hbk 1 _ rfl
  have k2 := cell_blk hbk 2 _ rfl
  have k3 := cell_blk hbk 3 _ rfl
  have m0 := cell_blk hb2 0 _ rfl
  have m1 := cell_blk hb2 1 _ rfl
  clear hbk hb2
  have HB0 := Lib.hid hB0
  clear hB0
  go_region_held3 (fun w' => w'.cell? ⟨B, 0, none⟩ = some (.int .i64 1) ∧ w'.cell? ⟨B, 1, none⟩ = some (.slice (some ⟨B2, 0, none⟩) 1 1) ∧ w'.cell? ⟨B, 2, none⟩ = some (.int .i64 0) ∧ w'.cell? ⟨B, 3, none⟩ = some (.nilFunc) ∧ w'.cell? ⟨B2, 0, none⟩ = some (.int .i64 16) ∧ w'.cell? ⟨B2, 1, none⟩ = some (fv 87)) (first | go_keep | (go_split_ands; refine ⟨?_, ?_, ?_, ?_, ?_, ?_⟩ <;> (refine pw_cell_below hb2 ?_; assumption)))
    (first
      | (go_at_call 71; go_must (refine (classes2 B2 _ (by first | assumption | (go_split_ands; assumption)) (by first | assumption | (go_split_ands; assumption))).mono ?_); rintro e w2 ⟨g, c, rfl, hcl, hb2⟩; have HCL := Lib.hid hcl; clear hcl)
      | (go_at_call 70; refine (prefix_c g c _ (by decide) (by decide) 1 (by decide) s hs _ HCL.out).mono ?_; rintro e w3 ⟨⟨at1, er, rfl, hiff⟩, rfl⟩; have HI := Lib.hid hiff; clear hiff))
  obtain ⟨n0, n1, n2, n3, _⟩ := (show _ ∧ _ ∧ _ ∧ _ ∧ _ from ‹_ ∧ _›)
  have HB1 := Lib.hid (below_then (below_drew HB0.out) (below_drew HB0.out).size hb2)
  clear hb2 HB0 HCL k0 k1 k2 k3 m0 m1
  by_cases her : er = 0
  · have HER := Lib.hid her
    have her1 : (er != 0) = false := by simp [her]
    clear her
    go_wp2
    have hqn : ∀ wx, (binOp .neq 117 .nilFunc .nilFunc).run Tryd.prog wx = .ok (.bool false) wx := fun _ => by kernel_rfl
    go_quiet (fail)
    all_goals go_wp2
    all_goals go_ret2
    all_goals exact ⟨chk_mk (by rw [idv_plain (by decide) (HI.out.1 HER.out)]; simp), pw_below_drewN HB1.out _⟩
  · have her1 : (er != 0) = true := by simp [her]
    have HER := Lib.hid her
    clear her
    go_wp2
    go_ret2
    exact ⟨chk_mk (by rw [idv_bad (fun h => HER.out (HI.out.2 h))]; simpa using HER.out), HB1.out⟩
theorem classes0 (B2 : Nat) (w : World) (c0 : w.cell? ⟨B2, 0, none⟩ = some (.int .i64 2)) (c1 : w.cell? ⟨B2, 1, none⟩ = some (fv 83)) (c2 : w.cell? ⟨B2, 2, none⟩ = some (.int .i64 9)) (c3 : w.cell? ⟨B2, 3, none⟩ = some (fv 84)) (c4 : w.cell? ⟨B2, 4, none⟩ = some (.int .i64 1)) (c5 : w.cell? ⟨B2, 5, none⟩ = some (fv 85)) :
    Calls Tryd.prog 71 #[.agg #[.int .i64 12, .slice (some ⟨B2, 0, none⟩) 3 3, .int .i64 11, fv 86]] w fun e w' => ∃ g c, e = .returned (.slice (some ⟨g, 0, none⟩) (spanL (idG 0)).length c) ∧ (∀ i, i < (spanL (idG 0)).length → w'.cell? ⟨g, i, none⟩ = some (fv (fnOf ((spanL (idG 0)).getD i 0)))) ∧ Below w.heap.size w w' := by
  refine (classes_c B2 12 11 (fv 86) (idG 0) w ?_ (by decide) (by decide)).mono ?_
  · intro j hj
    match j, hj with
    | 0, _ => exact ⟨c0, c1⟩
    | 1, _ => exact ⟨c2, c3⟩
    | 2, _ => exact ⟨c4, c5⟩
  · rintro e w' ⟨v, rfl, hown, hb⟩
    obtain ⟨g, c, rfl, h3, h4⟩ := hown.form (by decide)
    refine ⟨g, c, rfl, fun i hi => ?_, hb⟩
    have h1 := hown.cellAt i (by simpa using hi)
    rw [h1, List.getElem?_map, List.getElem?_eq_getElem hi, List.getD_eq_getElem?_getD, List.getElem?_eq_getElem hi]
    rfl
set_option maxHeartbeats 4000000 in
set_option maxRecDepth 100000 in
theorem check0 (s : ByteArray) (hs : s.size ≤ maxLen) (w : World) : Calls Tryd.prog 61 #[.int .i64 0, .string s] w fun e w' => ChkRes (idv 0 s) e ∧ Below w.heap.size w w' := by
  have hix : ∀ wx, (Instr.index 120 (kindsV w) (.int .i64 0)).run Tryd.prog wx = .ok (.agg #[.int .i64 12, .slice (some ⟨w.heap.size + 1, 0, none⟩) 3 3, .int .i64 11, fv 86]) wx := fun _ => by kernel_rfl
  go_enter Tryd.func61, Tryd.ntmps61
  go_wp2_with (go_at_call 69; refine (kinds_c _).mono ?_; rintro e w1 ⟨rfl, hk⟩)
  clear hix
  have hz := hk.size
  have hB0 : Below w.heap.size w (w1.alloc (.cells #[.int .i64 12, .slice (some ⟨w.heap.size + 1, 0, none⟩) 3 3, .int .i64 11, fv 86] 119)) := hk.below.alloc hk.below.size _
  have hbk := heap_at w1 (.cells #[.int .i64 12, .slice (some ⟨w.heap.size + 1, 0, none⟩) 3 3, .int .i64 11, fv 86] 119) w1.heap.size rfl
  have hb2 := (Lib.alloc_old w1 (.cells #[.int .i64 12, .slice (some ⟨w.heap.size + 1, 0, none⟩) 3 3, .int .i64 11, fv 86] 119) (w.heap.size + 1) (by omega)).trans hk.b1
  clear hk hz
  generalize hE2 : w.heap.size + 1 = B2 at hbk hB0 ⊢
  rw [show w.heap.size + 1 = B2 from hE2] at hb2
  generalize w1.heap.size = B at hbk ⊢
  generalize w1.alloc (.cells #[.int .i64 12, .slice (some ⟨B2, 0, none⟩) 3 3, .int .i64 11, fv 86] 119) = W at hbk hb2 hB0 ⊢
  clear hE2
  have k0 := cell_blk hbk 0 _ rfl
  have k1 := cell_blk hbk 1 _ rfl
  have k2 := cell_blk hbk 2 _ rfl
  have k3 := cell_blk hbk 3 _ rfl
  have m0 := cell_blk hb2 0 _ rfl
  have m1 := cell_blk hb2 1 _ rfl
  have m2 := cell_blk hb2 2 _ rfl
  have m3 := cell_blk hb2 3 _ rfl
  have m4 := cell_blk hb2 4 _ rfl
  have m5 := cell_blk hb2 5 _ rfl
  clear hbk hb2
  have HB0 := Lib.hid hB0
  clear hB0
  go_region_held3 (fun w' => w'.cell? ⟨B, 0, none⟩ = some (.int .i64 12) ∧ w'.cell? ⟨B, 1, none⟩ = some (.slice (some ⟨B2, 0, none⟩) 3 3) ∧ w'.cell? ⟨B, 2, none⟩ = some (.int .i64 11) ∧ w'.cell? ⟨B, 3, none⟩ = some (fv 86) ∧ w'.cell? ⟨B2, 0, none⟩ = some (.int .i64 2) ∧ w'.cell? ⟨B2, 1, none⟩ = some (fv 83) ∧ w'.cell? ⟨B2, 2, none⟩ = some (.int .i64 9) ∧ w'.cell? ⟨B2, 3, none⟩ = some (fv 84) ∧ w'.cell? ⟨B2, 4, none⟩ = some (.int .i64 1) ∧ w'.cell? ⟨B2, 5, none⟩ = some (fv 85)) (first | go_keep | (go_split_ands; refine ⟨?_, ?_, ?_, ?_, ?_, ?_, ?_, ?_, ?_, ?_⟩ <;> (refine pw_cell_below hb2 ?_; assumption)))
    (first
      | (go_at_call 71; go_must (refine (classes0 B2 _ (by first | assumption | (go_split_ands; assumption)) (by first | assumption | (go_split_ands; assumption)) (by first | assumption | (go_split_ands; assumption)) (by first | assumption | (go_split_ands; assumption)) (by first | assumption | (go_split_ands; assumption)) (by first | assumption | (go_split_ands; assumption))).mono ?_); rintro e w2 ⟨g, c, rfl, hcl, hb2⟩; have HCL := Lib.hid hcl; clear hcl)
      | (go_at_call 70; refine (prefix_c g c _ (by decide) (by decide) 12 (by decide) s hs _ HCL.out).mono ?_; rintro e w3 ⟨⟨at1, er, rfl, hiff⟩, rfl⟩; have HI := Lib.hid hiff; clear hiff))
  obtain ⟨n0, n1, n2, n3, _⟩ := (show _ ∧ _ ∧ _ ∧ _ ∧ _ from ‹_ ∧ _›)
  have HB1 := Lib.hid (below_then (below_drew HB0.out) (below_drew HB0.out).size hb2)
  clear hb2 HB0 HCL k0 k1 k2 k3 m0 m1 m2 m3 m4 m5
  by_cases her : er = 0
  · have HER := Lib.hid her
    have her1 : (er != 0) = false := by simp [her]
    clear her
    go_wp2
    have hqn : ∀ wx, (binOp .neq 117 (fv 86) .nilFunc).run Tryd.prog wx = .ok (.bool true) wx := fun _ => by kernel_rfl
    have hpre := (prefB_iff _ _ _).1 (HI.out.1 HER.out)
    have hG : (spanL (idG 0)).length = 12 := by decide
    have hl : s.data.toList.length = s.size := by simp
    have hsz : s.size = 12 := by have h1 := hpre.2.1; have h2 := hpre.2.2; omega
    have HL0 : L.ident_luhn.f 1000 (s.extract 0 11) = some ⟨#[luC (s.data.toList.take 11)]⟩ := by
      have hx : (s.extract 0 11).data.toList = s.data.toList.take 11 := by rw [Lib.extract_data]; simp
      rw [← hx]
      refine luhn_f _ (by rw [ByteArray.size_extract]; omega) ?_ 1000 (by omega)
      rw [hx]
      intro c hc
      obtain ⟨i, hi, rfl⟩ := List.mem_take_iff_getElem.1 hc
      have hi1 : i < 11 := by omega
      have h3 := hpre.1 i (by omega) (by omega)
      rw [List.getD_eq_getElem?_getD, List.getD_eq_getElem?_getD, List.getElem?_eq_getElem (show i < s.data.toList.length by omega), List.getElem?_eq_getElem (show i < (spanL (idG 0)).length by omega)] at h3
      simp only [Option.getD_some] at h3
      have h4 : (spanL (idG 0))[i]'(by omega) = 0 ∨ (spanL (idG 0))[i]'(by omega) = 1 := by
        have : ∀ j : Fin 11, (spanL (idG 0)).getD j.1 0 = 0 ∨ (spanL (idG 0)).getD j.1 0 = 1 := by decide
        have h5 := this ⟨i, hi1⟩
        rwa [List.getD_eq_getElem?_getD, List.getElem?_eq_getElem (show i < (spanL (idG 0)).length by omega)] at h5
      rcases h4 with h4 | h4
      · rw [h4] at h3
        have h6 : upC _ = true := h3
        unfold anC; rw [h6]; rfl
      · rw [h4] at h3
        exact h3
    have hex : (s.extract 11 s.size).toList = s.data.toList.drop 11 := by rw [Lib.toList_data, Lib.extract_data, List.take_of_length_le (by rw [List.length_drop, hl]; omega)]
    obtain ⟨kk, hkk⟩ : ∃ kk : Nat, kk = 1000 := ⟨_, rfl⟩
    rw [← hkk] at HL0
    obtain ⟨d, hd⟩ : ∃ d, d = luC (s.data.toList.take 11) := ⟨_, rfl⟩
    rw [← hd] at HL0
    have HL := Lib.hid HL0
    have HX := Lib.hid hex
    have HD := Lib.hid hd
    have HK := Lib.hid hkk
    have h11 : (11 : Int) ≤ (s.size : Int) := by omega
    clear HL0 hex hd hkk hpre hG hl hsz
    go_region_held3 (fun w' => w'.cell? ⟨B, 2, none⟩ = some (.int .i64 11) ∧ w'.cell? ⟨B, 3, none⟩ = some (fv 86)) (first | go_keep | (go_split_ands; refine ⟨?_, ?_⟩ <;> (refine pw_cell_below hb3 ?_; assumption)))
      (first | (go_at_call 86; go_must (refine (L.ident_luhn.calls kk _ _ _ HL.out).mono ?_); rintro e w3 ⟨rfl, hb3⟩))
    have HB2 := Lib.hid (below_then (below_drew HB1.out) (below_drew HB1.out).size hb3)
    clear hb3 HB1
    have hidv : idv 0 s = ([d] == (s.extract 11 s.size).toList) := by
      unfold idv
      rw [show prefB (spanL (idG 0)) (idS 0) s.data.toList = true from HI.out.1 HER.out, ← HD.out, ← HX.out, Bool.true_and]
      show (false || _) = _
      rw [Bool.false_or, Bool.eq_iff_iff, beq_iff_eq, beq_iff_eq]; exact eq_comm
    have HV := Lib.hid hidv
    clear hidv
    cases hv : ([d] == (s.extract 11 s.size).toList) with
    | true =>
      have hv1 : (!([d] == (s.extract 11 s.size).toList)) = false := by rw [hv]; rfl
      go_wp2
      go_ret2
      exact ⟨chk_mk (by rw [HV.out, hv]; simp), HB2.out⟩
    | false =>
      have hv1 : (!([d] == (s.extract 11 s.size).toList)) = true := by rw [hv]; rfl
      go_wp2
      go_ret2
      exact ⟨chk_mk (by rw [HV.out, hv]; simp), HB2.out⟩
  · have her1 : (er != 0) = true := by simp [her]
    have HER := Lib.hid her
    clear her
    go_wp2
    go_ret2
    exact ⟨chk_mk (by rw [idv_bad (fun h => HER.out (HI.out.2 h))]; simpa using HER.out), HB1.out⟩
end Go.Proofs.YtpclapnmiacfpaaDoor.Hand
end
section
set_option linter.unusedVariables false
namespace Go.Proofs.YtpclapnmiacfpaaDoor.Q
open Go.RowKit Go.Proofs.YtpclapnmiacfpaaDoorW.PrintWords
def ident_Valid.f (a0 : Int) (a1 : ByteArray) : Option Bool := if (a0 = 0 ∨ a0 = 1 ∨ a0 = 2) ∧ a1.size ≤ 281474976710656 then some (Hand.idv a0 a1) else none
theorem check_any (a0 : Int) (h0 : a0 = 0 ∨ a0 = 1 ∨ a0 = 2) (s : ByteArray) (hs : s.size ≤ 281474976710656) (w : World) : Calls Tryd.prog 61 #[.int .i64 a0, .string s] w fun e w' => Hand.ChkRes (Hand.idv a0 s) e ∧ Below w.heap.size w w' := by
  have hm : s.size ≤ maxLen := by unfold maxLen; omega
  rcases h0 with rfl | rfl | rfl
  · exact Hand.check0 s hm w
  · exact Hand.check1 s hm w
  · exact Hand.check2 s hm w
theorem ident_Valid.calls (a0 : Int) (a1 : ByteArray) (r : Bool) (w : World) (h : ident_Valid.f a0 a1 = some r) : Calls Tryd.prog 45 #[.int .i64 a0, .string a1] w fun e w' => e = .returned (.bool r) ∧ Below w.heap.size w w' := by
  unfold ident_Valid.f at h
  split at h
  · rename_i hb
    have hr := Option.some.inj h
    clear h
    have HR := Lib.hid hr
    have HB := Lib.hid hb
    clear hr hb
    go_enter Tryd.func45, Tryd.ntmps45
    go_wp2_with (go_at_call 61; refine (check_any a0 HB.out.1 a1 HB.out.2 _).mono ?_; rintro e w1 ⟨⟨at1, er, rfl, hi⟩, hb1⟩; have HI := Lib.hid hi; clear hi; have HB1 := Lib.hid hb1; clear hb1)
    go_ret
    refine ⟨?_, HB1.out⟩
    have : (er == 0) = r := by
      rw [← HR.out, Bool.eq_iff_iff, beq_iff_eq]; exact HI.out
    rw [this]; rfl
  · cases h
end Go.Proofs.YtpclapnmiacfpaaDoor.Q
end
section
namespace Go.Proofs.YtpclapnmiacfpaaDoor.Q
open Go.RowKit Go.Proofs.YtpclapnmiacfpaaDoorW.PrintWords Go.Proofs.YtpclapnmiacfpaaDoorW.PrintLast Go.Proofs.YtpclapnmiacfpaaDoorW.PrintMore
attribute [local go_sem] max2_int min2_int max_two min_two max_three min_three max_four min_four
set_option linter.unusedVariables false
set_option linter.unusedSimpArgs false
def matching_Trade_Check_1.f (a0 : ByteArray) : Option (Bool) := (ident_Valid.f 1 a0).bind fun t316 => (some t316)
set_option maxHeartbeats 8000000 in
set_option maxRecDepth 100000 in
theorem matching_Trade_Check_1.calls (a0 : ByteArray) (r : Bool) (w : World) (h : matching_Trade_Check_1.f a0 = some r) :
  Calls Tryd.prog 44 #[.string a0] w fun e w' => e = .returned (.bool r) ∧ Below w.heap.size w w' := by
 have HB := Aside0.mk (Below.refl w.heap.size w)
 have H : ((ident_Valid.f 1 a0).bind fun t316 => (some t316)) = some r := h
 clear h
 replace H := Option.bind_eq_some_iff.mp H
 obtain ⟨t316, A20, H⟩ := H
 replace H : (some t316) = some r := H
 have A2 := Aside0.mk A20
 clear A20
 obtain rfl := Option.some.inj H
 go_enter Tryd.func44, Tryd.ntmps44
 go_wp2_with (first | ((with_reducible refine gate_callee (f := 45) rfl ?_); refine goesL_ (some 4) rfl rfl Tryd.func45 (by kernel_rfl) rfl #[.int .i64 1, .string a0] rfl (by (try simp only [List.map_toArray, List.map_cons, List.map_nil]); first | done | rfl | (simp only [List.length_drop, List.length_take]; rfl)) ?_; (with_reducible refine (ident_Valid.calls 1 a0 t316 _ A2.out).mono ?_); rintro e w3 ⟨rfl, hb⟩; refine ⟨_, rfl, ?_⟩; have n0_ := Aside0.mk (below_step (by repeat (first | (with_reducible first | exact HB.out | apply below_alloc | apply pw_below_drewN | apply below_drew1) | exact HB.out)) hb); clear HB; have HB := n0_; clear n0_; (try clear hb); (try clear hb2); (try clear hk); (try clear hi)))
 go_ret
 exact ⟨by first | rfl | (simp [errW_none, errW_some] <;> rfl) | (simp [*, errW_none, errW_some] <;> rfl), by repeat (first | (with_reducible first | exact HB.out | apply below_alloc | apply pw_below_drewN | apply below_drew1) | exact HB.out)⟩
end Go.Proofs.YtpclapnmiacfpaaDoor.Q
end
section
namespace Go.Proofs.YtpclapnmiacfpaaDoor.Q
open Go.RowKit Go.Proofs.YtpclapnmiacfpaaDoorW.PrintWords Go.Proofs.YtpclapnmiacfpaaDoorW.PrintLast Go.Proofs.YtpclapnmiacfpaaDoorW.PrintMore
attribute [local go_sem] max2_int min2_int max_two min_two max_three min_three max_four min_four
set_option linter.unusedVariables false
set_option linter.unusedSimpArgs false
def matching_Trade_Check_2.f (a0 : ByteArray) : Option (Bool) := (ident_Valid.f 2 a0).bind fun t317 => (some t317)
set_option maxHeartbeats 8000000 in
set_option maxRecDepth 100000 in
theorem matching_Trade_Check_2.calls (a0 : ByteArray) (r : Bool) (w : World) (h : matching_Trade_Check_2.f a0 = some r) :
  Calls Tryd.prog 46 #[.string a0] w fun e w' => e = .returned (.bool r) ∧ Below w.heap.size w w' := by
 have HB := Aside0.mk (Below.refl w.heap.size w)
 have H : ((ident_Valid.f 2 a0).bind fun t317 => (some t317)) = some r := h
 clear h
 replace H := Option.bind_eq_some_iff.mp H
 obtain ⟨t317, A20, H⟩ := H
 replace H : (some t317) = some r := H
 have A2 := Aside0.mk A20
 clear A20
 obtain rfl := Option.some.inj H
 go_enter Tryd.func46, Tryd.ntmps46
 go_wp2_with (first | ((with_reducible refine gate_callee (f := 45) rfl ?_); refine goesL_ (some 4) rfl rfl Tryd.func45 (by kernel_rfl) rfl #[.int .i64 2, .string a0] rfl (by (try simp only [List.map_toArray, List.map_cons, List.map_nil]); first | done | rfl | (simp only [List.length_drop, List.length_take]; rfl)) ?_; (with_reducible refine (ident_Valid.calls 2 a0 t317 _ A2.out).mono ?_); rintro e w3 ⟨rfl, hb⟩; refine ⟨_, rfl, ?_⟩; have n0_ := Aside0.mk (below_step (by repeat (first | (with_reducible first | exact HB.out | apply below_alloc | apply pw_below_drewN | apply below_drew1) | exact HB.out)) hb); clear HB; have HB := n0_; clear n0_; (try clear hb); (try clear hb2); (try clear hk); (try clear hi)))
 go_ret
 exact ⟨by first | rfl | (simp [errW_none, errW_some] <;> rfl) | (simp [*, errW_none, errW_some] <;> rfl), by repeat (first | (with_reducible first | exact HB.out | apply below_alloc | apply pw_below_drewN | apply below_drew1) | exact HB.out)⟩
end Go.Proofs.YtpclapnmiacfpaaDoor.Q
end
section
namespace Go.Proofs.YtpclapnmiacfpaaDoor.Q
open Go.RowKit Go.Proofs.YtpclapnmiacfpaaDoorW.PrintWords Go.Proofs.YtpclapnmiacfpaaDoorW.PrintLast Go.Proofs.YtpclapnmiacfpaaDoorW.PrintMore
attribute [local go_sem] max2_int min2_int max_two min_two max_three min_three max_four min_four
set_option linter.unusedVariables false
set_option linter.unusedSimpArgs false
def matching_within.f (a0 : Int) (a1 : Int) (a2 : Int) : Option (Bool) := if a0 ≥ a1 then (some (decide (a0 ≤ a2))) else (some false)
set_option maxHeartbeats 8000000 in
set_option maxRecDepth 100000 in
theorem matching_within.calls (a0 : Int) (a1 : Int) (a2 : Int) (r : Bool) (w : World) (h : matching_within.f a0 a1 a2 = some r) :
  Calls Tryd.prog 47 #[.int .i64 a0, .int .i64 a1, .int .i64 a2] w fun e w' => e = .returned (.bool r) ∧ Drawn0 w w' := by
 have H : (if a0 ≥ a1 then (some (decide (a0 ≤ a2))) else (some false)) = some r := h
 clear h
 by_cases c4 : a0 ≥ a1
 ·rw [if_pos c4] at H
  have c4b0 : decide (a1 ≤ a0) = true := decide_eq_true c4
  clear c4
  obtain rfl := Option.some.inj H
  go_enter Tryd.func47, Tryd.ntmps47
  go_wp2
  go_ret
  exact ⟨by first | rfl | (simp; done) | (simp [*]; done), by repeat (first | exact Drawn0.refl _ | apply Drawn0.step)⟩
 ·rw [if_neg c4] at H
  have c4b0 : decide (a1 ≤ a0) = false := decide_eq_false c4
  clear c4
  obtain rfl := Option.some.inj H
  go_enter Tryd.func47, Tryd.ntmps47
  go_wp2
  go_ret
  exact ⟨by first | rfl | (simp; done) | (simp [*]; done), by repeat (first | exact Drawn0.refl _ | apply Drawn0.step)⟩
end Go.Proofs.YtpclapnmiacfpaaDoor.Q
end
