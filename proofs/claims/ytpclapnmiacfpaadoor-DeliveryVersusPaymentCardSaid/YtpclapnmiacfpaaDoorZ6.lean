/- Proved at the end of this text: the given card of DeliveryVersusPayment, whole: the law answers true at every input that the card lets in. Conditions: none beyond the card's own. Laid together out of this session's texts. -/
import Derived.Test.YtpclapnmiacfpaaDoorZ5
import Derived.Sort.Walk0
import Derived.Test.YtpclapnmiacfpaaDoorCards
import Derived.Test.YtpclapnmiacfpaaDoorTie
import Derived.SevenTiedAt
set_option linter.unusedVariables false
set_option linter.unusedSimpArgs false
section
set_option linter.unusedVariables false
namespace Go.Proofs.YtpclapnmiacfpaaDoor.Q
open Go.RowKit Go.Proofs.YtpclapnmiacfpaaDoorW.PrintWords Go.Proofs.YtpclapnmiacfpaaDoorW.PrintLast Go.Proofs.YtpclapnmiacfpaaDoorW.PrintMore
open Hand (upC dgC anC rfC prOf spanL idG idS idv luE luS luV luC expL expC expB DigB ChkTo)
theorem letter_f (a : Int) : giroref05_letter.f a = some (upC a) := by
  unfold giroref05_letter.f upC
  by_cases h : 65 ≤ a
  · rw [if_pos h]; simp [h]
  · rw [if_neg h]; simp [h]
theorem digit_f (a : Int) : giroref05_digit.f a = some (dgC a) := by
  unfold giroref05_digit.f dgC
  by_cases h : 48 ≤ a
  · rw [if_pos h]; simp [h]
  · rw [if_neg h]; simp [h]
theorem gs0 : ∀ i, i < 12 → (spanL (idG 0)).getD i 0 = if i < 2 then 0 else if i < 11 then 1 else 2 := by decide
theorem gs1 : ∀ i, i < 8 → (spanL (idG 1)).getD i 0 = if i < 1 then 0 else 1 := by decide
theorem gs2 : ∀ i, i < 16 → (spanL (idG 2)).getD i 0 = 3 := by decide
theorem may0 (i : Nat) (h : i < 12) (c : Int) : giroref05_may.f 0 i c = some (prOf ((spanL (idG 0)).getD i 0) c) := by
  rw [gs0 i h]
  unfold giroref05_may.f
  rw [if_pos rfl]
  simp only [letter_f, digit_f, Option.bind_some]
  by_cases h2 : i < 2
  · rw [if_pos (show (i : Int) < 2 by omega), if_pos h2, if_neg (show ¬ (i : Int) ≥ 2 by omega), if_neg (show ¬ (i : Int) = 11 by omega)]
    show _ = some (upC c)
    cases upC c <;> rfl
  · rw [if_neg (show ¬ (i : Int) < 2 by omega), if_neg h2, if_pos (show (i : Int) ≥ 2 by omega)]
    by_cases h11 : i < 11
    · rw [if_pos (show (i : Int) < 11 by omega), if_pos h11, if_neg (show ¬ (i : Int) = 11 by omega)]
      show _ = some (anC c)
      unfold anC
      cases upC c <;> cases dgC c <;> rfl
    · rw [if_neg (show ¬ (i : Int) < 11 by omega), if_neg h11, if_pos (show (i : Int) = 11 by omega)]
      rfl
theorem may1 (i : Nat) (h : i < 8) (c : Int) : giroref05_may.f 1 i c = some (prOf ((spanL (idG 1)).getD i 0) c) := by
  rw [gs1 i h]
  unfold giroref05_may.f
  rw [if_neg (by decide), if_pos rfl]
  simp only [letter_f, digit_f, Option.bind_some]
  by_cases h2 : i < 1
  · rw [if_neg (show ¬ (i : Int) > 0 by omega), if_pos h2]
    show _ = some (upC c)
    cases upC c <;> rfl
  · rw [if_pos (show (i : Int) > 0 by omega), if_neg h2]
    show _ = some (anC c)
    unfold anC
    cases upC c <;> rfl
theorem may2 (i : Nat) (h : i < 16) (c : Int) : giroref05_may.f 2 i c = some (prOf ((spanL (idG 2)).getD i 0) c) := by
  rw [gs2 i h]
  unfold giroref05_may.f
  rw [if_neg (by decide), if_neg (by decide), if_pos rfl]
  simp only [letter_f, digit_f, Option.bind_some]
  show _ = some (rfC c)
  unfold rfC anC
  cases upC c <;> cases dgC c <;> rfl
theorem may_q (q : Int) (hq : q = 0 ∨ q = 1 ∨ q = 2) (i : Nat) (h : i < (spanL (idG q)).length) (c : Int) : giroref05_may.f q i c = some (prOf ((spanL (idG q)).getD i 0) c) := by
  rcases hq with rfl | rfl | rfl
  · exact may0 i h c
  · exact may1 i h c
  · exact may2 i h c
def digs (l : List UInt8) : List Int := l.map fun c => (c.toNat : Int) - 48
theorem digs_app (a b : List UInt8) : digs (a ++ b) = digs a ++ digs b := by simp [digs]
theorem bt_get (s : ByteArray) (i : Nat) (h : i < s.size) : bt s (i : Int) = (s[i].toNat : Int) := by
  unfold bt; rw [dif_pos (by simpa using h)]; rfl
theorem digs_expC (c : UInt8) (h : anC c.toNat = true) : digs (expC c) = if dgC c.toNat then [((c.toNat : Int) - 48) % 256] else [((((c.toNat : Int) - 65) % 256) + 10) / 10, ((((c.toNat : Int) - 65) % 256) + 10) % 10] := by
  have hc := (Hand.anC_iff _).1 h
  unfold expC
  by_cases hd : dgC (c.toNat : Int) = true
  · rw [if_pos hd, if_pos hd]
    have := (Hand.dgC_iff _).1 hd
    simp only [digs, List.map_cons, List.map_nil]
    congr 1
    omega
  · rw [if_neg hd, if_neg hd]
    have h65 : 65 ≤ (c.toNat : Int) := by
      rcases hc with h | h
      · exact h.1
      · exact absurd ((Hand.dgC_iff _).2 h) hd
    obtain ⟨n, hn⟩ : ∃ n : Nat, n = c.toNat - 55 := ⟨_, rfl⟩
    have hn1 : 10 ≤ n ∧ n < 100 := by omega
    rw [← hn, Lib.decDigits, dif_neg (by omega), Lib.decDigits, dif_pos (by omega)]
    have e1 : ((UInt8.ofNat (48 + n / 10)).toNat : Int) = 48 + (n : Int) / 10 := by rw [Hand.ofNat_toNat _ (by omega)]; omega
    have e2 : ((UInt8.ofNat (48 + n % 10)).toNat : Int) = 48 + (n : Int) % 10 := by rw [Hand.ofNat_toNat _ (by omega)]; omega
    simp only [digs, List.map_cons, List.map_nil, e1, e2, List.cons_append, List.nil_append]
    have e3 : ((c.toNat : Int) - 65) % 256 + 10 = (n : Int) := by omega
    rw [e3]
    congr 1
    · omega
    · congr 1; omega
theorem exp_loop (s : ByteArray) (hs : s.size ≤ 1000) (hall : ∀ c ∈ s.data.toList, anC c.toNat = true) : ∀ (d i k : Nat), i + d = s.size → d < k →
    giroref05_Expand.l0 k s (digs (expL (s.data.toList.take i))) (i : Int) = some (digs (expL s.data.toList))
  | 0, i, k, h, hk => by
    obtain ⟨k, rfl⟩ : ∃ m, k = m + 1 := ⟨k - 1, by omega⟩
    have c1 : ¬ (i : Int) < (s.size : Int) := by omega
    have c2 : s.data.toList.length ≤ i := by simp; omega
    simp only [giroref05_Expand.l0]
    rw [if_neg c1, List.take_of_length_le c2]
  | d + 1, i, k, h, hk => by
    obtain ⟨k, rfl⟩ : ∃ m, k = m + 1 := ⟨k - 1, by omega⟩
    have hi : i < s.size := by omega
    have ih := exp_loop s hs hall d (i + 1) k (by omega) (by omega)
    have hm := hall _ (Hand.mem_at s i hi)
    have w2 : wrap64 ((i : Int) + 1) = ((i + 1 : Nat) : Int) := by unfold wrap64; omega
    have hl : (expL (s.data.toList.take i)).length ≤ 2 * i := by
      have h1 := Hand.expL_len (s.data.toList.take i) (fun c hc => hall c (List.mem_of_mem_take hc))
      have h2 : (s.data.toList.take i).length ≤ i := List.length_take_le _ _
      omega
    have hdl : (digs (expL (s.data.toList.take i))).length ≤ 2 * i := by simpa [digs] using hl
    rw [Hand.take_snoc' s i hi, Hand.expL_snoc, digs_app, digs_expC _ hm] at ih
    have c1 : (i : Int) < (s.size : Int) := by omega
    have c2 : 0 ≤ (i : Int) := by omega
    simp only [giroref05_Expand.l0]
    rw [if_pos c1, if_pos c2, digit_f, Option.bind_some, bt_get s i hi, w2]
    generalize digs (expL (s.data.toList.take i)) = D at ih hdl ⊢
    have c3 : D.length < 17592186044416 := by omega
    by_cases hd : dgC (s[i].toNat : Int) = true
    · rw [if_pos hd] at ih
      rw [if_pos hd, if_pos c3]
      exact ih
    · rw [if_neg hd] at ih
      have c4 : D.length + [(((s[i].toNat : Int) - 65) % 256 + 10) / 10, (((s[i].toNat : Int) - 65) % 256 + 10) % 10].length < 17592186044416 := by
        rw [show [(((s[i].toNat : Int) - 65) % 256 + 10) / 10, (((s[i].toNat : Int) - 65) % 256 + 10) % 10].length = 2 from rfl]; omega
      rw [if_neg hd, Option.bind_some, if_pos c4]
      exact ih
theorem rd_digs (l : List UInt8) (j : Int) (h0 : 0 ≤ j) (h1 : j < (expL l).length) : rd (digs (expL l)) j = bt (expB l) j - 48 := by
  obtain ⟨n, rfl⟩ := Int.eq_ofNat_of_zero_le h0
  have hn : n < (expL l).length := by omega
  have hz : (expB l).size = (expL l).length := by simp [expB, ByteArray.size]
  rw [bt_get _ n (by omega)]
  unfold rd digs
  rw [List.getD_eq_getElem?_getD, List.getElem?_map]
  simp only [Int.toNat_natCast]
  rw [List.getElem?_eq_getElem hn]
  rfl
theorem rluhn_loop (D : List Int) (T : ByteArray) (hl : T.size ≤ 1000) (hd : DigB T) (hdl : D.length = T.size) (hrd : ∀ j : Int, 0 ≤ j → j < T.size → rd D j = bt T j - 48) : ∀ (d i k : Nat), i + d = T.size → d < k →
    giroref05_Luhn.l0 k D (luS T i) (i : Int) = some (luV T)
  | 0, i, k, h, hk => by
    obtain ⟨k, rfl⟩ : ∃ m, k = m + 1 := ⟨k - 1, by omega⟩
    have hb := Hand.luS_bd T hd i (by omega)
    have hi : i = T.size := by omega
    have c1 : ¬ (i : Int) < (D.length : Int) := by omega
    simp only [giroref05_Luhn.l0]
    rw [if_neg c1, hi]
    rw [hi] at hb
    have e1 : Int.tmod (luS T T.size) 10 = luS T T.size % 10 := Int.tmod_eq_emod_of_nonneg hb.1
    rw [e1]
    have e2 : wrap64 (10 - luS T T.size % 10) = 10 - luS T T.size % 10 := by unfold wrap64; omega
    rw [e2, Int.tmod_eq_emod_of_nonneg (by omega), ← Hand.luV_def]
  | d + 1, i, k, h, hk => by
    obtain ⟨k, rfl⟩ : ∃ m, k = m + 1 := ⟨k - 1, by omega⟩
    have hb := Hand.luS_bd T hd i (by omega)
    have hx := hd ((T.size : Int) - 1 - i) (by omega) (by omega)
    have he := Hand.luE_bd i (bt T ((T.size : Int) - 1 - i) - 48) (by omega) (by omega)
    have ih := rluhn_loop D T hl hd hdl hrd d (i + 1) k (by omega) (by omega)
    have w1 : wrap64 (wrap64 ((D.length : Int) - 1) - i) = (T.size : Int) - 1 - i := by rw [hdl]; unfold wrap64; omega
    have w2 : wrap64 ((i : Int) + 1) = ((i + 1 : Nat) : Int) := by unfold wrap64; omega
    have e1 : Int.tmod (i : Int) 2 = (i : Int) % 2 := Int.tmod_eq_emod_of_nonneg (by omega)
    have hsx : luS T (i + 1) = luS T i + luE i (bt T ((T.size : Int) - 1 - i) - 48) := Hand.luS_succ T i
    have c1 : (i : Int) < (D.length : Int) := by omega
    have c2 : 0 ≤ (T.size : Int) - 1 - i := by omega
    have c3 : (T.size : Int) - 1 - i < (D.length : Int) := by omega
    have hb2 : luS T i ≤ 9000 := by omega
    have hr := hrd ((T.size : Int) - 1 - i) c2 (by omega)
    simp only [giroref05_Luhn.l0]
    rw [if_pos c1, w1, if_pos c2, if_pos c3, w2, e1, hr]
    clear w1 w2 e1 c1 c2 c3 hr
    generalize bt T ((T.size : Int) - 1 - i) = B at hx he hsx ⊢
    have hl0 := hb.1
    clear hb hd h hk hl hdl hrd
    generalize luS T i = S at hb2 hl0 hsx ⊢
    by_cases hp : (i : Int) % 2 = 0
    · rw [if_pos hp]
      have hq : i % 2 = 0 := by omega
      have hs : luS T (i + 1) = S + ((B - 48) * 2 / 10 + (B - 48) * 2 % 10) := by rw [hsx]; unfold luE; rw [if_pos hq]
      have t1 : wrap64 (2 * (B - 48)) = (B - 48) * 2 := by unfold wrap64; omega
      have t2 : Int.tdiv ((B - 48) * 2) 10 = (B - 48) * 2 / 10 := Int.tdiv_eq_ediv_of_nonneg (by omega)
      have t3 : Int.tmod ((B - 48) * 2) 10 = (B - 48) * 2 % 10 := Int.tmod_eq_emod_of_nonneg (by omega)
      have t4 : wrap64 ((B - 48) * 2 / 10) = (B - 48) * 2 / 10 := by unfold wrap64; omega
      have t5 : wrap64 (S + (B - 48) * 2 / 10) = S + (B - 48) * 2 / 10 := by unfold wrap64; omega
      have w3 : wrap64 (S + (B - 48) * 2 / 10 + (B - 48) * 2 % 10) = luS T (i + 1) := by rw [hs]; unfold wrap64; omega
      rw [t1, t2, t3, t4, t5, w3]; exact ih
    · rw [if_neg hp]
      have hq : ¬ i % 2 = 0 := by omega
      have hs : luS T (i + 1) = S + ((B - 48) / 10 + (B - 48) % 10) := by rw [hsx]; unfold luE; rw [if_neg hq]
      have t2 : Int.tdiv (B - 48) 10 = (B - 48) / 10 := Int.tdiv_eq_ediv_of_nonneg (by omega)
      have t3 : Int.tmod (B - 48) 10 = (B - 48) % 10 := Int.tmod_eq_emod_of_nonneg (by omega)
      have t4 : wrap64 ((B - 48) / 10) = (B - 48) / 10 := by unfold wrap64; omega
      have t5 : wrap64 (S + (B - 48) / 10) = S + (B - 48) / 10 := by unfold wrap64; omega
      have w3 : wrap64 (S + (B - 48) / 10 + (B - 48) % 10) = luS T (i + 1) := by rw [hs]; unfold wrap64; omega
      rw [t2, t3, t4, t5, w3]; exact ih
theorem rluhn_f (s : ByteArray) (hs : s.size ≤ 100) (hall : ∀ c ∈ s.data.toList, anC c.toNat = true) (k : Nat) (hk : 500 < k) : giroref05_Luhn.f k s = some (luV (expB s.data.toList)) := by
  have hlen := Hand.expL_len s.data.toList hall
  have hl2 : s.data.toList.length = s.size := by simp
  have h1 := exp_loop s (by omega) hall s.size 0 k (by omega) (by omega)
  have hz : (expB s.data.toList).size = (expL s.data.toList).length := by simp [expB, ByteArray.size]
  have hdl : (digs (expL s.data.toList)).length = (expB s.data.toList).size := by rw [hz]; simp [digs]
  have hle : (expB s.data.toList).size ≤ 200 := by rw [hz]; exact Nat.le_trans hlen (by rw [hl2]; exact Nat.mul_le_mul_left 2 hs)
  have h2 := rluhn_loop (digs (expL s.data.toList)) (expB s.data.toList) (Nat.le_trans hle (by decide)) (Hand.expB_dig _ hall) hdl (fun j h0 h1 => rd_digs _ j h0 (by rw [← hz]; exact h1)) (expB s.data.toList).size 0 k (Nat.zero_add _) (Nat.lt_of_le_of_lt hle (Nat.lt_trans (by decide) hk))
  unfold giroref05_Luhn.f giroref05_Expand.f
  rw [show digs (expL (s.data.toList.take 0)) = [] from rfl, show ((0 : Nat) : Int) = 0 from rfl] at h1
  rw [show luS (expB s.data.toList) 0 = 0 from Hand.luS_zero _, show ((0 : Nat) : Int) = 0 from rfl] at h2
  rw [h1, Option.bind_some]
  exact h2
end Go.Proofs.YtpclapnmiacfpaaDoor.Q
end
section
set_option linter.unusedVariables false
namespace Go.Proofs.YtpclapnmiacfpaaDoor.Q
open Go.RowKit Go.Proofs.YtpclapnmiacfpaaDoorW.PrintWords Go.Proofs.YtpclapnmiacfpaaDoorW.PrintLast Go.Proofs.YtpclapnmiacfpaaDoorW.PrintMore
open Hand (upC dgC anC rfC prOf spanL idG idS idv luE luS luV luC expL expC expB DigB ChkTo prefB)
def QOK (q : Int) : Prop := q = 0 ∨ q = 1 ∨ q = 2
theorem idv_bad' {q : Int} {s : ByteArray} (h : ¬ (prefB (spanL (idG q)) (idS q) s.data.toList = true)) : idv q s = false := by
  unfold idv; rw [Bool.eq_false_iff.2 h]; rfl
theorem lens_f (q : Int) (hq : QOK q) : giroref05_Lengths.f q = some ((idS q : Int), ((spanL (idG q)).length : Int)) := by
  rcases hq with rfl | rfl | rfl <;> decide
theorem s11 (s : ByteArray) (h : s.size = 12) : s.data.toList.drop 11 = [s[11]] := by
  have h' : s.data.toList.length = 12 := by simpa using h
  rw [List.drop_eq_getElem_cons (by omega), List.drop_eq_nil_of_le (by omega)]
  rfl
theorem chk_end (q : Int) (hq : QOK q) (s : ByteArray) (i : Int) (hc : ∀ i, i < (spanL (idG q)).length → (h : i < s.size) → prOf ((spanL (idG q)).getD i 0) (s[i].toNat : Int) = true) (k : Nat) (hk : 1000 < k) :
    ∃ a e, giroref05_Check.j2 k q s (idS q : Int) ((spanL (idG q)).length : Int) i false = some (a, e) ∧ (e = 0 ↔ idv q s = true) := by
  obtain ⟨k, rfl⟩ : ∃ m, k = m + 1 := ⟨k - 1, by omega⟩
  have hpe := Hand.pref_end (gs := spanL (idG q)) (sh := idS q) (s := s) (fun i h1 h2 => hc i h1 h2)
  simp only [giroref05_Check.j2]
  rw [if_neg (by decide)]
  by_cases h1 : s.size < idS q
  · rw [if_pos (by omega)]
    refine ⟨_, _, rfl, ?_⟩
    have : idv q s = false := idv_bad' (fun h => by have := hpe.1 h; omega)
    rw [this]; decide
  · rw [if_neg (by omega)]
    by_cases h2 : (spanL (idG q)).length < s.size
    · rw [if_pos (by omega)]
      refine ⟨_, _, rfl, ?_⟩
      have : idv q s = false := idv_bad' (fun h => by have := hpe.1 h; omega)
      rw [this]; decide
    · rw [if_neg (by omega)]
      have hp : prefB (spanL (idG q)) (idS q) s.data.toList = true := hpe.2 (by omega)
      obtain ⟨k, rfl⟩ : ∃ m, k = m + 1 := ⟨k - 1, by omega⟩
      by_cases h0 : q = 0
      · subst h0
        have hs : s.size = 12 := by
          have e1 : (spanL (idG 0)).length = 12 := by decide
          have e2 : idS 0 = 12 := by decide
          omega
        have e11 : 11 < s.size := by omega
        have hlt : (11 : Int) < (s.size : Int) := by omega
        have hle : (11 : Int) ≤ (s.size : Int) := by omega
        have hx : (s.extract 0 11).data.toList = s.data.toList.take 11 := by rw [Lib.extract_data]; simp
        have hex : (s.extract 0 11).size ≤ 100 := by rw [ByteArray.size_extract]; omega
        have hall : ∀ c ∈ (s.extract 0 11).data.toList, anC c.toNat = true := by
          rw [hx]
          intro c hcm
          obtain ⟨j, hj, rfl⟩ := List.mem_take_iff_getElem.1 hcm
          have hj1 : j < 11 := by omega
          have h3 := hc j (by have e1 : (spanL (idG 0)).length = 12 := by decide
                              omega) (by omega)
          rw [gs0 j (by omega)] at h3
          have hb : s[j]'(by omega) = s.data.toList[j]'(by simp; omega) := rfl
          rw [← hb]
          by_cases h5 : j < 2
          · rw [if_pos h5] at h3
            have h6 : upC _ = true := h3
            unfold anC; rw [h6]; rfl
          · rw [if_neg h5, if_pos hj1] at h3
            exact h3
        have h12 := hc 11 (by decide) e11
        rw [gs0 11 (by decide), if_neg (by decide), if_neg (by decide)] at h12
        have hd := (Hand.dgC_iff _).1 (show dgC (s[11].toNat : Int) = true from h12)
        have hl := rluhn_f (s.extract 0 11) hex hall (k + 1) (by omega)
        rw [hx] at hl
        rw [if_pos rfl, if_pos hlt, if_pos (by decide), if_pos hle, hl, Option.bind_some]
        have hbt : bt s 11 = (s[11].toNat : Int) := bt_get s 11 e11
        have hv := Hand.luV_bd (expB (s.data.toList.take 11))
        have hid : idv 0 s = ((s.data.toList.drop 11) == [luC (s.data.toList.take 11)]) := by
          unfold idv; rw [hp]; rfl
        have hid2 : (idv 0 s = true) ↔ (s[11].toNat : Int) - 48 = luV (expB (s.data.toList.take 11)) := by
          rw [hid, beq_iff_eq, s11 s hs]
          have hcn : ((luC (s.data.toList.take 11)).toNat : Int) = 48 + luV (expB (s.data.toList.take 11)) := by
            unfold luC; rw [Hand.ofNat_toNat _ (by omega)]; omega
          constructor
          · intro h
            have h7 : s[11] = luC (s.data.toList.take 11) := by simpa using h
            rw [h7, hcn]; omega
          · intro h
            have h8 : s[11] = luC (s.data.toList.take 11) := UInt8.toNat_inj.1 (by omega)
            rw [h8]
        rw [hbt]
        generalize luV (expB (s.data.toList.take 11)) = V at hv hid2 ⊢
        generalize (s[11].toNat : Int) = S at hd hid2 ⊢
        have hm : (S - 48) % 256 = S - 48 := by omega
        rw [hm]
        simp only [giroref05_Check.j3]
        by_cases hV : S - 48 = V
        · rw [if_neg (by rw [hV]; simp), if_neg (by decide)]
          exact ⟨_, _, rfl, by simp [hid2.2 hV]⟩
        · rw [if_pos (by simpa using hV)]
          refine ⟨_, _, rfl, ?_⟩
          have : ¬ idv 0 s = true := fun h => hV (hid2.1 h)
          simp [this]
      · rw [if_neg h0]
        simp only [giroref05_Check.j3]
        have h3 : ¬ q = 3 := by rcases hq with h | h | h <;> omega
        rw [if_neg (by decide), if_neg h3]
        refine ⟨_, _, rfl, ?_⟩
        have : idv q s = true := by unfold idv; rw [hp, Bool.true_and, Bool.or_eq_true]; exact .inl (by simpa using h0)
        simp [this]
theorem chk_loop (q : Int) (hq : QOK q) (s : ByteArray) (hs : s.size ≤ 281474976710656) : ∀ (d i k : Nat), i + d = (spanL (idG q)).length → 2 * d + 2000 < k → Hand.ChkTo (spanL (idG q)) s i →
    ∃ a e, giroref05_Check.l0 k q s (idS q : Int) ((spanL (idG q)).length : Int) (i : Int) = some (a, e) ∧ (e = 0 ↔ idv q s = true)
  | 0, i, k, h, hk, hc => by
    obtain ⟨k, rfl⟩ : ∃ m, k = m + 1 := ⟨k - 1, by omega⟩
    have hi : i = (spanL (idG q)).length := by omega
    simp only [giroref05_Check.l0]
    have hend := chk_end q hq s (i : Int) (fun j h1 h2 => hc j (by omega) h2) k (by omega)
    by_cases h1 : (i : Int) < (s.size : Int)
    · rw [if_pos h1, show decide ((i : Int) < ((spanL (idG q)).length : Int)) = false from decide_eq_false (by omega)]
      exact hend
    · rw [if_neg h1]; exact hend
  | d + 1, i, k, h, hk, hc => by
    obtain ⟨k, rfl⟩ : ∃ m, k = m + 1 := ⟨k - 1, by omega⟩
    have hi : i < (spanL (idG q)).length := by omega
    simp only [giroref05_Check.l0]
    by_cases h1 : i < s.size
    · rw [if_pos (by omega), show decide ((i : Int) < ((spanL (idG q)).length : Int)) = true from decide_eq_true (by omega)]
      obtain ⟨k, rfl⟩ : ∃ m, k = m + 1 := ⟨k - 1, by omega⟩
      have c0 : (0 : Int) ≤ (i : Int) := by omega
      have c1 : (i : Int) < (s.size : Int) := by omega
      have w2 : wrap64 ((i : Int) + 1) = ((i + 1 : Nat) : Int) := by unfold wrap64; omega
      simp only [giroref05_Check.j2]
      rw [if_pos True.intro, if_pos c0, if_pos c1, bt_get s i h1, may_q q hq i hi, Option.bind_some, w2]
      cases hv : prOf ((spanL (idG q)).getD i 0) (s[i].toNat : Int) with
      | true =>
        rw [if_pos rfl]
        exact chk_loop q hq s hs d (i + 1) k (by omega) (by omega) (Hand.chk_snoc hc (fun _ => hv))
      | false =>
        rw [if_neg (by decide)]
        refine ⟨_, _, rfl, ?_⟩
        have : idv q s = false := idv_bad' (by rw [Hand.pref_bad hi h1 hv]; decide)
        rw [this]; decide
    · rw [if_neg (by omega)]
      exact chk_end q hq s (i : Int) (fun j h3 h4 => hc j (by omega) h4) k (by omega)
theorem rcheck_f (q : Int) (hq : QOK q) (s : ByteArray) (hs : s.size ≤ 281474976710656) (k : Nat) (hk : 3000 < k) : ∃ a e, giroref05_Check.f k q s = some (a, e) ∧ (e = 0 ↔ idv q s = true) := by
  obtain ⟨k, rfl⟩ : ∃ m, k = m + 1 := ⟨k - 1, by omega⟩
  have hn : (spanL (idG q)).length ≤ 16 := by rcases hq with rfl | rfl | rfl <;> decide
  have h0 : ¬ q < 0 := by rcases hq with h | h | h <;> omega
  have h3 : decide (q > 3) = false := decide_eq_false (by rcases hq with h | h | h <;> omega)
  unfold giroref05_Check.f
  rw [if_neg h0, h3]
  simp only [giroref05_Check.j0]
  rw [if_neg (by decide), lens_f q hq, Option.bind_some]
  exact chk_loop q hq s hs (spanL (idG q)).length 0 k (by omega) (by omega) (fun j h => by omega)
theorem rvalid_f (q : Int) (hq : QOK q) (s : ByteArray) (hs : s.size ≤ 281474976710656) (k : Nat) (hk : 3000 < k) : giroref23_valid.f k q s = some (idv q s) := by
  obtain ⟨a, e, h1, h2⟩ := rcheck_f q hq s hs k hk
  unfold giroref23_valid.f
  rw [h1, Option.bind_some]
  congr 1
  rw [Bool.eq_iff_iff, beq_iff_eq]
  exact h2
end Go.Proofs.YtpclapnmiacfpaaDoor.Q
end
section
set_option linter.unusedVariables false
namespace Go.Proofs.YtpclapnmiacfpaaDoor.Q
open Go.RowKit Go.Proofs.YtpclapnmiacfpaaDoorW.PrintWords Go.Proofs.YtpclapnmiacfpaaDoorW.PrintLast Go.Proofs.YtpclapnmiacfpaaDoorW.PrintMore
open Hand (idv)
def inB (n lo hi : Int) : Bool := decide (lo ≤ n) && decide (n ≤ hi)
theorem inB_iff (n lo hi : Int) : inB n lo hi = true ↔ lo ≤ n ∧ n ≤ hi := by simp [inB]
def tc7 (b : Bool) (r0 r1 : ByteArray) : Int := if b = true then 2 else if idv 2 r0 && idv 2 r1 then 0 else 6
def tc5 (b : Bool) (q : Int) (pa : Bool) (ml : Int) (r0 r1 : ByteArray) : Int := if b = true then 2 else tc7 (if pa then !(inB ml 1 q) else ml != 0) r0 r1
def tc4 (b : Bool) (q pr : Int) (pa : Bool) (ml : Int) (r0 r1 : ByteArray) : Int := if b = true then 28 else tc5 (!(inB pr 0 2)) q pa ml r0 r1
def tc3 (b : Bool) (q td sd pr : Int) (pa : Bool) (ml : Int) (r0 r1 : ByteArray) : Int := if b = true then 2 else tc4 (!(inB sd 0 73048) || !(inB td 0 sd)) q pr pa ml r0 r1
def tc1 (b : Bool) (kd : Int) (dl rc aa : ByteArray) (q am td sd pr : Int) (pa : Bool) (ml : Int) (r0 r1 : ByteArray) : Int :=
  if b = true then 6 else if dl.toList = rc.toList then 1 else if idv 0 aa then (if inB q 1 1000000000000000 then tc3 (if kd = 1 then !(inB am 1 1000000000000000) else kd == 2 && am != 0) q td sd pr pa ml r0 r1 else 2) else 6
def tc (kd : Int) (dl rc aa : ByteArray) (q am td sd pr : Int) (pa : Bool) (ml : Int) (r0 r1 : ByteArray) : Int :=
  if kd = 1 ∨ kd = 2 then tc1 (!(idv 1 dl && idv 1 rc)) kd dl rc aa q am td sd pr pa ml r0 r1 else 11
def Sz (s : ByteArray) : Prop := s.size ≤ 281474976710656
theorem valid_f (q : Int) (hq : QOK q) (s : ByteArray) (hs : Sz s) : ident_Valid.f q s = some (idv q s) := by
  unfold ident_Valid.f; rw [if_pos ⟨hq, hs⟩]
theorem m1_f (s : ByteArray) (hs : Sz s) : matching_Trade_Check_1.f s = some (idv 1 s) := by
  unfold matching_Trade_Check_1.f; rw [valid_f 1 (.inr (.inl rfl)) s hs]; rfl
theorem m2_f (s : ByteArray) (hs : Sz s) : matching_Trade_Check_2.f s = some (idv 2 s) := by
  unfold matching_Trade_Check_2.f; rw [valid_f 2 (.inr (.inr rfl)) s hs]; rfl
theorem mw_f (n lo hi : Int) : matching_within.f n lo hi = some (inB n lo hi) := by
  unfold matching_within.f inB
  by_cases h : lo ≤ n
  · rw [if_pos h]; simp [h]
  · rw [if_neg h]; simp [h]
section
variable (kd : Int) (dl rc aa : ByteArray) (q am td sd pr : Int) (pa : Bool) (ml : Int) (r0 r1 : ByteArray) (h0 : Sz r0) (h1 : Sz r1)
include h0 h1
theorem mj7 (b : Bool) (k : Nat) : matching_Trade_Check.j7 (k + 1) b kd dl rc aa q am td sd pr pa ml r0 r1 = some (tc7 b r0 r1) := by
  simp only [matching_Trade_Check.j7]
  unfold tc7
  cases b with
  | true => rfl
  | false =>
    rw [if_neg Bool.false_ne_true, if_neg Bool.false_ne_true, m2_f r0 h0, m2_f r1 h1]
    simp only [Option.bind_some]
    cases idv 2 r0 <;> cases idv 2 r1 <;> rfl
theorem mj6 (b : Bool) (k : Nat) : matching_Trade_Check.j6 (k + 2) b kd dl rc aa q am td sd pr pa ml r0 r1 = some (tc7 (b || (!pa && ml != 0)) r0 r1) := by
  simp only [matching_Trade_Check.j6]
  cases b with
  | true => rw [if_pos (rfl : true = true), mj7 _ _ _ _ _ _ _ _ _ _ _ _ _ h0 h1]; rfl
  | false =>
    rw [if_neg Bool.false_ne_true]
    cases pa with
    | true => rw [if_pos (rfl : true = true), mj7 _ _ _ _ _ _ _ _ _ _ _ _ _ h0 h1]; rfl
    | false => rw [if_neg Bool.false_ne_true, mj7 _ _ _ _ _ _ _ _ _ _ _ _ _ h0 h1]; rfl
theorem mj5 (b : Bool) (k : Nat) : matching_Trade_Check.j5 (k + 3) b kd dl rc aa q am td sd pr pa ml r0 r1 = some (tc5 b q pa ml r0 r1) := by
  simp only [matching_Trade_Check.j5]
  unfold tc5
  cases b with
  | true => rfl
  | false =>
    rw [if_neg Bool.false_ne_true, if_neg Bool.false_ne_true]
    cases pa with
    | true => rw [if_pos (rfl : true = true), mw_f, Option.bind_some, mj6 _ _ _ _ _ _ _ _ _ _ _ _ _ h0 h1]; simp
    | false => rw [if_neg Bool.false_ne_true, mj6 _ _ _ _ _ _ _ _ _ _ _ _ _ h0 h1]; simp
theorem mj4 (b : Bool) (k : Nat) : matching_Trade_Check.j4 (k + 4) b kd dl rc aa q am td sd pr pa ml r0 r1 = some (tc4 b q pr pa ml r0 r1) := by
  simp only [matching_Trade_Check.j4]
  unfold tc4
  cases b with
  | true => rfl
  | false =>
    rw [if_neg Bool.false_ne_true, if_neg Bool.false_ne_true]
    by_cases h : pr < 0
    · rw [if_pos h, mj5 _ _ _ _ _ _ _ _ _ _ _ _ _ h0 h1, show (!(inB pr 0 2)) = true from by simp [inB]; omega]
    · rw [if_neg h, mj5 _ _ _ _ _ _ _ _ _ _ _ _ _ h0 h1]
      congr 2
      rw [Bool.eq_iff_iff]; simp [inB]; omega
theorem mj3 (b : Bool) (k : Nat) : matching_Trade_Check.j3 (k + 5) b kd dl rc aa q am td sd pr pa ml r0 r1 = some (tc3 b q td sd pr pa ml r0 r1) := by
  simp only [matching_Trade_Check.j3]
  unfold tc3
  cases b with
  | true => rfl
  | false =>
    rw [if_neg Bool.false_ne_true, if_neg Bool.false_ne_true]
    by_cases g1 : sd < 0
    · rw [if_pos g1, mj4 _ _ _ _ _ _ _ _ _ _ _ _ _ h0 h1, show (!(inB sd 0 73048) || !(inB td 0 sd)) = true from by simp [inB]; omega]
    · rw [if_neg g1]
      by_cases g2 : sd > 73048
      · rw [if_pos g2, mj4 _ _ _ _ _ _ _ _ _ _ _ _ _ h0 h1, show (!(inB sd 0 73048) || !(inB td 0 sd)) = true from by simp [inB]; omega]
      · rw [if_neg g2]
        by_cases g3 : td < 0
        · rw [if_pos g3, mj4 _ _ _ _ _ _ _ _ _ _ _ _ _ h0 h1, show (!(inB sd 0 73048) || !(inB td 0 sd)) = true from by simp [inB]; omega]
        · rw [if_neg g3, mj4 _ _ _ _ _ _ _ _ _ _ _ _ _ h0 h1]
          congr 2
          rw [Bool.eq_iff_iff]; simp [inB]; omega
theorem mj2 (b : Bool) (k : Nat) : matching_Trade_Check.j2 (k + 6) b kd dl rc aa q am td sd pr pa ml r0 r1 = some (tc3 (b || (kd == 2 && am != 0)) q td sd pr pa ml r0 r1) := by
  simp only [matching_Trade_Check.j2]
  cases b with
  | true => rw [if_pos (rfl : true = true), mj3 _ _ _ _ _ _ _ _ _ _ _ _ _ h0 h1]; rfl
  | false =>
    rw [if_neg Bool.false_ne_true]
    by_cases g : kd = 2
    · rw [if_pos g, mj3 _ _ _ _ _ _ _ _ _ _ _ _ _ h0 h1, g]; rfl
    · rw [if_neg g, mj3 _ _ _ _ _ _ _ _ _ _ _ _ _ h0 h1, beq_eq_false_iff_ne.2 g]; rfl
theorem mj1 (ha : Sz aa) (b : Bool) (k : Nat) : matching_Trade_Check.j1 (k + 7) b kd dl rc aa q am td sd pr pa ml r0 r1 = some (tc1 b kd dl rc aa q am td sd pr pa ml r0 r1) := by
  simp only [matching_Trade_Check.j1]
  unfold tc1
  cases b with
  | true => rfl
  | false =>
    rw [if_neg Bool.false_ne_true, if_neg Bool.false_ne_true]
    by_cases g : dl.toList = rc.toList
    · rw [if_pos g, if_pos g]
    · rw [if_neg g, if_neg g, valid_f 0 (.inl rfl) aa ha, Option.bind_some]
      cases idv 0 aa with
      | false => rfl
      | true =>
        rw [if_pos (rfl : true = true), if_pos (rfl : true = true), mw_f, Option.bind_some]
        cases inB q 1 1000000000000000 with
        | false => rfl
        | true =>
          rw [if_pos (rfl : true = true), if_pos (rfl : true = true)]
          by_cases g1 : kd = 1
          · rw [if_pos g1, if_pos g1, mw_f, Option.bind_some, mj2 _ _ _ _ _ _ _ _ _ _ _ _ _ h0 h1, g1]
            simp
          · rw [if_neg g1, if_neg g1, mj2 _ _ _ _ _ _ _ _ _ _ _ _ _ h0 h1]
            simp
theorem mcheck_f (hd : Sz dl) (hr : Sz rc) (ha : Sz aa) (k : Nat) (hk : 10 < k) : matching_Trade_Check.f k kd dl rc aa q am td sd pr pa ml r0 r1 = some (tc kd dl rc aa q am td sd pr pa ml r0 r1) := by
  obtain ⟨k, rfl⟩ : ∃ m, k = m + 8 := ⟨k - 8, by omega⟩
  have key : ∀ b, matching_Trade_Check.j0 (k + 8) b kd dl rc aa q am td sd pr pa ml r0 r1 = some (if b = true then 11 else tc1 (!(idv 1 dl && idv 1 rc)) kd dl rc aa q am td sd pr pa ml r0 r1) := by
    intro b
    simp only [matching_Trade_Check.j0]
    cases b with
    | true => rfl
    | false =>
      rw [if_neg Bool.false_ne_true, if_neg Bool.false_ne_true, m1_f dl hd, m1_f rc hr]
      simp only [Option.bind_some]
      cases idv 1 dl with
      | false => rw [if_neg Bool.false_ne_true, mj1 _ _ _ _ _ _ _ _ _ _ _ _ _ h0 h1 ha]; rfl
      | true => rw [if_pos (rfl : true = true), mj1 _ _ _ _ _ _ _ _ _ _ _ _ _ h0 h1 ha]; rfl
  unfold matching_Trade_Check.f tc
  by_cases g : kd = 1
  · rw [if_pos g, key, if_neg Bool.false_ne_true, if_pos (.inl g)]
  · rw [if_neg g, key]
    by_cases g2 : kd = 2
    · rw [if_neg (by simp [g2]), if_pos (.inr g2)]
    · rw [if_pos (by simpa using g2), if_neg (by simp [g, g2])]
end
end Go.Proofs.YtpclapnmiacfpaaDoor.Q
end
section
set_option linter.unusedVariables false
namespace Go.Proofs.YtpclapnmiacfpaaDoor.Q
open Go.RowKit Go.Proofs.YtpclapnmiacfpaaDoorW.PrintWords Go.Proofs.YtpclapnmiacfpaaDoorW.PrintLast Go.Proofs.YtpclapnmiacfpaaDoorW.PrintMore
open Hand (idv)
section
variable (kd : Int) (dl rc aa : ByteArray) (q am td sd pr : Int) (pa : Bool) (ml : Int) (r0 r1 : ByteArray) (h0 : Sz r0) (h1 : Sz r1)
include h0 h1
theorem rj5 (b : Bool) (k : Nat) (hk : 3000 < k) : giroref23_Check.j5 (k + 1) b kd dl rc aa q am td sd pr pa ml r0 r1 = some (tc7 b r0 r1) := by
  simp only [giroref23_Check.j5]
  unfold tc7
  cases b with
  | true => rfl
  | false =>
    rw [if_neg Bool.false_ne_true, if_neg Bool.false_ne_true, rvalid_f 2 (.inr (.inr rfl)) r0 h0 k hk, rvalid_f 2 (.inr (.inr rfl)) r1 h1 k hk]
    simp only [Option.bind_some]
    cases idv 2 r0 <;> cases idv 2 r1 <;> rfl
theorem rj4 (b : Bool) (k : Nat) (hk : 3000 < k) : giroref23_Check.j4 (k + 2) b kd dl rc aa q am td sd pr pa ml r0 r1 = some (tc5 b q pa ml r0 r1) := by
  simp only [giroref23_Check.j4]
  unfold tc5
  cases b with
  | true => rfl
  | false =>
    rw [if_neg Bool.false_ne_true, if_neg Bool.false_ne_true]
    cases pa with
    | true =>
      rw [if_pos (rfl : true = true), if_pos (rfl : true = true)]
      by_cases g1 : ml < 1
      · rw [if_pos g1, rj5 _ _ _ _ _ _ _ _ _ _ _ _ _ h0 h1 _ _ hk, show (!(inB ml 1 q)) = true from by simp [inB]; omega]
      · rw [if_neg g1]
        by_cases g2 : ml > q
        · rw [if_pos g2, rj5 _ _ _ _ _ _ _ _ _ _ _ _ _ h0 h1 _ _ hk, show (!(inB ml 1 q)) = true from by simp [inB]; omega]
        · rw [if_neg g2, rj5 _ _ _ _ _ _ _ _ _ _ _ _ _ h0 h1 _ _ hk, show (!(inB ml 1 q)) = false from by simp [inB]; omega]
    | false => rw [if_neg Bool.false_ne_true, rj5 _ _ _ _ _ _ _ _ _ _ _ _ _ h0 h1 _ _ hk, if_neg Bool.false_ne_true]
theorem rj3 (b : Bool) (k : Nat) (hk : 3000 < k) : giroref23_Check.j3 (k + 3) b kd dl rc aa q am td sd pr pa ml r0 r1 = some (tc4 b q pr pa ml r0 r1) := by
  simp only [giroref23_Check.j3]
  unfold tc4
  cases b with
  | true => rfl
  | false =>
    rw [if_neg Bool.false_ne_true, if_neg Bool.false_ne_true]
    by_cases h : pr < 0
    · rw [if_pos h, rj4 _ _ _ _ _ _ _ _ _ _ _ _ _ h0 h1 _ _ hk, show (!(inB pr 0 2)) = true from by simp [inB]; omega]
    · rw [if_neg h, rj4 _ _ _ _ _ _ _ _ _ _ _ _ _ h0 h1 _ _ hk]
      congr 2
      rw [Bool.eq_iff_iff]; simp [inB]; omega
theorem rj2 (b : Bool) (k : Nat) (hk : 3000 < k) : giroref23_Check.j2 (k + 4) b kd dl rc aa q am td sd pr pa ml r0 r1 = some (tc3 b q td sd pr pa ml r0 r1) := by
  simp only [giroref23_Check.j2]
  unfold tc3
  cases b with
  | true => rfl
  | false =>
    rw [if_neg Bool.false_ne_true, if_neg Bool.false_ne_true]
    by_cases g1 : sd < 0
    · rw [if_pos g1, rj3 _ _ _ _ _ _ _ _ _ _ _ _ _ h0 h1 _ _ hk, show (!(inB sd 0 73048) || !(inB td 0 sd)) = true from by simp [inB]; omega]
    · rw [if_neg g1]
      by_cases g2 : sd > 73048
      · rw [if_pos g2, rj3 _ _ _ _ _ _ _ _ _ _ _ _ _ h0 h1 _ _ hk, show (!(inB sd 0 73048) || !(inB td 0 sd)) = true from by simp [inB]; omega]
      · rw [if_neg g2]
        by_cases g3 : td < 0
        · rw [if_pos g3, rj3 _ _ _ _ _ _ _ _ _ _ _ _ _ h0 h1 _ _ hk, show (!(inB sd 0 73048) || !(inB td 0 sd)) = true from by simp [inB]; omega]
        · rw [if_neg g3, rj3 _ _ _ _ _ _ _ _ _ _ _ _ _ h0 h1 _ _ hk]
          congr 2
          rw [Bool.eq_iff_iff]; simp [inB]; omega
theorem rj1 (ha : Sz aa) (b : Bool) (k : Nat) (hk : 3000 < k) : giroref23_Check.j1 (k + 5) b kd dl rc aa q am td sd pr pa ml r0 r1 = some (tc1 b kd dl rc aa q am td sd pr pa ml r0 r1) := by
  simp only [giroref23_Check.j1]
  unfold tc1
  cases b with
  | true => rfl
  | false =>
    rw [if_neg Bool.false_ne_true, if_neg Bool.false_ne_true]
    by_cases g : dl.toList = rc.toList
    · rw [if_pos g, if_pos g]
    · rw [if_neg g, if_neg g, rvalid_f 0 (.inl rfl) aa ha _ (by omega), Option.bind_some]
      cases idv 0 aa with
      | false => rfl
      | true =>
        rw [if_pos (rfl : true = true), if_pos (rfl : true = true)]
        by_cases g1 : q < 1
        · rw [if_pos g1, rj2 _ _ _ _ _ _ _ _ _ _ _ _ _ h0 h1 _ _ hk, show inB q 1 1000000000000000 = false from by simp [inB]; omega]
          rfl
        · rw [if_neg g1]
          by_cases g2 : q > 1000000000000000
          · rw [if_pos g2, rj2 _ _ _ _ _ _ _ _ _ _ _ _ _ h0 h1 _ _ hk, show inB q 1 1000000000000000 = false from by simp [inB]; omega]
            rfl
          · rw [if_neg g2, show inB q 1 1000000000000000 = true from by simp [inB]; omega, if_pos (rfl : true = true)]
            by_cases g3 : kd = 1
            · rw [if_pos g3, if_pos g3]
              have n2 : ¬ kd = 2 := by omega
              by_cases g4 : am < 1
              · rw [if_pos g4, rj2 _ _ _ _ _ _ _ _ _ _ _ _ _ h0 h1 _ _ hk, show (!(inB am 1 1000000000000000)) = true from by simp [inB]; omega]
              · rw [if_neg g4]
                by_cases g5 : am > 1000000000000000
                · rw [if_pos g5, rj2 _ _ _ _ _ _ _ _ _ _ _ _ _ h0 h1 _ _ hk, show (!(inB am 1 1000000000000000)) = true from by simp [inB]; omega]
                · rw [if_neg g5, if_neg n2, rj2 _ _ _ _ _ _ _ _ _ _ _ _ _ h0 h1 _ _ hk, show (!(inB am 1 1000000000000000)) = false from by simp [inB]; omega]
            · rw [if_neg g3, if_neg g3]
              by_cases g4 : kd = 2
              · rw [if_pos g4, rj2 _ _ _ _ _ _ _ _ _ _ _ _ _ h0 h1 _ _ hk, beq_iff_eq.2 g4]; rfl
              · rw [if_neg g4, rj2 _ _ _ _ _ _ _ _ _ _ _ _ _ h0 h1 _ _ hk, beq_eq_false_iff_ne.2 g4]; rfl
theorem rcheck23_f (hd : Sz dl) (hr : Sz rc) (ha : Sz aa) (k : Nat) (hk : 4000 < k) : giroref23_Check.f k kd dl rc aa q am td sd pr pa ml r0 r1 = some (tc kd dl rc aa q am td sd pr pa ml r0 r1) := by
  obtain ⟨k, rfl⟩ : ∃ m, k = m + 6 := ⟨k - 6, by omega⟩
  have key : ∀ b, giroref23_Check.j0 (k + 6) b kd dl rc aa q am td sd pr pa ml r0 r1 = some (if b = true then 11 else tc1 (!(idv 1 dl && idv 1 rc)) kd dl rc aa q am td sd pr pa ml r0 r1) := by
    intro b
    simp only [giroref23_Check.j0]
    cases b with
    | true => rfl
    | false =>
      rw [if_neg Bool.false_ne_true, if_neg Bool.false_ne_true, rvalid_f 1 (.inr (.inl rfl)) dl hd _ (by omega), rvalid_f 1 (.inr (.inl rfl)) rc hr _ (by omega)]
      simp only [Option.bind_some]
      cases idv 1 dl with
      | false => rw [if_neg Bool.false_ne_true, rj1 _ _ _ _ _ _ _ _ _ _ _ _ _ h0 h1 ha _ _ (by omega)]; rfl
      | true => rw [if_pos (rfl : true = true), rj1 _ _ _ _ _ _ _ _ _ _ _ _ _ h0 h1 ha _ _ (by omega)]; rfl
  unfold giroref23_Check.f tc
  by_cases g : kd = 1
  · rw [if_pos g, key, if_neg Bool.false_ne_true, if_pos (.inl g)]
  · rw [if_neg g, key]
    by_cases g2 : kd = 2
    · rw [if_neg (by simp [g2]), if_pos (.inr g2)]
    · rw [if_pos (by simpa using g2), if_neg (by simp [g, g2])]
end
end Go.Proofs.YtpclapnmiacfpaaDoor.Q
end
section
set_option linter.unusedVariables false
namespace Go.Proofs.YtpclapnmiacfpaaDoor.Q
open Go.RowKit Go.Proofs.YtpclapnmiacfpaaDoor.Hand Go.Proofs.YtpclapnmiacfpaaDoorW.PrintWords Go.Proofs.YtpclapnmiacfpaaDoorW.PrintLast Go.Proofs.YtpclapnmiacfpaaDoorW.PrintMore
abbrev RP := S77
abbrev RL := S49
def convP (p : SP) : RP := ⟨⟨p.f0.f0, p.f0.f1, p.f0.f2⟩, p.f1⟩
def convL (l : SL) : RL := ⟨l.f0, l.f1, l.f2, l.f3⟩
theorem nat_wrap (j : Nat) (h : j < 4611686018427387904) : wrap64 ((j : Int) + 1) = ((j + 1 : Nat) : Int) := by
  unfold wrap64
  omega
theorem p15_l (ps : List SP) (hl : ps.length < 2932031007402) : ∀ (k j : Nat), j ≤ ps.length → ps.length - j < k → girolaw15_Postings.l0 k ps ((ps.take j).map convP) (j : Int) = some (ps.map convP)
  | 0, j, h1, h2 => by omega
  | k + 1, j, h1, h2 => by
    simp only [girolaw15_Postings.l0]
    by_cases h : j < ps.length
    · rw [if_pos (by omega : (j : Int) < (ps.length : Int)), if_pos (by omega : (0 : Int) ≤ (j : Int))]
      simp only [girolaw15_To.f, Option.bind_some]
      rw [if_pos (by rw [List.length_map, List.length_take]; omega), nat_wrap j (by omega), ← p15_l ps hl k (j + 1) (by omega) (by omega), take_snoc ps j _ h rfl, List.map_append]
      rfl
    · rw [if_neg (by omega)]
      have e : j = ps.length := by omega
      rw [e, List.take_length]
theorem p15_f (ps : List SP) (hl : ps.length < 2932031007402) (k : Nat) (hk : ps.length < k) : girolaw15_Postings.f k ps = some (ps.map convP) := by
  have := p15_l ps hl k 0 (Nat.zero_le _) (by omega)
  simpa [girolaw15_Postings.f] using this
theorem same_l (xs : List RP) (hl : xs.length < 4611686018427387904) : ∀ (k j : Nat), j ≤ xs.length → xs.length - j < k → girolaw39_same.l0 k xs xs (j : Int) = some true
  | 0, j, h1, h2 => by omega
  | k + 1, j, h1, h2 => by
    simp only [girolaw39_same.l0]
    by_cases h : j < xs.length
    · rw [if_pos (by omega : (j : Int) < (xs.length : Int)), if_pos (by omega : (0 : Int) ≤ (j : Int)), if_pos (by omega : (j : Int) < (xs.length : Int)), if_neg (by simp), nat_wrap j (by omega)]
      exact same_l xs hl k (j + 1) (by omega) (by omega)
    · rw [if_neg (by omega)]
theorem same_f (xs : List RP) (hl : xs.length < 4611686018427387904) (k : Nat) (hk : xs.length < k) : girolaw39_same.f k xs xs = some true := by
  unfold girolaw39_same.f
  rw [if_pos rfl]
  exact same_l xs hl k 0 (Nat.zero_le _) (by omega)
section
variable (kd : Int) (dl rc aa : ByteArray) (q am td sd pr : Int) (pa : Bool) (ml : Int) (r0 r1 : ByteArray)
def legsD : List SL := if kd = 1 then [⟨dl, rc, aa, q⟩, ⟨rc, dl, ⟨#[67, 65, 83, 72]⟩, am⟩] else [⟨dl, rc, aa, q⟩]
theorem legs_f : delivery_legs.f kd dl rc aa q am td sd pr pa ml r0 r1 = some (legsD kd dl rc aa q am) := by
  unfold delivery_legs.f legsD
  simp only [Option.bind_some]
  by_cases h : kd = 1
  · rw [if_pos h, if_pos h, if_pos (by simp)]
    rfl
  · rw [if_neg h, if_neg h]
theorem legsR_f : giroref39_Legs.f kd dl rc aa q am td sd pr pa ml r0 r1 = some ((legsD kd dl rc aa q am).map convL) := by
  unfold giroref39_Legs.f legsD
  simp only [Option.bind_some]
  by_cases h : kd = 1
  · rw [if_pos h, if_pos h, if_pos (by simp)]
    rfl
  · rw [if_neg h, if_neg h]
    rfl
theorem legsD_len : (legsD kd dl rc aa q am).length ≤ 2 := by
  unfold legsD
  split <;> simp
variable (h0 : Sz r0) (h1 : Sz r1) (hd : Sz dl) (hr : Sz rc) (ha : Sz aa)
include h0 h1 hd hr ha in
theorem dPost_f (a1 : Int) : delivery_Postings.f kd dl rc aa q am td sd pr pa ml r0 r1 a1 = if tc kd dl rc aa q am td sd pr pa ml r0 r1 = 0 then (if a1 = 0 ∨ a1 = 2 then some (posts a1 (legsD kd dl rc aa q am), 0) else some ([], 11)) else some ([], tc kd dl rc aa q am td sd pr pa ml r0 r1) := by
  unfold delivery_Postings.f
  rw [mcheck_f _ _ _ _ _ _ _ _ _ _ _ _ _ h0 h1 hd hr ha rounds (by decide), Option.bind_some, legs_f, Option.bind_some, if_pos (legsD_len _ _ _ _ _ _)]
end
def kA : ByteArray := ⟨#[66, 65, 78, 75, 65]⟩
def kB : ByteArray := ⟨#[66, 65, 78, 75, 66]⟩
def kI : ByteArray := ⟨#[85, 83, 48, 51, 55, 56, 51, 51, 49, 48, 48, 53]⟩
def kC : ByteArray := ⟨#[67, 65, 83, 72]⟩
def kD : ByteArray := ⟨#[68, 49]⟩
def kR : ByteArray := ⟨#[82, 49]⟩
def kPs : List SP := [⟨⟨kA, 0, kI⟩, -100⟩, ⟨⟨kB, 0, kI⟩, 100⟩, ⟨⟨kB, 0, kC⟩, -2500000⟩, ⟨⟨kA, 0, kC⟩, 2500000⟩]
theorem k_tc : tc 1 kA kB kI 100 2500000 9812 9816 0 false 0 kD kR = 0 := by kernel_rfl
theorem k_posts : posts 0 (legsD 1 kA kB kI 100 2500000) = kPs := by kernel_rfl
theorem k_vs : delivery_Versus.f kPs = some true := by
  unfold delivery_Versus.f delivery_Decompose.f
  kernel_rfl
theorem known_f (k : Nat) (hk : 100 < k) : girolaw39_known.f k = some true := by
  have hp : delivery_Postings.f 1 kA kB kI 100 2500000 9812 9816 0 false 0 kD kR 0 = some (kPs, 0) := by
    rw [dPost_f _ _ _ _ _ _ _ _ _ _ _ _ _ (by unfold Sz; decide) (by unfold Sz; decide) (by unfold Sz; decide) (by unfold Sz; decide) (by unfold Sz; decide), k_tc, if_pos rfl, if_pos (.inl rfl), k_posts]
  have h1 := p15_f kPs (by decide) k (by show 4 < k; omega)
  have h2 := same_f (kPs.map convP) (by decide) k (by show 4 < k; omega)
  have e : girolaw39_known.f k = (delivery_Postings.f 1 kA kB kI 100 2500000 9812 9816 0 false 0 kD kR 0).bind fun bt114 => (if bt114.2 = 0 then ((girolaw15_Postings.f k bt114.1).bind fun t121 => ((girolaw15_Postings.f k kPs).bind fun t124 => ((girolaw39_same.f k t121 t124).bind fun t127 => (if t127 = true then ((delivery_Versus.f bt114.1).bind fun t128 => (some t128)) else (some false))))) else (some false)) := rfl
  rw [e, hp, Option.bind_some]
  simp only [h1, h2, k_vs, Option.bind_some, if_true]
section
variable (kd : Int) (dl rc aa : ByteArray) (q am td sd pr : Int) (pa : Bool) (ml : Int) (r0 r1 : ByteArray)
variable (h0 : Sz r0) (h1 : Sz r1) (hd : Sz dl) (hr : Sz rc) (ha : Sz aa)
theorem posts_le (a1 : Int) : (posts a1 (legsD kd dl rc aa q am)).length ≤ 4 := by
  have := legsD_len kd dl rc aa q am
  rw [posts_len]
  omega
end
end Go.Proofs.YtpclapnmiacfpaaDoor.Q
end
section
set_option linter.unusedVariables false
namespace Go.Proofs.YtpclapnmiacfpaaDoor.Q
open Go.RowKit Go.Proofs.YtpclapnmiacfpaaDoor.Hand Go.Proofs.YtpclapnmiacfpaaDoorW.PrintWords Go.Proofs.YtpclapnmiacfpaaDoorW.PrintLast Go.Proofs.YtpclapnmiacfpaaDoorW.PrintMore
theorem rd_convL (xs : List SL) (j : Nat) (h : j < xs.length) : rd_T49 (xs.map convL) (j : Int) = convL (rd_T71 xs (j : Int)) := by
  simp only [rd_T49, rd_T71, Int.toNat_natCast, List.getD_eq_getElem?_getD, List.getElem?_map, List.getElem?_eq_getElem h, Option.map_some, Option.getD_some]
theorem legsEq_l (xs : List SL) (hl : xs.length < 4611686018427387904) : ∀ (k j : Nat), j ≤ xs.length → xs.length - j < k → girolaw39_legs.l0 k xs (xs.map convL) (j : Int) = some true
  | 0, j, h1, h2 => by omega
  | k + 1, j, h1, h2 => by
    simp only [girolaw39_legs.l0]
    by_cases h : j < xs.length
    · rw [if_pos (by omega : (j : Int) < (xs.length : Int)), if_pos (by omega : (0 : Int) ≤ (j : Int)), if_pos (by rw [List.length_map]; omega), rd_convL xs j h]
      generalize rd_T71 xs (j : Int) = l
      rw [if_pos (show l.f0.toList = (convL l).f0.toList from rfl), if_pos (show l.f1.toList = (convL l).f1.toList from rfl), if_pos (show l.f2.toList = (convL l).f2.toList from rfl), if_pos (show l.f3 = (convL l).f3 from rfl), nat_wrap j (by omega)]
      exact legsEq_l xs hl k (j + 1) (by omega) (by omega)
    · rw [if_neg (by omega)]
theorem legsEq_f (xs : List SL) (hl : xs.length < 4611686018427387904) (k : Nat) (hk : xs.length < k) : girolaw39_legs.f k xs (xs.map convL) = some true := by
  unfold girolaw39_legs.f
  rw [if_pos (by rw [List.length_map])]
  exact legsEq_l xs hl k 0 (Nat.zero_le _) (by omega)
theorem tc_kind {kd : Int} {dl rc aa : ByteArray} {q am td sd pr : Int} {pa : Bool} {ml : Int} {r0 r1 : ByteArray} (h : tc kd dl rc aa q am td sd pr pa ml r0 r1 = 0) : kd = 1 ∨ kd = 2 := by
  unfold tc at h
  by_cases hk : kd = 1 ∨ kd = 2
  · exact hk
  · rw [if_neg hk] at h
    exact absurd h (by decide)
end Go.Proofs.YtpclapnmiacfpaaDoor.Q
end
section
set_option linter.unusedVariables false
namespace Go.Proofs.YtpclapnmiacfpaaDoor.Q
open Go.RowKit Go.Proofs.YtpclapnmiacfpaaDoor.Hand Go.Proofs.YtpclapnmiacfpaaDoorW.PrintWords Go.Proofs.YtpclapnmiacfpaaDoorW.PrintLast Go.Proofs.YtpclapnmiacfpaaDoorW.PrintMore
structure Fair (kd : Int) (dl rc aa : ByteArray) (q am : Int) : Prop where
  kind : kd = 1 ∨ kd = 2
  two : dl.toList ≠ rc.toList
  isin : idv 0 aa = true
  qty : 1 ≤ q ∧ q ≤ 1000000000000000
  cash : kd = 1 → 1 ≤ am ∧ am ≤ 1000000000000000
theorem tc3_zero {b : Bool} {q td sd pr : Int} {pa : Bool} {ml : Int} {r0 r1 : ByteArray} (h : tc3 b q td sd pr pa ml r0 r1 = 0) : b = false := by
  cases b
  · rfl
  · unfold tc3 at h
    rw [if_pos rfl] at h
    exact absurd h (by decide)
theorem tc_fair {kd : Int} {dl rc aa : ByteArray} {q am td sd pr : Int} {pa : Bool} {ml : Int} {r0 r1 : ByteArray} (h : tc kd dl rc aa q am td sd pr pa ml r0 r1 = 0) : Fair kd dl rc aa q am := by
  have hk := tc_kind h
  unfold tc at h
  rw [if_pos hk] at h
  unfold tc1 at h
  split at h
  · exact absurd h (by decide)
  · split at h
    · exact absurd h (by decide)
    · rename_i hne
      split at h
      · rename_i hi
        split at h
        · rename_i hq
          have hb := tc3_zero h
          refine ⟨hk, hne, hi, (inB_iff _ _ _).1 hq, fun e => ?_⟩
          rw [if_pos e] at hb
          exact (inB_iff _ _ _).1 (by simpa using hb)
        · exact absurd h (by decide)
      · exact absurd h (by decide)
theorem idv_cash : idv 0 kC = false := by kernel_rfl
theorem isin_cash {aa : ByteArray} (h : idv 0 aa = true) : aa.data.toList ≠ kC.data.toList := by
  intro e
  have : aa = kC := by
    obtain ⟨⟨l⟩⟩ := aa
    have e' : l = [67, 65, 83, 72] := e
    rw [e']
    rfl
  rw [this, idv_cash] at h
  cases h
theorem wrap_neg (n : Int) (h : 1 ≤ n ∧ n ≤ 1000000000000000) : IntKind.i64.wrap (-n) = -n := by
  rw [i64_w]; unfold wrap64; omega
theorem wrap_neg2 (n : Int) (h : 1 ≤ n ∧ n ≤ 1000000000000000) : wrap64 (-(-n)) = n := by
  unfold wrap64; omega
theorem vs_one (l : SL) : vsL [l] 0 = false := by simp [vsL]
def sortW (l1 l2 : SL) : List SL := if lk l1 ≤ lk l2 then [l1, l2] else [l2, l1]
theorem sort_two (l1 l2 : SL) : sortL [l1, l2] = sortW l1 l2 := by
  simp only [sortL, List.foldr_cons, List.foldr_nil, isL, sortW]
section
variable (kd : Int) (dl rc aa : ByteArray) (q am td sd pr : Int) (pa : Bool) (ml : Int) (r0 r1 : ByteArray)
theorem dec_one (hf : Fair kd dl rc aa q am) (hk : ¬ kd = 1) (ha : Sz aa) : delivery_Decompose.f (posts 0 (legsD kd dl rc aa q am)) = some ([⟨dl, rc, aa, q⟩], 0) := by
  have hq := hf.qty
  have hne := hf.two
  have e : posts 0 (legsD kd dl rc aa q am) = [⟨⟨dl, 0, aa⟩, -q⟩, ⟨⟨rc, 0, aa⟩, q⟩] := by
    unfold legsD
    rw [if_neg hk]
    simp only [posts, mv, List.flatMap_nil, List.append_nil, wrap_neg q hq]
  rw [e]
  unfold delivery_Decompose.f
  have hs : szP [(⟨⟨dl, 0, aa⟩, -q⟩ : SP), ⟨⟨rc, 0, aa⟩, q⟩] = true := by
    have : aa.size ≤ 281474976710656 := ha
    simp [szP, this]
  have n1 : -q < 0 := by omega
  have n2 : ¬ q < 0 := by omega
  have hd : debs [(⟨⟨dl, 0, aa⟩, -q⟩ : SP), ⟨⟨rc, 0, aa⟩, q⟩] = [⟨⟨dl, 0, aa⟩, -q⟩] := by simp only [debs, List.filter_cons, List.filter_nil, decide_eq_true n1, decide_eq_false n2, if_true, Bool.false_eq_true, if_false]
  have hc : creds [(⟨⟨dl, 0, aa⟩, -q⟩ : SP), ⟨⟨rc, 0, aa⟩, q⟩] = [⟨⟨rc, 0, aa⟩, q⟩] := by simp only [creds, List.filter_cons, List.filter_nil, decide_eq_true n1, decide_eq_false n2, if_true, Bool.false_eq_true, if_false, Bool.not_true, Bool.not_false]
  have hm : mate [(⟨⟨rc, 0, aa⟩, q⟩ : SP)] ⟨⟨dl, 0, aa⟩, -q⟩ = some ⟨⟨rc, 0, aa⟩, q⟩ := by simp [mate, pk]
  have hg : goodD [(⟨⟨dl, 0, aa⟩, -q⟩ : SP), ⟨⟨rc, 0, aa⟩, q⟩] = true := by
    unfold goodD
    rw [hd, hc]
    have i1 : inw (-q) = true := by simp [inw]; omega
    have i2 : inw q = true := by simp [inw]; omega
    have z1 : (-q != 0) = true := bne_iff_ne.mpr (by omega)
    have z2 : (q != 0) = true := bne_iff_ne.mpr (by omega)
    have f1 : fitsC (⟨⟨dl, 0, aa⟩, -q⟩ : SP) ⟨⟨rc, 0, aa⟩, q⟩ = true := by
      have : (rc.toList == dl.toList) = false := by simpa using fun e => hne e.symm
      simp only [fitsC, wrap_neg2 q hq, this, beq_self_eq_true, Bool.not_false, Bool.and_self]
    simp [pok, fitsD, hm, f1, i1, i2, z1, z2]
  rw [if_pos hs, if_neg (by simp), if_neg (by simp), if_pos hg, hd, hc]
  simp [legD, hm, sortL, isL]
theorem dec_two (hf : Fair 1 dl rc aa q am) (ha : Sz aa) : delivery_Decompose.f (posts 0 (legsD 1 dl rc aa q am)) = some (sortW ⟨dl, rc, aa, q⟩ ⟨rc, dl, kC, am⟩, 0) := by
  have hq := hf.qty
  have hm := hf.cash rfl
  have hne := hf.two
  have hcash := isin_cash hf.isin
  have e : posts 0 (legsD 1 dl rc aa q am) = [⟨⟨dl, 0, aa⟩, -q⟩, ⟨⟨rc, 0, aa⟩, q⟩, ⟨⟨rc, 0, kC⟩, -am⟩, ⟨⟨dl, 0, kC⟩, am⟩] := by
    unfold legsD
    rw [if_pos rfl]
    simp only [posts, mv, List.flatMap_cons, List.flatMap_nil, List.append_nil, List.cons_append, List.nil_append, wrap_neg q hq, wrap_neg am hm]
    rfl
  rw [e]
  unfold delivery_Decompose.f
  have hs : szP [(⟨⟨dl, 0, aa⟩, -q⟩ : SP), ⟨⟨rc, 0, aa⟩, q⟩, ⟨⟨rc, 0, kC⟩, -am⟩, ⟨⟨dl, 0, kC⟩, am⟩] = true := by
    have h1 : aa.size ≤ 281474976710656 := ha
    have h2 : kC.size ≤ 281474976710656 := by decide
    simp [szP, h1, h2]
  have n1 : -q < 0 := by omega
  have n2 : ¬ q < 0 := by omega
  have n3 : -am < 0 := by omega
  have n4 : ¬ am < 0 := by omega
  have hd : debs [(⟨⟨dl, 0, aa⟩, -q⟩ : SP), ⟨⟨rc, 0, aa⟩, q⟩, ⟨⟨rc, 0, kC⟩, -am⟩, ⟨⟨dl, 0, kC⟩, am⟩] = [⟨⟨dl, 0, aa⟩, -q⟩, ⟨⟨rc, 0, kC⟩, -am⟩] := by
    simp only [debs, List.filter_cons, List.filter_nil, decide_eq_true n1, decide_eq_false n2, decide_eq_true n3, decide_eq_false n4, if_true, Bool.false_eq_true, if_false]
  have hc : creds [(⟨⟨dl, 0, aa⟩, -q⟩ : SP), ⟨⟨rc, 0, aa⟩, q⟩, ⟨⟨rc, 0, kC⟩, -am⟩, ⟨⟨dl, 0, kC⟩, am⟩] = [⟨⟨rc, 0, aa⟩, q⟩, ⟨⟨dl, 0, kC⟩, am⟩] := by
    simp only [creds, List.filter_cons, List.filter_nil, decide_eq_true n1, decide_eq_false n2, decide_eq_true n3, decide_eq_false n4, if_true, Bool.false_eq_true, if_false, Bool.not_true, Bool.not_false]
  have m1 : mate [(⟨⟨rc, 0, aa⟩, q⟩ : SP), ⟨⟨dl, 0, kC⟩, am⟩] ⟨⟨dl, 0, aa⟩, -q⟩ = some ⟨⟨rc, 0, aa⟩, q⟩ := by simp [mate, pk]
  have m2 : mate [(⟨⟨rc, 0, aa⟩, q⟩ : SP), ⟨⟨dl, 0, kC⟩, am⟩] ⟨⟨rc, 0, kC⟩, -am⟩ = some ⟨⟨dl, 0, kC⟩, am⟩ := by
    have : (aa.data.toList == kC.data.toList) = false := by simpa using hcash
    simp only [mate, List.find?_cons, pk, this, beq_self_eq_true]
  have hg : goodD [(⟨⟨dl, 0, aa⟩, -q⟩ : SP), ⟨⟨rc, 0, aa⟩, q⟩, ⟨⟨rc, 0, kC⟩, -am⟩, ⟨⟨dl, 0, kC⟩, am⟩] = true := by
    unfold goodD
    rw [hd, hc]
    have i1 : inw (-q) = true := by simp [inw]; omega
    have i2 : inw q = true := by simp [inw]; omega
    have i3 : inw (-am) = true := by simp [inw]; omega
    have i4 : inw am = true := by simp [inw]; omega
    have z1 : (-q != 0) = true := bne_iff_ne.mpr (by omega)
    have z2 : (q != 0) = true := bne_iff_ne.mpr (by omega)
    have z3 : (-am != 0) = true := bne_iff_ne.mpr (by omega)
    have z4 : (am != 0) = true := bne_iff_ne.mpr (by omega)
    have f1 : fitsC (⟨⟨dl, 0, aa⟩, -q⟩ : SP) ⟨⟨rc, 0, aa⟩, q⟩ = true := by
      have : (rc.toList == dl.toList) = false := by simpa using fun e => hne e.symm
      simp only [fitsC, wrap_neg2 q hq, this, beq_self_eq_true, Bool.not_false, Bool.and_self]
    have f2 : fitsC (⟨⟨rc, 0, kC⟩, -am⟩ : SP) ⟨⟨dl, 0, kC⟩, am⟩ = true := by
      have : (dl.toList == rc.toList) = false := by simpa using hne
      simp only [fitsC, wrap_neg2 am hm, this, beq_self_eq_true, Bool.not_false, Bool.and_self]
    have d1 : [pk (⟨⟨dl, 0, aa⟩, -q⟩ : SP), pk (⟨⟨rc, 0, kC⟩, -am⟩ : SP)].Nodup := by simpa [pk] using hcash
    have d2 : [pk (⟨⟨rc, 0, aa⟩, q⟩ : SP), pk (⟨⟨dl, 0, kC⟩, am⟩ : SP)].Nodup := by simpa [pk] using hcash
    simp only [List.map_cons, List.map_nil, decide_eq_true d1, decide_eq_true d2, List.all_cons, List.all_nil, pok, fitsD, m1, m2, f1, f2, i1, i2, i3, i4, z1, z2, z3, z4, Bool.and_true, List.length_cons, List.length_nil, beq_self_eq_true]
  rw [if_pos hs, if_neg (by simp), if_neg (by simp), if_pos hg, hd, hc]
  simp only [List.map_cons, List.map_nil, legD, m1, m2, sort_two]
variable (h0 : Sz r0) (h1 : Sz r1) (hd : Sz dl) (hr : Sz rc) (ha : Sz aa)
theorem ref_swap (xs : List RL) (a b : RL) (h : xs = [a, b]) : (xs.set (0 : Int).toNat (⟨(rd_T49 xs 1).f0, (rd_T49 xs 1).f1, (rd_T49 xs 1).f2, (rd_T49 xs 1).f3⟩ : RL)).set (1 : Int).toNat (⟨(rd_T49 xs 0).f0, (rd_T49 xs 0).f1, (rd_T49 xs 0).f2, (rd_T49 xs 0).f3⟩ : RL) = [b, a] := by
  subst h
  rfl
include h0 h1 hd hr ha in
theorem law_vp (k : Nat) (hk : 5000 < k) : girolaw39_DeliveryVersusPayment.f k kd dl rc aa q am td sd pr pa ml r0 r1 = some true := by
  obtain ⟨k, rfl⟩ : ∃ m, k = m + 2 := ⟨k - 2, by omega⟩
  have hP := dPost_f kd dl rc aa q am td sd pr pa ml r0 r1 h0 h1 hd hr ha 0
  have hF := fun h => tc_fair (kd := kd) (dl := dl) (rc := rc) (aa := aa) (q := q) (am := am) (td := td) (sd := sd) (pr := pr) (pa := pa) (ml := ml) (r0 := r0) (r1 := r1) h
  unfold girolaw39_DeliveryVersusPayment.f
  rw [known_f _ (by omega), Option.bind_some, if_pos rfl, rcheck23_f _ _ _ _ _ _ _ _ _ _ _ _ _ h0 h1 hd hr ha _ (by omega), Option.bind_some]
  generalize tc kd dl rc aa q am td sd pr pa ml r0 r1 = c at hP hF ⊢
  by_cases hc : c = 0
  · subst hc
    have hf := hF rfl
    have hR := legsR_f kd dl rc aa q am td sd pr pa ml r0 r1
    rw [if_pos rfl, if_pos (.inl rfl)] at hP
    have hno : ((0 : Int) != 0) = false := rfl
    rw [hno]
    simp only [girolaw39_DeliveryVersusPayment.j0, girolaw23_Of.f, Option.bind_some, Bool.false_eq_true, if_false, hP, hR]
    by_cases hk1 : kd = 1
    · subst hk1
      have hd2 := dec_two dl rc aa q am hf ha
      have hV : delivery_Versus.f (posts 0 (legsD 1 dl rc aa q am)) = some true := by
        unfold delivery_Versus.f
        rw [hd2, Option.bind_some]
        have hca := isin_cash hf.isin
        have x1 : (aa.toList == [67, 65, 83, 72]) = false := by
          rw [ByteArray.toList_eq]
          exact beq_eq_false_iff_ne.mpr (fun e => hca e)
        have x2 : (kC.toList == [67, 65, 83, 72]) = true := by kernel_rfl
        unfold sortW
        split
        · simp [vsL, vsAB, rd_T71, x1, x2]
        · simp [vsL, vsAB, rd_T71, x1, x2]
      have hl2 : ((legsD 1 dl rc aa q am).map convL) = [convL ⟨dl, rc, aa, q⟩, convL ⟨rc, dl, kC, am⟩] := by
        unfold legsD
        rw [if_pos rfl]
        rfl
      have e0 : rd_T49 [convL ⟨dl, rc, aa, q⟩, convL ⟨rc, dl, kC, am⟩] 0 = convL ⟨dl, rc, aa, q⟩ := rfl
      have e1 : rd_T49 [convL ⟨dl, rc, aa, q⟩, convL ⟨rc, dl, kC, am⟩] 1 = convL ⟨rc, dl, kC, am⟩ := rfl
      have hsw : Op.bytesLess (convL ⟨rc, dl, kC, am⟩).f2.toList (convL ⟨dl, rc, aa, q⟩).f2.toList = decide (kC.data.toList < aa.data.toList) := by
        rw [Go.Proofs.bytesLess_eq, Lib.toList_data, Lib.toList_data]
        rfl
      have hs1 := legsEq_f [⟨dl, rc, aa, q⟩, ⟨rc, dl, kC, am⟩] (by simp) k (by show 2 < k; omega)
      have hs2 := legsEq_f [⟨rc, dl, kC, am⟩, ⟨dl, rc, aa, q⟩] (by simp) k (by show 2 < k; omega)
      have c2 : (([convL ⟨dl, rc, aa, q⟩, convL ⟨rc, dl, kC, am⟩].length : Nat) : Int) = 2 := rfl
      have c1 : 1 < (([convL ⟨dl, rc, aa, q⟩, convL ⟨rc, dl, kC, am⟩].length : Nat) : Int) := by rw [c2]; decide
      have c0 : 0 < (([convL ⟨dl, rc, aa, q⟩, convL ⟨rc, dl, kC, am⟩].length : Nat) : Int) := by rw [c2]; decide
      rw [hl2, hd2, Option.bind_some]
      simp only []
      rw [if_pos c2, if_pos c1, if_pos c0, e0, e1, hsw]
      by_cases hlt : kC.data.toList < aa.data.toList
      · have hw : sortW ⟨dl, rc, aa, q⟩ ⟨rc, dl, kC, am⟩ = [⟨rc, dl, kC, am⟩, ⟨dl, rc, aa, q⟩] := by
          unfold sortW
          rw [if_neg (show ¬ lk ⟨dl, rc, aa, q⟩ ≤ lk ⟨rc, dl, kC, am⟩ from fun h => absurd hlt (List.not_lt.2 h))]
        rw [decide_eq_true hlt]
        simp only [girolaw39_DeliveryVersusPayment.j1, if_true]
        rw [if_pos c1, if_pos c0, ref_swap _ _ _ rfl, hw]
        have hs2' : girolaw39_legs.f k [⟨rc, dl, kC, am⟩, ⟨dl, rc, aa, q⟩] [convL ⟨rc, dl, kC, am⟩, convL ⟨dl, rc, aa, q⟩] = some true := hs2
        rw [hs2', Option.bind_some, if_pos rfl, hV]
        rfl
      · have hw : sortW ⟨dl, rc, aa, q⟩ ⟨rc, dl, kC, am⟩ = [⟨dl, rc, aa, q⟩, ⟨rc, dl, kC, am⟩] := by
          unfold sortW
          rw [if_pos (show lk ⟨dl, rc, aa, q⟩ ≤ lk ⟨rc, dl, kC, am⟩ from List.not_lt.1 hlt)]
        rw [decide_eq_false hlt]
        simp only [girolaw39_DeliveryVersusPayment.j1, Bool.false_eq_true, if_false, if_true]
        have hs1' : girolaw39_legs.f k [⟨dl, rc, aa, q⟩, ⟨rc, dl, kC, am⟩] [convL ⟨dl, rc, aa, q⟩, convL ⟨rc, dl, kC, am⟩] = some true := hs1
        rw [hw, hs1', Option.bind_some, if_pos rfl, hV]
        rfl
    · have hd1 := dec_one kd dl rc aa q am hf hk1 ha
      have hl1 : ((legsD kd dl rc aa q am).map convL) = [convL ⟨dl, rc, aa, q⟩] := by
        unfold legsD
        rw [if_neg hk1]
        rfl
      have hV : delivery_Versus.f (posts 0 (legsD kd dl rc aa q am)) = some false := by
        unfold delivery_Versus.f
        rw [hd1, Option.bind_some, vs_one]
      have hs1 := legsEq_f [⟨dl, rc, aa, q⟩] (by simp) k (by show 1 < k; omega)
      have hs1' : girolaw39_legs.f k [⟨dl, rc, aa, q⟩] [convL ⟨dl, rc, aa, q⟩] = some true := hs1
      have hkb : (kd == 1) = false := beq_eq_false_iff_ne.mpr hk1
      have c2 : ¬ (([convL ⟨dl, rc, aa, q⟩].length : Nat) : Int) = 2 := by rw [List.length_singleton]; decide
      rw [hl1, hd1, Option.bind_some]
      simp only []
      rw [if_neg c2]
      simp only [girolaw39_DeliveryVersusPayment.j1, Bool.false_eq_true, if_false, if_true]
      rw [hs1', Option.bind_some, if_pos rfl, hV, hkb]
      rfl
  · have hcb : (c != 0) = true := bne_iff_ne.mpr hc
    rw [hcb]
    simp only [girolaw39_DeliveryVersusPayment.j0, if_true]
    rw [known_f _ (by omega)]
    rfl
end
end Go.Proofs.YtpclapnmiacfpaaDoor.Q
end
section
namespace Go.Proofs.YtpclapnmiacfpaaDoor
open Go.ChangeShapes Go.WideShapes Go.ChangeAt Go.RowKit
set_option linter.unusedVariables false
set_option maxRecDepth 100000 in
theorem vp_lifted (os : Os) (started : os.Started) (H : Type) (enc : TypeId × Value → H) :
    ReturnsInHanded {} Tryd.checked os 5 .any (fun w args => (Rows.deliveryVersusPaymentSpec.pre enc Tryd.prog Tryd.f5 [] false w args ∧ laidMetH Tryd.prog Rows.deliveryVersusPaymentRow.laid w) ∧ sizedMet enc Tryd.prog Tryd.f5 (OpenSpec.ofChange Rows.deliveryVersusPaymentSpec) false w args)
      (Rows.deliveryVersusPaymentSpec.post enc Tryd.prog Tryd.f5 false true false false) := by
  refine returnsInHanded_of_change_and (C := Tryd.checked) (X := fun w _ => laidMetH Tryd.prog Rows.deliveryVersusPaymentRow.laid w) (fun _ _ _ hh h => h.of_heap hh) own started (by kernel_rfl) Tryd.func5
    (ChangeSpec.witness_shaped (enc := enc) (C := Tryd.checked) (os := os) (X := fun w _ => laidMetH Tryd.prog Rows.deliveryVersusPaymentRow.laid w) false (World.doorLaid Tryd.prog 400 os) #[.agg #[.int .i64 0, .string ByteArray.empty, .string ByteArray.empty, .string ByteArray.empty, .int .i64 0, .int .i64 0, .int .i64 0, .int .i64 0, .int .i64 0, .bool false, .int .i64 0, .string ByteArray.empty, .string ByteArray.empty]] 8 rfl (World.shaped_of_RefB (by kernel_rfl) (by kernel_rfl)) (by kernel_rfl) (by kernel_rfl) (by kernel_rfl) (door_met os _)) ?_
  intro W base args ds gs before hval0 hW hcnd0 hsz0 hL hh
  have hsz : (DataW.weightsEach Tryd.prog (Tryd.f5.params.toList ++ Rows.deliveryVersusPaymentSpec.plain.varTypes Tryd.prog) (ds ++ gs)).all (· ≤ reachBytes) = true := hsz0
  have hval : ∀ (j : Nat) t v, Tryd.f5.params[j]? = some t → args[j]? = some v → Value.okWide Tryd.prog W .any base t v := hval0
  have hW' := hW
  obtain ⟨p, q, hA0, hV, rfl, hfz, hnd⟩ := hW
  have hA : DataW.TrodAll enc Tryd.prog W 0 (fun _ => true) true Tryd.f5.params.toList args.toList ds p := hA0
  rw [Tryd.params5] at hA hval hsz
  obtain ⟨v0, d0, rfl, rfl, h0⟩ := trodAll_one hA
  obtain ⟨rfl, rfl⟩ := trodVars_none hV
  have k0 := h0
  have lt0 : ∀ x ∈ p, x.block < W.heap.size := by obtain ⟨m, hm⟩ := k0; exact DataW.trod_lt m _ _ _ hm
  obtain ⟨a0, b0, b1, b2, b3, b4, b5, b6, b7, b8, b9, b10, b11, rfl, hs⟩ := trade_open (hval 0 _ v0 rfl rfl) h0
  have hsize : ∀ s, s = b0 ∨ s = b1 ∨ s = b2 ∨ s = b10 ∨ s = b11 → Q.Sz s := fun s h => by
    have h2 := List.all_eq_true.1 hsz s.size (DataW.weights_mem_each (j := 0) rfl rfl _ (hs s h))
    have h3 : s.size ≤ reachBytes := by simpa using h2
    have := reachBytes_lt
    unfold Q.Sz
    omega
  clear hA0 hval0 hsz0 hsz
  have hlaw := Q.law_vp a0 b0 b1 b2 b3 b4 b5 b6 b7 b8 b9 b10 b11 (hsize _ (by simp)) (hsize _ (by simp)) (hsize _ (by simp)) (hsize _ (by simp)) (hsize _ (by simp)) 5001 (by decide)
  refine (Q.girolaw39_DeliveryVersusPayment.calls 5001 a0 b0 b1 b2 b3 b4 b5 b6 b7 b8 b9 b10 b11 true W hlaw).mono fun e W' ⟨he, bel⟩ => ?_
  subst he
  exact ⟨_, rfl, _, _, _, [], _, [], hW', trodAll_mk1 (shut_bool Tryd.underlying4 _), (trodAll_mk1 (Below.trod laidOut (by kernel_rfl) (of_decide_eq_true (by kernel_rfl)) k0 bel lt0)), rfl, bel.frame _, fun h => by cases h⟩
theorem vp_holds : Rows.DeliveryVersusPaymentSaid :=
  OpenClaim.holds_of_wide 5 Tryd.f5 rfl rfl rfl rfl rfl rfl rfl ⟨rfl, rfl, rfl, rfl, rfl⟩ rfl rfl rfl rfl rfl (by kernel_rfl) Tryd.func5 (by kernel_rfl)
    (of_decide_eq_true (by kernel_rfl)) (by unfold Func.isWrapper; first | (rw [if_pos (by decide +kernel)]; kernel_rfl) | (rw [if_neg (by decide +kernel)]; exact ⟨rfl, rfl⟩))
    (fun os started H enc _ => vp_lifted os started H enc)
theorem vp_card : Rows.DeliveryVersusPaymentCardSaid :=
  Claim7.holds_tied_plain_at .later [] [.data, .data, .data] true (true, "506942008ba414b330f5c06cf87070577cb0f70e75d9183dd8bfb508c2bbb3da") false
    vp_holds (fun _ h => by cases h) (by kernel_rfl) (fun _ h => by cases h) deliveryVersusPayment_row_tie rfl ⟨rfl, rfl⟩ (by kernel_rfl) rfl
    (fun f fn hf hfn => by
      obtain rfl : f = 5 := Option.some.inj ((show Tryd.prog.funcNamed "giro/girolaw39.DeliveryVersusPayment" = some 5 by kernel_rfl).symm.trans hf) |>.symm
      obtain rfl : fn = Tryd.f5 := (Option.some.inj (Tryd.func5.symm.trans hfn)).symm
      exact ⟨by kernel_rfl, fun j t ht => by
        rw [Tryd.params5] at ht
        have hm : t ∈ [24] := by simpa using Array.mem_of_getElem? ht
        have hall : ([24].all fun u => !Tryd.prog.wantsStandIn u) = true := by kernel_rfl
        exact (show Tryd.prog.wantsStandIn t = false by simpa using List.all_eq_true.1 hall t hm)⟩)
    (by kernel_rfl)
end Go.Proofs.YtpclapnmiacfpaaDoor
end
