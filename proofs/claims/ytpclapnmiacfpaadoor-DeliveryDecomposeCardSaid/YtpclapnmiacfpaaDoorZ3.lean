/- Lemmas for the card of DeliveryDecompose: contracts of the functions that the law reaches. Conditions: each lemma's own. Laid together out of this session's texts. -/
import Derived.Test.YtpclapnmiacfpaaDoorZ2
import Derived.Maps.RangeWalk
import Derived.Maps.OwnOps
import Derived.Deep.LoopGhost
import Derived.Deep.Slices
set_option linter.unusedVariables false
set_option linter.unusedSimpArgs false
section
set_option linter.unusedVariables false
namespace Go.Proofs.YtpclapnmiacfpaaDoor.Q
open Go.RowKit Go.Maps Go.Proofs.YtpclapnmiacfpaaDoor.Hand Go.Proofs.YtpclapnmiacfpaaDoorW.PrintWords Go.Proofs.YtpclapnmiacfpaaDoorW.PrintLast Go.Proofs.YtpclapnmiacfpaaDoorW.PrintMore
abbrev SP := S68
abbrev SL := S71
def pk (p : SP) : List UInt8 := p.f0.f2.data.toList
abbrev encP (p : SP) : Value := .agg #[.string p.f0.f0, .int .i64 p.f0.f1, .string p.f0.f2, .int .i64 p.f1]
def lk (l : SL) : List UInt8 := l.f2.data.toList
abbrev encL (l : SL) : Value := .agg #[.string l.f0, .string l.f1, .string l.f2, .int .i64 l.f3]
def inw (n : Int) : Bool := decide (-1000000000000000 ≤ n) && decide (n ≤ 1000000000000000)
def pok (p : SP) : Bool := inw p.f1 && p.f1 != 0 && p.f0.f1 == 0
def debs (ps : List SP) : List SP := ps.filter (fun p => decide (p.f1 < 0))
def creds (ps : List SP) : List SP := ps.filter (fun p => !decide (p.f1 < 0))
def mate (cs : List SP) (d : SP) : Option SP := cs.find? (fun c => pk c == pk d)
def fitsC (d c : SP) : Bool := c.f1 == wrap64 (-d.f1) && !(c.f0.f0.toList == d.f0.f0.toList)
def fitsD (cs : List SP) (d : SP) : Bool := match mate cs d with
  | none => false
  | some c => fitsC d c
def legD (cs : List SP) (d : SP) : SL := match mate cs d with
  | none => z71
  | some c => ⟨d.f0.f0, c.f0.f0, d.f0.f2, c.f1⟩
def isL (l : SL) : List SL → List SL
  | [] => [l]
  | x :: t => if lk l ≤ lk x then l :: x :: t else x :: isL l t
def sortL (ls : List SL) : List SL := ls.foldr isL []
def goodD (ps : List SP) : Bool := ps.all pok && decide ((debs ps).map pk).Nodup && decide ((creds ps).map pk).Nodup && (debs ps).all (fitsD (creds ps)) && (creds ps).length == (debs ps).length
def szP (ps : List SP) : Bool := ps.all (fun p => decide (p.f0.f2.size ≤ 281474976710656))
@[irreducible] def delivery_Decompose.f (l0 : List SP) : Option (List SL × Int) :=
  if szP l0 = true then
    (if l0.length = 0 then some ([], 1) else if 4096 < l0.length then some ([], 8) else if goodD l0 = true then some (sortL ((debs l0).map (legD (creds l0))), 0) else some ([], 3))
  else none
theorem rd_eq (l0 : List SP) (i : Nat) (h : i < l0.length) : rd_T68 l0 (i : Int) = l0[i] := by
  simp only [rd_T68, Int.toNat_natCast, List.getD_eq_getElem?_getD, List.getElem?_eq_getElem h, Option.getD_some]
theorem take_snoc (l0 : List SP) (i : Nat) (p : SP) (h : i < l0.length) (hp : p = rd_T68 l0 (i : Int)) : l0.take (i + 1) = l0.take i ++ [p] := by
  rw [List.take_add_one, List.getElem?_eq_getElem h, hp, rd_eq l0 i h]
  rfl
theorem good_pok (l0 : List SP) (i : Nat) (p : SP) (h : i < l0.length) (hp : p = rd_T68 l0 (i : Int)) (hb : pok p = false) : goodD l0 = false := by
  have hm : p ∈ l0 := by rw [hp, rd_eq l0 i h]; exact List.getElem_mem h
  have : l0.all pok = false := by
    rw [List.all_eq_false]
    exact ⟨p, hm, by rw [hb]; exact Bool.false_ne_true⟩
  simp [goodD, this]
theorem bad_end {l0 : List SP} {r1 : List SL} {r2 : Int} {x : List SL} (h : (if goodD l0 = true then some (x, (0 : Int)) else some ([], 3)) = some (r1, r2)) (hg : goodD l0 = false) : r1 = [] ∧ r2 = 3 := by
  rw [hg, if_neg Bool.false_ne_true] at h
  obtain ⟨rfl, rfl⟩ := Prod.mk.inj (Option.some.inj h)
  exact ⟨rfl, rfl⟩
theorem within_c (n : Int) (w : World) : Calls Tryd.prog 32 #[.int .i64 n] w fun e w' => e = .returned (.bool (inw n)) ∧ w = w' := by
  by_cases h0 : -1000000000000000 ≤ n
  · have b0 : decide (-1000000000000000 ≤ n) = true := decide_eq_true h0
    go_enter Tryd.func32, Tryd.ntmps32
    go_wp2
    go_ret
    exact ⟨by simp [inw, b0], rfl⟩
  · have b0 : decide (-1000000000000000 ≤ n) = false := decide_eq_false h0
    go_enter Tryd.func32, Tryd.ntmps32
    go_wp2
    go_ret
    exact ⟨by simp [inw, b0], rfl⟩
section
variable {P : Program} {ops : Array Oper} {rest : List Oper} {o : Oper} {a : Act} {Q : Exit → Act → World → Prop}
theorem map_event {W : World} (hgd : o.guard = none) {N : Tmp} (_hd : o.dst = some N)
    (hrun : (execOp a.eval o).run P W = .ok (.value (.map (some W.heap.size))) (W.alloc (.map #[] 0)))
    (h : ∀ g, g = W.heap.size → ∀ w1, (∀ k, w1.ownsMap P k RV g 0 (.map [])) → Below W.heap.size W w1 → wpList P ops Q rest (a.put o.dst (.map (some g))) w1) : wpList P ops Q (o :: rest) a W :=
  Kd.event_run hgd hrun (h _ rfl _ (fun k => World.ownsMap_made W P k RV) (below_alloc (Below.refl _ _) _))
end
section
variable {P : Program} {ops : Array Oper} {rest : List Oper} {o : Oper} {a : Act} {Q : Exit → Act → World → Prop}
theorem lookup_lit {w : World} (hg : o.guard = none) (m x : Operand) (t : TypeId) (hop : o.op = Op.lookup t m x true)
    (k e : TypeId) (K : Keyed P k) (ht : P.underlying t = some (.map k e)) {z : Value} (hz : (zeroValue e).run P w = .ok z w) (b n : Nat) (D : DataW Value)
    (hm : a.eval m = .map (some b)) (hown : w.ownsMap P k RV b n D) (key : Value) (kl : Lit) (hx : a.eval x = key) (hkey : keyOf P k key = some kl) (v : Value) (c : Bool) (hat : D.atKey kl (.held z) = .held v) (hh : has D kl = c)
    (hK : wpList P ops Q rest (a.put o.dst (.tuple #[v, .bool c])) w) : wpList P ops Q (o :: rest) a w :=
  wpList_lookup_own_ok w hg m x t hop k e K ht RV hz (.held z) [] rfl b n D hm hown key kl hx hkey (fun v' ps hv => by
    rw [hat] at hv
    obtain rfl := RV_inv hv
    rw [hh]
    exact hK)
theorem lookup_lit1 {w : World} (hg : o.guard = none) (m x : Operand) (t : TypeId) (hop : o.op = Op.lookup t m x false)
    (k e : TypeId) (K : Keyed P k) (ht : P.underlying t = some (.map k e)) {z : Value} (hz : (zeroValue e).run P w = .ok z w) (b n : Nat) (D : DataW Value)
    (hm : a.eval m = .map (some b)) (hown : w.ownsMap P k RV b n D) (key : Value) (kl : Lit) (hx : a.eval x = key) (hkey : keyOf P k key = some kl) (v : Value) (hat : D.atKey kl (.held z) = .held v)
    (hK : wpList P ops Q rest (a.put o.dst v) w) : wpList P ops Q (o :: rest) a w := by
  refine wpList_plain hg fun K' hK' => ?_
  obtain ⟨v', ps, hrun, hv⟩ := hown.lookup K ht hz (zd := .held z) (zp := []) rfl hkey
  rw [hat] at hv
  obtain rfl := RV_inv hv
  unfold Oper.wp
  simp [execOp, hop, hm, hx, hrun, Result.andThen]
  exact hK' _ _ hK
end
theorem has_yes {α : Type} (k : α → List UInt8) (enc : α → Value) (xs : List α) (s : List UInt8) (h : ∃ q ∈ xs, k q = s) : has (mapOf k enc xs) (.string s) = true := (has_mapOf k enc s xs).2 h
theorem has_no {α : Type} (k : α → List UInt8) (enc : α → Value) (xs : List α) (s : List UInt8) (h : ¬ ∃ q ∈ xs, k q = s) : has (mapOf k enc xs) (.string s) = false := by
  cases e : has (mapOf k enc xs) (.string s)
  · rfl
  · exact absurd ((has_mapOf k enc s xs).1 e) h
theorem debs_snoc (xs : List SP) (p : SP) (h : p.f1 < 0) : debs (xs ++ [p]) = debs xs ++ [p] := by simp [debs, h]
theorem debs_snoc' (xs : List SP) (p : SP) (h : ¬ p.f1 < 0) : debs (xs ++ [p]) = debs xs := by simp [debs]; omega
theorem creds_snoc (xs : List SP) (p : SP) (h : ¬ p.f1 < 0) : creds (xs ++ [p]) = creds xs ++ [p] := by simp [creds]; omega
theorem creds_snoc' (xs : List SP) (p : SP) (h : p.f1 < 0) : creds (xs ++ [p]) = creds xs := by simp [creds]; omega
theorem nodup_snoc {α β : Type} (k : α → β) (xs : List α) (p : α) (hn : (xs.map k).Nodup) (h : ¬ ∃ q ∈ xs, k q = k p) : ((xs ++ [p]).map k).Nodup := by
  rw [List.map_append, List.nodup_append]
  refine ⟨hn, by simp, ?_⟩
  intro a ha b hb e
  obtain ⟨q, hq, rfl⟩ := List.mem_map.1 ha
  simp at hb
  exact h ⟨q, hq, e.trans hb⟩
theorem dup_bad {α β : Type} (k : α → β) (f : List α → List α) (hf : ∀ xs ys, f (xs ++ ys) = f xs ++ f ys) (l0 : List α) (i : Nat) (p : α) (hp : l0.take (i + 1) = l0.take i ++ [p]) (hfp : f [p] = [p]) (h : ∃ q ∈ f (l0.take i), k q = k p) : ¬ ((f l0).map k).Nodup := by
  intro hn
  have e : f l0 = f (l0.take i) ++ [p] ++ f (l0.drop (i + 1)) := by
    rw [← hfp, ← hf, ← hp, ← hf, List.take_append_drop]
  rw [e, List.map_append, List.nodup_append] at hn
  have hn := hn.1
  rw [List.map_append, List.nodup_append] at hn
  obtain ⟨q, hq, e⟩ := h
  exact hn.2.2 (k q) (List.mem_map_of_mem hq) (k p) (by simp) e
theorem bad_debs (l0 : List SP) (i : Nat) (p : SP) (h : i < l0.length) (hp : p = rd_T68 l0 (i : Int)) (hs : p.f1 < 0) (hq : ∃ q ∈ debs (l0.take i), pk q = pk p) : goodD l0 = false := by
  have := dup_bad pk debs (fun _ _ => by simp [debs]) l0 i p (take_snoc l0 i p h hp) (by simp [debs, hs]) hq
  simp [goodD, this]
theorem bad_creds (l0 : List SP) (i : Nat) (p : SP) (h : i < l0.length) (hp : p = rd_T68 l0 (i : Int)) (hs : ¬ p.f1 < 0) (hq : ∃ q ∈ creds (l0.take i), pk q = pk p) : goodD l0 = false := by
  have := dup_bad pk creds (fun _ _ => by simp [creds]) l0 i p (take_snoc l0 i p h hp) (by simp [creds]; omega) hq
  simp [goodD, this]
theorem szP_key (l0 : List SP) (p : SP) (hs : szP l0 = true) (hm : p ∈ l0) : keyOf Tryd.prog 9 (.string p.f0.f2) = some (.string (pk p)) := by
  have := of_decide_eq_true (List.all_eq_true.1 hs p hm)
  exact WideMaps.keyOf_string_mk Tryd.underlying9 (by unfold maxLen; omega)
def zeroP : Value := .agg #[.string ⟨#[]⟩, .int .i64 0, .string ⟨#[]⟩, .int .i64 0]
theorem zero_P (w : World) : (zeroValue 68).run Tryd.prog w = .ok (.agg #[.string ⟨#[]⟩, .int .i64 0, .string ⟨#[]⟩, .int .i64 0]) w := by kernel_rfl
theorem zero_L (w : World) : (zeroValue 71).run Tryd.prog w = .ok (.agg #[.string ⟨#[]⟩, .string ⟨#[]⟩, .string ⟨#[]⟩, .int .i64 0]) w := by kernel_rfl
theorem ownsMap_below {P : Program} {k b n : Nat} {D : DataW Value} {w w1 : World} (h : w.ownsMap P k RV b n D) (hb : Below w.heap.size w w1) : w1.ownsMap P k RV b n D := by
  have hl := h.lt
  obtain ⟨es, clock, h1, h2⟩ := h
  exact ⟨es, clock, (hb.block b hl).trans h1, h2⟩
theorem nodup_inj {α β : Type} (k : α → β) : ∀ (xs : List α), (xs.map k).Nodup → ∀ x y, x ∈ xs → y ∈ xs → k x = k y → x = y
  | [], _, x, y, hx, _, _ => by simp at hx
  | z :: xs, hn, x, y, hx, hy, e => by
    rw [List.map_cons, List.nodup_cons] at hn
    rcases List.mem_cons.1 hx with h1 | h1
    · rcases List.mem_cons.1 hy with h2 | h2
      · rw [h1, h2]
      · exact absurd (show k z ∈ xs.map k by rw [← h1, e]; exact List.mem_map_of_mem h2) hn.1
    · rcases List.mem_cons.1 hy with h2 | h2
      · exact absurd (show k z ∈ xs.map k by rw [← h2, ← e]; exact List.mem_map_of_mem h1) hn.1
      · exact nodup_inj k xs hn.2 x y h1 h2 e
theorem bad_fit (l0 : List SP) (d : SP) (hd : d ∈ debs l0) (hf : fitsD (creds l0) d = false) : goodD l0 = false := by
  have : (debs l0).all (fitsD (creds l0)) = false := by
    rw [List.all_eq_false]
    exact ⟨d, hd, by rw [hf]; exact Bool.false_ne_true⟩
  simp [goodD, this]
structure Inv (ds cs : List SP) (left : Lit → Bool) (fl : List SL) : Prop where
  nd : (fl.map lk).Nodup
  mem : ∀ l ∈ fl, ∃ d ∈ ds, l = legD cs d ∧ pk d = lk l ∧ left (.string (pk d)) = false
  all : ∀ d ∈ ds, left (.string (pk d)) = false → legD cs d ∈ fl ∧ fitsD cs d = true ∧ lk (legD cs d) = pk d
  sub : ∀ s, left (.string s) = true → ∃ d ∈ ds, pk d = s
theorem Inv.start (ds cs : List SP) : Inv ds cs (has (mapOf pk encP ds)) [] where
  nd := List.nodup_nil
  mem := fun l hl => by simp at hl
  all := fun d hd h => by rw [has_yes pk encP ds _ ⟨d, hd, rfl⟩] at h; exact absurd h (by simp)
  sub := fun s h => (has_mapOf pk encP s ds).1 h
theorem Inv.step {ds cs : List SP} {left : Lit → Bool} {fl : List SL} (h : Inv ds cs left fl) (hn : (ds.map pk).Nodup) (d c : SP) (hd : d ∈ ds) (hl : left (.string (pk d)) = true) (hm : mate cs d = some c) (hf : fitsC d c = true) :
    Inv ds cs (fun z => left z && !z.sameKey (.string (pk d))) (fl ++ [⟨d.f0.f0, c.f0.f0, d.f0.f2, c.f1⟩]) := by
  have hleg : legD cs d = ⟨d.f0.f0, c.f0.f0, d.f0.f2, c.f1⟩ := by simp [legD, hm]
  have hst : ∀ d', (left (.string (pk d')) && !(Lit.string (pk d')).sameKey (.string (pk d))) = false ↔ left (.string (pk d')) = false ∨ pk d' = pk d := by
    intro d'
    simp only [Bool.and_eq_false_iff, Bool.not_eq_false', Lit.sameKey, beq_iff_eq]
  refine ⟨?_, ?_, ?_, ?_⟩
  · refine nodup_snoc lk fl _ h.nd ?_
    rintro ⟨l, hlm, e⟩
    obtain ⟨d', hd', _, e2, e3⟩ := h.mem l hlm
    rw [e2, e] at e3
    have : left (.string (pk d)) = false := e3
    rw [hl] at this
    exact absurd this (by simp)
  · intro l hlm
    rcases List.mem_append.1 hlm with hlm | hlm
    · obtain ⟨d', hd', e1, e2, e3⟩ := h.mem l hlm
      exact ⟨d', hd', e1, e2, (hst d').2 (.inl e3)⟩
    · simp at hlm
      exact ⟨d, hd, by rw [hlm, hleg], by rw [hlm]; rfl, (hst d).2 (.inr rfl)⟩
  · intro d' hd' hl'
    rcases (hst d').1 hl' with h1 | h1
    · obtain ⟨a1, a2, a3⟩ := h.all d' hd' h1
      exact ⟨List.mem_append_left _ a1, a2, a3⟩
    · have e : d' = d := nodup_inj pk ds hn d' d hd' hd h1
      subst e
      exact ⟨by rw [hleg]; simp, by simp [fitsD, hm, hf], by rw [hleg]; rfl⟩
  · intro s hs
    simp only [Bool.and_eq_true] at hs
    exact h.sub s hs.1
theorem next_ev {P : Program} {ops : Array Oper} {rest : List Oper} {o : Oper} {a : Act} {Q : Exit → Act → World → Prop} {w : World} (hg : o.guard = none) (it : Operand) (hop : o.op = Op.next it false) (k : TypeId) (K : Keyed P k) (hk : P.underlying k = some .string) (b r n : Nat) (ds : List SP) (left : Lit → Bool) (cnt : Nat)
    (hit : a.eval it = .pointer (some ⟨r, 0, none⟩)) (h : w.ranges P k RV b r n (mapOf pk encP ds) left cnt) (hn : (ds.map pk).Nodup) (hsub : ∀ s, left (.string s) = true → ∃ d ∈ ds, pk d = s)
    (hDone : cnt = 0 → (∀ kl, left kl = false) → wpList P ops Q rest (a.put o.dst (.tuple #[.bool false])) w)
    (hMore : ∀ (d : SP) (w' : World) (cnt' : Nat), d ∈ ds → left (.string (pk d)) = true → w'.ranges P k RV b r n (mapOf pk encP ds) (fun z => left z && !z.sameKey (.string (pk d))) cnt' → cnt' < cnt →
      w.grownBy w' (some r) → w'.heap.size = w.heap.size → (Instr.entry (.pointer (some ⟨r, 0, none⟩))).run P w' = .ok (.tuple #[.string d.f0.f2, encP d]) w' → wpList P ops Q rest (a.put o.dst (.tuple #[.bool true, .string d.f0.f2, encP d])) w') :
    wpList P ops Q (o :: rest) a w := by
  refine wpList_next_ranges w hg it hop k K RV (fun x : ByteArray => Value.string x) (fun v : Value => v) (fun key kl hkey => ?_) (fun v y _ => ⟨v, rfl⟩) b r n _ left cnt hit h hDone (fun x v kl y w' cnt' hkey hlk hv hat hrg hlt hgr hsz hen => ?_)
  · obtain ⟨x, rfl, _, _⟩ := Maps.keyOf_str hk hkey
    exact ⟨⟨x.toArray⟩, rfl⟩
  · obtain ⟨x', e1, rfl, _⟩ := Maps.keyOf_str hk hkey
    obtain ⟨d, hd, e2⟩ := hsub x' hlk
    have e3 : x = d.f0.f2 := by
      have e4 : x = ⟨x'.toArray⟩ := by injection e1
      rw [e4, ← e2]
      rfl
    subst e2
    subst e3
    have e5 := hat .nil
    rw [atKey_mapOf pk encP _ d ds hd hn] at e5
    have e6 : v = encP d := RV_inv (u := encP d) (ps := y.2) (by rw [e5]; exact hv)
    subst e6
    exact hMore d w' cnt' hd hlk hrg hlt hgr hsz hen
theorem range_ev {P : Program} {ops : Array Oper} {rest : List Oper} {o : Oper} {a : Act} {Q : Exit → Act → World → Prop} {w : World} (hg : o.guard = none) (m : Operand) (t : TypeId) (hop : o.op = Op.range t m) (k e : TypeId) (K : Keyed P k) (ht : P.underlying t = some (.map k e)) (b n : Nat) (D : DataW Value)
    (hm : a.eval m = .map (some b)) (hown : w.ownsMap P k RV b n D)
    (hK : ∀ r w', r = w.heap.size → w'.ranges P k RV b r n D (Maps.has D) (Maps.size D) → w.grownBy w' none → wpList P ops Q rest (a.put o.dst (.pointer (some ⟨r, 0, none⟩))) w') :
    wpList P ops Q (o :: rest) a w :=
  wpList_range_own w hg m t hop k e K ht RV b n D hm hown (fun w' h1 h2 _ => hK _ w' rfl h1 h2)
theorem len_lit {P : Program} {ops : Array Oper} {rest : List Oper} {o : Oper} {a : Act} {Q : Exit → Act → World → Prop} {w : World} (hg : o.guard = none) (m : Operand) (t : TypeId) (hop : o.op = Op.call { callee := Callee.builtin Builtin.len, args := #[m], argTypes := #[t] })
    (k e : TypeId) (ht : P.underlying t = some (.map k e)) (b n : Nat) (D : DataW Value) (hm : a.eval m = .map (some b)) (hown : w.ownsMap P k RV b n D) (s : Nat) (hs : Maps.size D = s)
    (hK : wpList P ops Q rest (a.put o.dst (.int .i64 (s : Int))) w) : wpList P ops Q (o :: rest) a w :=
  wpList_len_own w hg m t hop k e ht RV b n D hm hown (by rw [hs]; exact hK)
theorem nodup_of_map {α β : Type} (k : α → β) (xs : List α) (h : (xs.map k).Nodup) : xs.Nodup := (List.pairwise_map.1 h).imp (fun hne e => hne (by rw [e]))
theorem isL_perm (l : SL) : ∀ t, (isL l t).Perm (l :: t)
  | [] => List.Perm.refl _
  | x :: t => by
    unfold isL
    split
    · exact List.Perm.refl _
    · exact ((isL_perm l t).cons x).trans (List.Perm.swap l x t)
theorem isL_rising (l : SL) : ∀ t, t.Pairwise (fun a b => lk a ≤ lk b) → (isL l t).Pairwise (fun a b => lk a ≤ lk b)
  | [], _ => by simp [isL]
  | x :: t, h => by
    rw [List.pairwise_cons] at h
    unfold isL
    split
    · rename_i hle
      refine List.pairwise_cons.2 ⟨fun b hb => ?_, List.pairwise_cons.2 h⟩
      rcases List.mem_cons.1 hb with rfl | hb
      · exact hle
      · exact List.le_trans hle (h.1 b hb)
    · rename_i hle
      refine List.pairwise_cons.2 ⟨fun b hb => ?_, isL_rising l t h.2⟩
      rcases List.mem_cons.1 ((isL_perm l t).mem_iff.1 hb) with rfl | hb
      · exact (List.le_total (lk b) (lk x)).resolve_left hle
      · exact h.1 b hb
theorem sortL_perm : ∀ ls, (sortL ls).Perm ls
  | [] => List.Perm.refl _
  | l :: ls => (isL_perm l (sortL ls)).trans ((sortL_perm ls).cons l)
theorem sortL_rising : ∀ ls, (sortL ls).Pairwise (fun a b => lk a ≤ lk b)
  | [] => List.Pairwise.nil
  | l :: ls => isL_rising l (sortL ls) (sortL_rising ls)
def legAt (fl : List SL) (x : ByteArray) : SL := (fl.find? (fun l => lk l == x.data.toList)).getD z71
theorem legAt_mem (fl : List SL) (hn : (fl.map lk).Nodup) (l : SL) (hl : l ∈ fl) (x : ByteArray) (hx : x.data.toList = lk l) : legAt fl x = l := by
  unfold legAt
  cases hf : fl.find? (fun l => lk l == x.data.toList) with
  | none =>
    have := List.find?_eq_none.1 hf l hl
    simp [hx] at this
  | some l' =>
    have h1 := List.mem_of_find?_eq_some hf
    have h2 : lk l' = x.data.toList := by simpa using List.find?_some hf
    exact nodup_inj lk fl hn l' l h1 hl (h2.trans hx)
def strs (ss : List (List UInt8)) : List ByteArray := (ss.mergeSort (fun x y => decide (x ≤ y))).map (fun s => (⟨s.toArray⟩ : ByteArray))
theorem Inv.out {ds cs : List SP} {left : Lit → Bool} {fl : List SL} (h : Inv ds cs left fl) (hl : ∀ kl, left kl = false) (hn : (ds.map pk).Nodup) (ss : List (List UInt8)) (hp : ss.Perm (fl.map lk)) :
    (strs ss).map (legAt fl) = sortL (ds.map (legD cs)) := by
  unfold strs
  have tr : ∀ a b c : List UInt8, decide (a ≤ b) = true → decide (b ≤ c) = true → decide (a ≤ c) = true := fun a b c h1 h2 => by simp only [decide_eq_true_eq] at *; exact List.le_trans h1 h2
  have tot : ∀ a b : List UInt8, (decide (a ≤ b) || decide (b ≤ a)) = true := fun a b => by simp only [Bool.or_eq_true, decide_eq_true_eq]; exact List.le_total a b
  have hp2 := (List.mergeSort_perm ss (fun x y => decide (x ≤ y))).trans hp
  have hrise := List.pairwise_mergeSort tr tot ss
  have hg : ∀ l ∈ fl, legAt fl (⟨(lk l).toArray⟩ : ByteArray) = l := fun l hm => legAt_mem fl h.nd l hm _ rfl
  have e1 : (((ss.mergeSort (fun x y => decide (x ≤ y))).map (fun s => (⟨s.toArray⟩ : ByteArray))).map (legAt fl)).Perm fl := by
    have := (hp2.map (fun s => (⟨s.toArray⟩ : ByteArray))).map (legAt fl)
    refine this.trans (List.Perm.of_eq ?_)
    rw [List.map_map, List.map_map]
    exact (List.map_congr_left (fun l hm => hg l hm)).trans (List.map_id _)
  have e2 : (ds.map (legD cs)).Perm fl := by
    refine (List.perm_ext_iff_of_nodup ?_ (nodup_of_map lk fl h.nd)).2 (fun l => ⟨fun hm => ?_, fun hm => ?_⟩)
    · refine nodup_of_map lk _ ?_
      rw [List.map_map]
      have : ds.map (lk ∘ legD cs) = ds.map pk := List.map_congr_left (fun d hd => (h.all d hd (hl _)).2.2)
      rw [this]
      exact hn
    · obtain ⟨d, hd, rfl⟩ := List.mem_map.1 hm
      exact (h.all d hd (hl _)).1
    · obtain ⟨d, hd, rfl, _⟩ := h.mem l hm
      exact List.mem_map_of_mem hd
  refine List.Perm.eq_of_pairwise (le := fun a b => lk a ≤ lk b) (fun a b ha hb h1 h2 => ?_) ?_ (sortL_rising _) (e1.trans (e2.symm.trans (sortL_perm _).symm))
  · exact nodup_inj lk fl h.nd a b (e1.mem_iff.1 ha) (e2.mem_iff.1 ((sortL_perm _).mem_iff.1 hb)) (List.le_antisymm h1 h2)
  · have e3 : ∀ s ∈ ss.mergeSort (fun x y => decide (x ≤ y)), lk (legAt fl ⟨s.toArray⟩) = s := fun s hs => by
      obtain ⟨l, hm, rfl⟩ := List.mem_map.1 (hp2.mem_iff.1 hs)
      rw [hg l hm]
    rw [List.map_map, List.pairwise_map]
    refine hrise.imp_of_mem (fun {a b} ha hb hab => ?_)
    simp only [Function.comp]
    rw [e3 a ha, e3 b hb]
    simpa using hab
theorem Inv.key {ds cs : List SP} {left : Lit → Bool} {fl : List SL} (h : Inv ds cs left fl) (ss : List (List UInt8)) (hp : ss.Perm (fl.map lk)) (x : ByteArray) (hx : x ∈ strs ss) : (∃ d ∈ ds, d.f0.f2 = x) ∧ ∀ z, (mapOf lk encL fl).atKey (.string x.data.toList) z = .held (encL (legAt fl x)) := by
  unfold strs at hx
  obtain ⟨s, hs, rfl⟩ := List.mem_map.1 hx
  obtain ⟨l, hm, rfl⟩ := List.mem_map.1 (((List.mergeSort_perm ss (fun x y => decide (x ≤ y))).trans hp).mem_iff.1 hs)
  obtain ⟨d, hd, _, e, _⟩ := h.mem l hm
  refine ⟨⟨d, hd, ?_⟩, fun z => ?_⟩
  · rw [← e]
    rfl
  · rw [legAt_mem fl h.nd l hm (⟨(lk l).toArray⟩ : ByteArray) rfl]
    exact atKey_mapOf lk encL z l fl hm h.nd
theorem goodD_of {l0 : List SP} {left : Lit → Bool} {fl : List SL} (h : Inv (debs l0) (creds l0) left fl) (hl : ∀ kl, left kl = false) (ha : l0.all pok = true) (hd : ((debs l0).map pk).Nodup) (hc : ((creds l0).map pk).Nodup) (hlen : (creds l0).length = (debs l0).length) : goodD l0 = true := by
  have : (debs l0).all (fitsD (creds l0)) = true := List.all_eq_true.2 (fun d hm => (h.all d hm (hl _)).2.1)
  simp [goodD, this, ha, hd, hc, hlen]
theorem fl_strs {P : Program} {k b n : Nat} {w : World} {fl : List SL} (hk : P.underlying k = some .string) (h : w.ownsMap P k RV b n (mapOf lk encL fl)) (hn : (fl.map lk).Nodup) {ss : List (List UInt8)} (hp : ss.Perm (strKeys (mapOf lk encL fl))) : ss.Perm (fl.map lk) := by
  refine hp.trans (strKeys_mapOf lk encL fl hn (fun es e p hm => ?_)).symm
  obtain ⟨es', e', hs⟩ := h.keysOf
  rw [e] at e'
  cases e'
  obtain ⟨v, hv⟩ := hs p hm
  obtain ⟨x, _, e, _⟩ := Maps.keyOf_str hk hv
  exact ⟨x, e⟩
theorem take_map_snoc (xs : List ByteArray) (g : ByteArray → SL) (i : Nat) (h : i < xs.length) : (xs.take (i + 1)).map g = (xs.take i).map g ++ [g xs[i]] := by
  rw [List.take_add_one, List.getElem?_eq_getElem h, List.map_append]
  rfl
theorem strs_R {w : World} {base : Nat} {v : Value} {ss : List (List UInt8)} (h : w.ownsRow base 9 1 v ss.length ((ss.mergeSort (fun x y => decide (x ≤ y))).map encStr)) : Kd.R Kd.string 9 w base (fun _ => True) v (strs ss) := by
  have hl : (strs ss).length = ss.length := by unfold strs; rw [List.length_map, List.length_mergeSort]
  refine Kd.R_of_own (enc := Value.string) (xs := strs ss) ?_ (fun _ _ => trivial)
  rw [hl]
  have : encs Value.string (strs ss) = (ss.mergeSort (fun x y => decide (x ≤ y))).map encStr := by
    unfold encs strs
    rw [List.map_map]
    rfl
  rw [this]
  exact h
theorem law9 : Keyed Tryd.prog 9 := string_keyed Tryd.underlying9
set_option maxHeartbeats 8000000 in
set_option maxRecDepth 100000 in
theorem delivery_Decompose.calls (A0 : Option Addr) (c0 : Nat) (l0 : List SP) (r1 : List SL) (r2 : Int) (w : World) (hr0 : Kd.C k68 w A0 l0.length l0) (hc0 : l0.length ≤ c0) (h : delivery_Decompose.f l0 = some (r1, r2)) :
    Calls Tryd.prog 15 #[.slice A0 l0.length c0] w fun e w' => ∃ v0_ : Value, e = .returned (.tuple #[v0_, .int .i64 r2]) ∧ Kd.R k71 71 w' w.heap.size (fun _ => True) v0_ r1 ∧ Below w.heap.size w w' := by
  unfold delivery_Decompose.f at h
  by_cases hsz : szP l0 = true
  case neg => rw [if_neg hsz] at h; exact absurd h (by simp)
  rw [if_pos hsz] at h
  have hsz' := Aside0.mk hsz
  clear hsz
  by_cases h0 : l0.length = 0
  · rw [if_pos h0] at h
    obtain ⟨rfl, rfl⟩ := Prod.mk.inj (Option.some.inj h)
    have b0 : ((l0.length : Int) == 0) = true := by simp [h0]
    go_enter Tryd.func15, Tryd.ntmps15
    go_wp2
    exact bodyPost_ret (v := .tuple #[.slice none 0 0, .int .i64 1]) (by simp [results, Tryd.results15, go_sem]) rfl ⟨_, rfl, Kd.R_nil _ _ _ _ _, Below.refl _ _⟩
  rw [if_neg h0] at h
  have b0 : ((l0.length : Int) == 0) = false := by simpa using h0
  by_cases h1 : 4096 < l0.length
  · rw [if_pos h1] at h
    obtain ⟨rfl, rfl⟩ := Prod.mk.inj (Option.some.inj h)
    have b1 : decide ((4096 : Int) < (l0.length : Int)) = true := decide_eq_true (by omega)
    go_enter Tryd.func15, Tryd.ntmps15
    go_wp2
    exact bodyPost_ret (v := .tuple #[.slice none 0 0, .int .i64 8]) (by simp [results, Tryd.results15, go_sem]) rfl ⟨_, rfl, Kd.R_nil _ _ _ _ _, Below.refl _ _⟩
  rw [if_neg h1] at h
  have b1 : decide ((4096 : Int) < (l0.length : Int)) = false := decide_eq_false (by omega)
  have HF := Aside0.mk h
  clear h
  obtain ⟨ad, rfl, _⟩ := at_T68 hr0 0 (by omega) (by omega)
  have HR := Aside0.mk hr0
  clear h0 hr0
  have HB := Aside0.mk (Below.refl w.heap.size w)
  go_enter Tryd.func15, Tryd.ntmps15
  go_wp2_with (first | ((with_reducible refine gate_dst (N := 27) rfl ?_); refine map_event ?hg (N := 27) ?hd ?hr ?_; (case hd => rfl); (case hg => rfl); (case hr => first | (go_simp; done) | (go_simp; rfl)); intro gf hgf w1 hown hb; have OF := Aside0.mk (hown 9); have GF := Aside0.mk (show w.heap.size ≤ gf by rw [hgf]; exact below_size HB.out); have HB1 := Aside0.mk (below_step HB.out hb); clear HB hown hb hgf; have HB := HB1; clear HB1))
  go_loopg [30] (l0.length + 1) (fun kq v30 w' => ∃ i : Nat, v30 = .int .i64 (i : Int) ∧ Aside0 (kq + i = l0.length + 1 ∧ i ≤ l0.length ∧ (l0.take i).all pok = true) ∧ Aside0 (w'.ownsMap Tryd.prog 9 RV gf 0 (.map [])) ∧ Aside0 (Below w.heap.size w w'))
  case atStart => exact ⟨0, rfl, ⟨rfl, Nat.zero_le _, rfl⟩, OF, HB⟩
  case round =>
    clear OF HB
    obtain ⟨i, rfl, HK, OF, HB⟩ := hrel
    obtain ⟨hkq, hile, hall⟩ := HK.out
    cases gk with
    | zero => omega
    | succ k1 =>
    by_cases hi : i < l0.length
    · have ci : decide ((i : Int) < (l0.length : Int)) = true := decide_eq_true (by omega)
      have p0 : ((0 : Int) ≤ (i : Int)) = True := eq_true (by omega)
      have p1 : ((i : Int) < (l0.length : Int)) = True := eq_true (by omega)
      obtain ⟨ad', ead, hx0, hx1, hx2, hx3⟩ := at_T68 (Kd.C_below HR.out HB.out) (i : Int) (by omega) (by omega)
      obtain rfl : ad = ad' := by injection ead
      clear ead
      simp only [Int.toNat_natCast] at hx0 hx1 hx2 hx3
      obtain ⟨p, hp⟩ : ∃ p, p = rd_T68 l0 (i : Int) := ⟨_, rfl⟩
      rw [← hp] at hx0 hx1 hx2 hx3
      have HP := Aside0.mk hp
      clear hp
      have HBAD : Aside0 (pok p = false → r1 = [] ∧ r2 = 3) := ⟨fun hb => bad_end HF.out (good_pok l0 i p hi HP.out hb)⟩
      have hpok : pok p = (inw p.f1 && !(p.f1 == 0) && (p.f0.f1 == 0)) := rfl
      cases e1 : inw p.f1
      · have HFf := HBAD.out (by rw [hpok, e1]; rfl)
        clear HF
        go_wp2_with (first | (go_at_call 32; refine (within_c _ _).mono ?_; rintro e w6 ⟨rfl, rfl⟩))
        exact bodyPost_ret (v := .tuple #[.slice none 0 0, .int .i64 3]) (by simp [results, Tryd.results15, go_sem]) rfl ⟨_, by first | rfl | rw [HFf.2], by first | exact Kd.R_nil _ _ _ _ _ | (rw [HFf.1]; exact Kd.R_nil _ _ _ _ _), HB.out.alloc (below_size HB.out) _⟩
      · cases e2 : (p.f1 == 0)
        · cases e3 : (p.f0.f1 != 0)
          · clear HBAD
            have hpk : pok p = true := by
              rw [hpok, e1, e2]
              simpa using e3
            go_wp2_with (first | (go_at_call 32; refine (within_c _ _).mono ?_; rintro e w6 ⟨rfl, rfl⟩))
            have hw := wnat i (by omega)
            go_roundg k1
            case measure => omega
            case rel =>
              refine ⟨i + 1, ?_, ⟨by omega, by omega, ?_⟩, ⟨OF.out.alloc _⟩, ⟨HB.out.alloc (below_size HB.out) _⟩⟩
              · first | rfl | rw [hw] | (simp; done) | (have hw2 := hw; rw [i64_w] at hw2; rw [hw2]) | (have hw2 := hw; rw [i64_w] at hw2; simp [hw2])
              · rw [take_snoc l0 i p hi HP.out, List.all_append, hall]
                simp [hpk]
          · have HFf := HBAD.out (by rw [hpok, e1, e2]; simpa using e3)
            clear HF
            go_wp2_with (first | (go_at_call 32; refine (within_c _ _).mono ?_; rintro e w6 ⟨rfl, rfl⟩))
            exact bodyPost_ret (v := .tuple #[.slice none 0 0, .int .i64 3]) (by simp [results, Tryd.results15, go_sem]) rfl ⟨_, by first | rfl | rw [HFf.2], by first | exact Kd.R_nil _ _ _ _ _ | (rw [HFf.1]; exact Kd.R_nil _ _ _ _ _), HB.out.alloc (below_size HB.out) _⟩
        · have HFf := HBAD.out (by rw [hpok, e1, e2]; rfl)
          clear HF
          go_wp2_with (first | (go_at_call 32; refine (within_c _ _).mono ?_; rintro e w6 ⟨rfl, rfl⟩))
          exact bodyPost_ret (v := .tuple #[.slice none 0 0, .int .i64 3]) (by simp [results, Tryd.results15, go_sem]) rfl ⟨_, by first | rfl | rw [HFf.2], by first | exact Kd.R_nil _ _ _ _ _ | (rw [HFf.1]; exact Kd.R_nil _ _ _ _ _), HB.out.alloc (below_size HB.out) _⟩
    · have ci : decide ((i : Int) < (l0.length : Int)) = false := decide_eq_false (by omega)
      have ei : i = l0.length := by omega
      subst ei
      rw [List.take_length] at hall
      have HALL := Aside0.mk hall
      clear hall HK hkq hile hi
      go_wp2_with (first | ((with_reducible refine gate_dst (N := 50) rfl ?_); refine map_event ?hg (N := 50) ?hd ?hr ?_; (case hd => rfl); (case hg => rfl); (case hr => first | (go_simp; done) | (go_simp; rfl)); intro gd hgg w_gd hown hb; have O_gd := Aside0.mk (hown 9); have G_gd := Aside0.mk (show w.heap.size ≤ gd by rw [hgg]; exact below_size HB.out); have NEF_gd : gf ≠ gd := (by rw [hgg]; exact Nat.ne_of_lt OF.out.lt); have OF1 := Aside0.mk (ownsMap_below OF.out hb); have HB1 := Aside0.mk (below_step HB.out hb);  clear HB OF hown hb hgg; have HB := HB1; have OF := OF1; clear HB1 OF1) | ((with_reducible refine gate_dst (N := 51) rfl ?_); refine map_event ?hg (N := 51) ?hd ?hr ?_; (case hd => rfl); (case hg => rfl); (case hr => first | (go_simp; done) | (go_simp; rfl)); intro gc hgg w_gc hown hb; have O_gc := Aside0.mk (hown 9); have G_gc := Aside0.mk (show w.heap.size ≤ gc by rw [hgg]; exact below_size HB.out); have NEF_gc : gf ≠ gc := (by rw [hgg]; exact Nat.ne_of_lt OF.out.lt); have OF1 := Aside0.mk (ownsMap_below OF.out hb); have HB1 := Aside0.mk (below_step HB.out hb);  have NEDC : gd ≠ gc := (by rw [hgg]; exact Nat.ne_of_lt O_gd.out.lt); have OD1 := Aside0.mk (ownsMap_below O_gd.out hb); clear HB OF O_gd hown hb hgg; have HB := HB1; have OF := OF1; have O_gd := OD1; clear HB1 OF1 OD1))
      go_loopg [54] (l0.length + 1) (fun kq v54 w' => ∃ i : Nat, v54 = .int .i64 (i : Int) ∧ Aside0 (kq + i = l0.length + 1 ∧ i ≤ l0.length ∧ ((debs (l0.take i)).map pk).Nodup ∧ ((creds (l0.take i)).map pk).Nodup) ∧ Aside0 (w'.ownsMap Tryd.prog 9 RV gf 0 (.map [])) ∧ Aside0 (w'.ownsMap Tryd.prog 9 RV gd i (mapOf pk encP (debs (l0.take i)))) ∧ Aside0 (w'.ownsMap Tryd.prog 9 RV gc i (mapOf pk encP (creds (l0.take i)))) ∧ Aside0 (Below w.heap.size w w'))
      case atStart => exact ⟨0, rfl, ⟨rfl, Nat.zero_le _, List.nodup_nil, List.nodup_nil⟩, OF, O_gd, O_gc, HB⟩
      case round =>
        clear OF HB O_gd O_gc
        obtain ⟨i, rfl, HK, OF, OD, OC, HB⟩ := hrel
        obtain ⟨hkq, hile, hnd, hnc⟩ := HK.out
        cases gk with
        | zero => omega
        | succ k1 =>
        by_cases hi : i < l0.length
        · have ci : decide ((i : Int) < (l0.length : Int)) = true := decide_eq_true (by omega)
          have p0 : ((0 : Int) ≤ (i : Int)) = True := eq_true (by omega)
          have p1 : ((i : Int) < (l0.length : Int)) = True := eq_true (by omega)
          obtain ⟨ad', ead, hx0, hx1, hx2, hx3⟩ := at_T68 (Kd.C_below HR.out HB.out) (i : Int) (by omega) (by omega)
          obtain rfl : ad = ad' := by injection ead
          clear ead
          simp only [Int.toNat_natCast] at hx0 hx1 hx2 hx3
          obtain ⟨p, hp⟩ : ∃ p, p = rd_T68 l0 (i : Int) := ⟨_, rfl⟩
          rw [← hp] at hx0 hx1 hx2 hx3
          have HP := Aside0.mk hp
          clear hp
          have hkey := szP_key l0 p hsz'.out (by rw [HP.out, rd_eq l0 i hi]; exact List.getElem_mem hi)
          by_cases hs : p.f1 < 0
          · have cs : decide (p.f1 < 0) = true := decide_eq_true hs
            by_cases hq : ∃ q ∈ debs (l0.take i), pk q = pk p
            · have HFf := bad_end HF.out (bad_debs l0 i p hi HP.out hs hq)
              obtain ⟨q, hqm, hqk⟩ := hq
              have hat : ∀ z, (mapOf pk encP (debs (l0.take i))).atKey (.string (pk p)) z = .held (encP q) := fun z => hqk ▸ atKey_mapOf pk encP z q _ hqm hnd
              have hh : has (mapOf pk encP (debs (l0.take i))) (.string (pk p)) = true := has_yes _ _ _ _ ⟨q, hqm, hqk⟩
              clear HF
              go_wp2_with (first | (at_lookup; refine lookup_lit rfl _ _ 81 rfl 9 68 law9 Tryd.underlying81 (zero_P _) gd i (mapOf pk encP (debs (l0.take i))) rfl (by repeat (first | exact OD.out | refine World.ownsMap.alloc ?_ _)) _ _ rfl hkey (encP q) true (hat _) hh ?_))
              exact bodyPost_ret (v := .tuple #[.slice none 0 0, .int .i64 3]) (by simp [results, Tryd.results15, go_sem]) rfl ⟨_, by first | rfl | rw [HFf.2], by first | exact Kd.R_nil _ _ _ _ _ | (rw [HFf.1]; exact Kd.R_nil _ _ _ _ _), by repeat (first | exact HB.out | refine below_alloc ?_ _)⟩
            · have hat : ∀ z, (mapOf pk encP (debs (l0.take i))).atKey (.string (pk p)) z = z := fun z => atKey_of_not_has (has_no _ _ _ _ hq) z
              have hh : has (mapOf pk encP (debs (l0.take i))) (.string (pk p)) = false := has_no _ _ _ _ hq
              go_wp2_with (first | (at_lookup; refine lookup_lit rfl _ _ 81 rfl 9 68 law9 Tryd.underlying81 (zero_P _) gd i (mapOf pk encP (debs (l0.take i))) rfl (by repeat (first | exact OD.out | refine World.ownsMap.alloc ?_ _)) _ _ rfl hkey (.agg #[.string ⟨#[]⟩, .int .i64 0, .string ⟨#[]⟩, .int .i64 0]) false (hat _) hh ?_) | (at_mapUpdate; refine wpList_mapUpdate_own _ rfl _ _ _ 81 rfl 9 68 law9 Tryd.underlying81 RV gd i (mapOf pk encP (debs (l0.take i))) rfl (by repeat (first | exact OD.out | refine World.ownsMap.alloc ?_ _)) (by unfold maxLen; omega) _ _ _ rfl rfl hkey (.held (encP p)) [] rfl ?_; intro w9 hown9 hg9; go_frame))
              have hown9' := Aside0.mk hown9
              have hot9 : Aside0 (w9.ownsMap Tryd.prog 9 RV gc i (mapOf pk encP (creds (l0.take i)))) := ⟨World.ownsMap.kept (by repeat (first | exact OC.out | refine World.ownsMap.alloc ?_ _)) hg9 (fun e => NEDC (Option.some.inj e).symm)⟩
              have hof9 : Aside0 (w9.ownsMap Tryd.prog 9 RV gf 0 (.map [])) := ⟨World.ownsMap.kept (by repeat (first | exact OF.out | refine World.ownsMap.alloc ?_ _)) hg9 (fun e => NEF_gd (Option.some.inj e))⟩
              have HBq : Below w.heap.size w ((wr.alloc (.cells #[.string p.f0.f0, .int .i64 p.f0.f1, .string p.f0.f2, .int .i64 p.f1] 68)).alloc (.cells #[.string ⟨#[]⟩, .int .i64 0, .string ⟨#[]⟩, .int .i64 0] 68)) := (by repeat (first | exact HB.out | refine below_alloc ?_ _))
              have HB9 : Aside0 (Below w.heap.size w w9) := ⟨Below.grown HBq hg9 (below_size HBq) (fun k_ hk_ => by cases hk_; exact G_gd.out)⟩
              clear hown9 hg9 OD OC OF HB
              have hw := wnat i (by omega)
              try go_wp2
              go_roundg k1
              case measure => omega
              case rel =>
                refine ⟨i + 1, ?_, ⟨by omega, by omega, ?_, ?_⟩, hof9, ?_, ?_, HB9⟩
                · first | rfl | rw [hw] | (simp; done) | (have hw2 := hw; rw [i64_w] at hw2; rw [hw2]) | (have hw2 := hw; rw [i64_w] at hw2; simp [hw2])
                all_goals rw [take_snoc l0 i p hi HP.out]
                all_goals first | rw [debs_snoc _ _ hs] | rw [creds_snoc' _ _ hs]
                all_goals first | assumption | exact nodup_snoc pk _ _ hnd hq | (rw [mapOf_snoc]; exact hown9') | exact ⟨hot9.out.mono (Nat.le_succ _)⟩
          · have cs : decide (p.f1 < 0) = false := decide_eq_false hs
            have HS := Aside0.mk hs
            by_cases hq : ∃ q ∈ creds (l0.take i), pk q = pk p
            · have HFf := bad_end HF.out (bad_creds l0 i p hi HP.out hs hq)
              obtain ⟨q, hqm, hqk⟩ := hq
              have hat : ∀ z, (mapOf pk encP (creds (l0.take i))).atKey (.string (pk p)) z = .held (encP q) := fun z => hqk ▸ atKey_mapOf pk encP z q _ hqm hnc
              have hh : has (mapOf pk encP (creds (l0.take i))) (.string (pk p)) = true := has_yes _ _ _ _ ⟨q, hqm, hqk⟩
              clear HF
              go_wp2_with (first | (at_lookup; refine lookup_lit rfl _ _ 81 rfl 9 68 law9 Tryd.underlying81 (zero_P _) gc i (mapOf pk encP (creds (l0.take i))) rfl (by repeat (first | exact OC.out | refine World.ownsMap.alloc ?_ _)) _ _ rfl hkey (encP q) true (hat _) hh ?_))
              exact bodyPost_ret (v := .tuple #[.slice none 0 0, .int .i64 3]) (by simp [results, Tryd.results15, go_sem]) rfl ⟨_, by first | rfl | rw [HFf.2], by first | exact Kd.R_nil _ _ _ _ _ | (rw [HFf.1]; exact Kd.R_nil _ _ _ _ _), by repeat (first | exact HB.out | refine below_alloc ?_ _)⟩
            · have hat : ∀ z, (mapOf pk encP (creds (l0.take i))).atKey (.string (pk p)) z = z := fun z => atKey_of_not_has (has_no _ _ _ _ hq) z
              have hh : has (mapOf pk encP (creds (l0.take i))) (.string (pk p)) = false := has_no _ _ _ _ hq
              go_wp2_with (first | (at_lookup; refine lookup_lit rfl _ _ 81 rfl 9 68 law9 Tryd.underlying81 (zero_P _) gc i (mapOf pk encP (creds (l0.take i))) rfl (by repeat (first | exact OC.out | refine World.ownsMap.alloc ?_ _)) _ _ rfl hkey (.agg #[.string ⟨#[]⟩, .int .i64 0, .string ⟨#[]⟩, .int .i64 0]) false (hat _) hh ?_) | (at_mapUpdate; refine wpList_mapUpdate_own _ rfl _ _ _ 81 rfl 9 68 law9 Tryd.underlying81 RV gc i (mapOf pk encP (creds (l0.take i))) rfl (by repeat (first | exact OC.out | refine World.ownsMap.alloc ?_ _)) (by unfold maxLen; omega) _ _ _ rfl rfl hkey (.held (encP p)) [] rfl ?_; intro w9 hown9 hg9; go_frame))
              have hown9' := Aside0.mk hown9
              have hot9 : Aside0 (w9.ownsMap Tryd.prog 9 RV gd i (mapOf pk encP (debs (l0.take i)))) := ⟨World.ownsMap.kept (by repeat (first | exact OD.out | refine World.ownsMap.alloc ?_ _)) hg9 (fun e => NEDC (Option.some.inj e))⟩
              have hof9 : Aside0 (w9.ownsMap Tryd.prog 9 RV gf 0 (.map [])) := ⟨World.ownsMap.kept (by repeat (first | exact OF.out | refine World.ownsMap.alloc ?_ _)) hg9 (fun e => NEF_gc (Option.some.inj e))⟩
              have HBq : Below w.heap.size w ((wr.alloc (.cells #[.string p.f0.f0, .int .i64 p.f0.f1, .string p.f0.f2, .int .i64 p.f1] 68)).alloc (.cells #[.string ⟨#[]⟩, .int .i64 0, .string ⟨#[]⟩, .int .i64 0] 68)) := (by repeat (first | exact HB.out | refine below_alloc ?_ _))
              have HB9 : Aside0 (Below w.heap.size w w9) := ⟨Below.grown HBq hg9 (below_size HBq) (fun k_ hk_ => by cases hk_; exact G_gc.out)⟩
              clear hown9 hg9 OD OC OF HB
              have hw := wnat i (by omega)
              try go_wp2
              go_roundg k1
              case measure => omega
              case rel =>
                refine ⟨i + 1, ?_, ⟨by omega, by omega, ?_, ?_⟩, hof9, ?_, ?_, HB9⟩
                · first | rfl | rw [hw] | (simp; done) | (have hw2 := hw; rw [i64_w] at hw2; rw [hw2]) | (have hw2 := hw; rw [i64_w] at hw2; simp [hw2])
                all_goals rw [take_snoc l0 i p hi HP.out]
                all_goals first | rw [creds_snoc _ _ (Int.not_lt.2 HS.out)] | rw [debs_snoc' _ _ (Int.not_lt.2 HS.out)]
                all_goals first | assumption | exact nodup_snoc pk _ _ hnc hq | (rw [mapOf_snoc]; exact hown9') | exact ⟨hot9.out.mono (Nat.le_succ _)⟩
        · have ci : decide ((i : Int) < (l0.length : Int)) = false := decide_eq_false (by omega)
          have ei : i = l0.length := by omega
          subst ei
          rw [List.take_length] at hnd hnc OD OC
          have HND := Aside0.mk hnd
          have HNC := Aside0.mk hnc
          clear hnd hnc HK hkq hile hi
          go_wp2_with (first | (at_range; refine range_ev rfl _ 81 rfl 9 68 law9 Tryd.underlying81 gd l0.length (mapOf pk encP (debs l0)) rfl OD.out ?_; intro r w1 hr hrg0 hg0; have RG := Aside0.mk hrg0; have NRD := Aside0.mk (show gd ≠ r by rw [hr]; exact Nat.ne_of_lt OD.out.lt); have NRC := Aside0.mk (show gc ≠ r by rw [hr]; exact Nat.ne_of_lt OC.out.lt); have NRF := Aside0.mk (show gf ≠ r by rw [hr]; exact Nat.ne_of_lt OF.out.lt); have GR := Aside0.mk (show w.heap.size ≤ r by rw [hr]; exact below_size HB.out); have OC1 := Aside0.mk (OC.out.kept hg0 (by simp)); have OF1 := Aside0.mk (OF.out.kept hg0 (by simp)); have HB1 := Aside0.mk (Below.grown HB.out hg0 (below_size HB.out) (fun k_ hk_ => by cases hk_)); clear OD OC OF HB hrg0 hg0 hr; have OC := OC1; have OF := OF1; have HB := HB1; clear OC1 OF1 HB1))
          go_frame
          go_loopg [80] (Maps.size (mapOf pk encP (debs l0)) + 1) (fun kq v80 w' => ∃ (left : Lit → Bool) (cnt : Nat) (fl : List SL), Aside0 (kq = cnt + 1 ∧ cnt ≤ l0.length ∧ fl.length + cnt ≤ l0.length) ∧ Aside0 (w'.ranges Tryd.prog 9 RV gd r l0.length (mapOf pk encP (debs l0)) left cnt) ∧ Aside0 (Inv (debs l0) (creds l0) left fl) ∧ Aside0 (w'.ownsMap Tryd.prog 9 RV gf fl.length (mapOf lk encL fl)) ∧ Aside0 (w'.ownsMap Tryd.prog 9 RV gc l0.length (mapOf pk encP (creds l0))) ∧ Aside0 (Below w.heap.size w w'))
          case atStart =>
            have hs := size_mapOf pk encP (debs l0) HND.out
            have hd : (debs l0).length ≤ l0.length := List.length_filter_le _ _
            exact ⟨_, _, [], ⟨rfl, by omega, by simp; omega⟩, RG, ⟨Inv.start _ _⟩, OF, OC, HB⟩
          case round =>
            clear OF HB OC RG
            obtain ⟨left, cnt, fl, HK, RG, HI, OF, OC, HB⟩ := hrel
            obtain ⟨hkq, hc1, hc2⟩ := HK.out
            subst hkq
            go_wp2_with (first | (at_next; refine next_ev rfl _ rfl 9 law9 Tryd.underlying9 gd r l0.length (debs l0) left cnt rfl RG.out HND.out HI.out.sub ?_ ?_))
            · intro hz hl0
              have hsc := size_mapOf pk encP (creds l0) HNC.out
              have hsd := size_mapOf pk encP (debs l0) HND.out
              have OD := Aside0.mk RG.out.owns
              by_cases hlen : (creds l0).length = (debs l0).length
              · have cl : (((creds l0).length : Int) != ((debs l0).length : Int)) = false := by simp [hlen]
                have h := HF.out
                rw [goodD_of HI.out hl0 HALL.out HND.out HNC.out hlen, if_pos rfl] at h
                obtain ⟨rfl, rfl⟩ := Prod.mk.inj (Option.some.inj h)
                have HL0 := Aside0.mk hl0
                have hmx0 : fl.length ≤ l0.length := by omega
                have hmx3 := size_mapOf lk encL fl HI.out.nd
                have hmx1 : Maps.size (mapOf lk encL fl) ≤ maxLen := by rw [hmx3]; unfold maxLen; omega
                have hmx2 : Maps.size (mapOf lk encL fl) * 16 ≤ 140737488355328 := by rw [hmx3]; omega
                have HFL := Aside0.mk hmx0
                clear h HF hl0 hlen hz hmx0 hmx3
                go_wp2_with (first | (at_len; refine len_lit rfl _ 81 rfl 9 68 Tryd.underlying81 gc l0.length (mapOf pk encP (creds l0)) rfl OC.out _ hsc ?_) | (at_len; refine len_lit rfl _ 81 rfl 9 68 Tryd.underlying81 gd l0.length (mapOf pk encP (debs l0)) rfl OD.out _ hsd ?_) | (go_at_call 34; refine (callsIn_wide.1 (Tryd.maps_Keys_34 (some gf) _)).mono ?_; rintro e w' ⟨rfl, rfl⟩) | (go_at_call 33; refine (callsIn_wide.1 (Tryd.slices_Sorted_keys_33_34 gf fl.length (mapOf lk encL fl) RV _ OF.out hmx1 hmx2)).mono ?_; rintro e w2 ⟨v, ss, rfl, hS, hrow, hnil, hb⟩; have HSS := Aside0.mk (fl_strs Tryd.underlying9 OF.out HI.out.nd hS); have HX := Aside0.mk (Kd.R_mono (Kd.R_lower (strs_R hrow) (by first | exact below_size (below_alloc HB.out _) | exact below_size HB.out)) (fun _ h => h)); have OF2 := Aside0.mk (ownsMap_below (OF.out.alloc _) hb); have HB2 := Aside0.mk (below_step (below_alloc HB.out _) hb); clear OF HB hS hrow hnil hb; have OF := OF2; have HB := HB2; clear OF2 HB2; obtain ⟨Ax, cx, rfl⟩ := Kd.R_slice HX.out))
                have hss : (strs ss).length = fl.length := by unfold strs; rw [List.length_map, List.length_mergeSort, HSS.out.length_eq, List.length_map]
                have HSL := Aside0.mk (show (strs ss).length ≤ 4096 by have := HFL.out; omega)
                clear hss
                go_loopg [18, 131] ((strs ss).length + 1) (fun kq v18 v131 w' => ∃ i : Nat, v131 = .int .i64 (i : Int) ∧ Aside0 (kq + i = (strs ss).length + 1 ∧ i ≤ (strs ss).length) ∧ Aside0 (Kd.R k71 71 w' w.heap.size (fun _ => True) v18 (((strs ss).take i).map (legAt fl))) ∧ Aside0 (w'.ownsMap Tryd.prog 9 RV gf fl.length (mapOf lk encL fl)) ∧ Aside0 (Kd.R Kd.string 9 w' w.heap.size (fun _ => True) (.slice Ax (strs ss).length cx) (strs ss)) ∧ Aside0 (Below w.heap.size w w'))
                case atStart => exact ⟨0, rfl, ⟨rfl, Nat.zero_le _⟩, ⟨Kd.R_nil _ _ _ _ _⟩, OF, HX, HB⟩
                case round =>
                  clear OF HB HX OC OD RG
                  obtain ⟨i, rfl, HK, OUT, OF, HX, HB⟩ := hrel
                  obtain ⟨hkq, hile⟩ := HK.out
                  cases gk with
                  | zero => omega
                  | succ k1 =>
                  by_cases hi : i < (strs ss).length
                  · have ci : decide ((i : Int) < ((strs ss).length : Int)) = true := decide_eq_true (by omega)
                    have p0 : ((0 : Int) ≤ (i : Int)) = True := eq_true (by omega)
                    have p1 : ((i : Int) < ((strs ss).length : Int)) = True := eq_true (by omega)
                    obtain ⟨adx, cxs, eax, _, hcx, hcell⟩ := Kd.C_get (Kd.R_reads' HX.out).2.2 (⟨#[]⟩ : ByteArray) (i : Int) (by omega) (by omega)
                    cases eax
                    obtain ⟨x, hx⟩ : ∃ x, x = (strs ss)[i] := ⟨_, rfl⟩
                    have hcx2 : cxs = [.string x] := by
                      have e : (strs ss).getD (i : Int).toNat (⟨#[]⟩ : ByteArray) = x := by
                        rw [Int.toNat_natCast, List.getD_eq_getElem?_getD, List.getElem?_eq_getElem hi, Option.getD_some, hx]
                      rw [e] at hcx
                      exact hcx
                    subst hcx2
                    have hx0 : wr.cell? (adx.add i) = some (.string x) := by
                      have := hcell 0 _ rfl
                      simpa [Kd.string, Kd.scalar] using this
                    obtain ⟨⟨d, hd, hdx⟩, hat⟩ := HI.out.key ss HSS.out x (by rw [hx]; exact List.getElem_mem hi)
                    have hkey : keyOf Tryd.prog 9 (.string x) = some (.string x.data.toList) := by
                      rw [← hdx]
                      exact szP_key l0 d hsz'.out (List.mem_filter.1 (show d ∈ l0.filter _ from hd)).1
                    obtain ⟨l, hl⟩ : ∃ l, l = legAt fl x := ⟨_, rfl⟩
                    rw [← hl] at hat
                    have HLX := Aside0.mk hl
                    have HXX := Aside0.mk hx
                    clear hcx hcell hd hdx hl hx
                    have hal : ((((strs ss).take i).map (legAt fl)).length + 1) * 56 ≤ 140737488355328 := by
                      rw [List.length_map, List.length_take]
                      have := HSL.out
                      omega
                    go_wp2_with (first | (at_lookup; refine lookup_lit1 rfl _ _ 79 rfl 9 71 law9 Tryd.underlying79 (zero_L _) gf fl.length (mapOf lk encL fl) rfl OF.out _ _ rfl hkey (encL l) (hat _) ?_) | ((with_reducible refine gate_builtin (b := .append) (xs := #[.tmp 135, .tmp 139]) rfl ?_); at_builtin; refine Kd.R_append k71 (w0 := w) w.heap.size rfl (.tmp 135) (.tmp 139) 38 71 (.agg #[(.string ⟨#[]⟩), (.string ⟨#[]⟩), (.string ⟨#[]⟩), (.int .i64 0)]) 56 rfl Tryd.underlying38 info71 rfl (by decide) (by omega) u18 (((strs ss).take i).map (legAt fl)) l [.string l.f0, .string l.f1, .string l.f2, .int .i64 l.f3] (fun _ => True) (fun _ => False) rfl rfl (k71_mkM _ _ _ l) (fun _ hk => hk.elim) (fun _ _ => trivial) OUT.out HB.out (below_size HB.out) hal ?_; intro v9 w9 ho9 hb9 hg9 hat9; go_frame))
                    have ne9 : some gf ≠ u18.ownBlock := fun e => by
                      obtain ⟨cells, hc⟩ := Kd.R_typed OUT.out gf e.symm
                      obtain ⟨es, cl, hm, _⟩ := OF.out
                      rw [hm] at hc
                      cases hc
                    have HO9 := Aside0.mk ho9
                    have HB9 := Aside0.mk hb9
                    have HF9 := Aside0.mk (OF.out.kept hg9 ne9)
                    have HX9 := Aside0.mk (Kd.R_over' HX.out (Kd.R_typed OUT.out) (by decide) hg9)
                    have hw := wnat i (by have := HSL.out; omega)
                    clear ho9 hb9 hg9 hat9 ne9 OUT OF HX HB
                    try go_wp2
                    go_roundg k1
                    case measure => omega
                    case rel =>
                      refine ⟨i + 1, ?_, ⟨by omega, by omega⟩, ⟨?_⟩, HF9, HX9, HB9⟩
                      · first | rfl | rw [hw] | (simp; done) | (have hw2 := hw; rw [i64_w] at hw2; rw [hw2]) | (have hw2 := hw; rw [i64_w] at hw2; simp [hw2])
                      · rw [take_map_snoc _ _ _ hi, ← HXX.out, ← HLX.out]
                        exact HO9.out
                  · have ci : decide ((i : Int) < ((strs ss).length : Int)) = false := decide_eq_false (by omega)
                    have ei : i = (strs ss).length := by omega
                    subst ei
                    rw [List.take_length, HI.out.out HL0.out HND.out ss HSS.out] at OUT
                    clear hkq hile HK hi
                    go_wp2
                    exact bodyPost_ret (v := .tuple #[_, .int .i64 0]) (by simp [results, Tryd.results15, go_sem]) rfl ⟨_, rfl, OUT.out, HB.out⟩
              · have cl : (((creds l0).length : Int) != ((debs l0).length : Int)) = true := bne_iff_ne.mpr (by omega)
                have HFf := bad_end HF.out (by simp [goodD, hlen])
                clear HF
                go_wp2_with (first | (at_len; refine len_lit rfl _ 81 rfl 9 68 Tryd.underlying81 gc l0.length (mapOf pk encP (creds l0)) rfl OC.out _ hsc ?_) | (at_len; refine len_lit rfl _ 81 rfl 9 68 Tryd.underlying81 gd l0.length (mapOf pk encP (debs l0)) rfl OD.out _ hsd ?_))
                exact bodyPost_ret (v := .tuple #[.slice none 0 0, .int .i64 3]) (by simp [results, Tryd.results15, go_sem]) rfl ⟨_, by first | rfl | rw [HFf.2], by first | exact Kd.R_nil _ _ _ _ _ | (rw [HFf.1]; exact Kd.R_nil _ _ _ _ _), HB.out⟩
            · intro d w1 cnt' hd hlk hrg hlt hg1 hs1 hen
              have RG1 := Aside0.mk hrg
              have HL := Aside0.mk hlk
              have HD := Aside0.mk hd
              have OC1 := Aside0.mk (OC.out.kept hg1 (fun e => NRC.out (Option.some.inj e)))
              have OF1 := Aside0.mk (OF.out.kept hg1 (fun e => NRF.out (Option.some.inj e)))
              have HB1 := Aside0.mk (Below.grown HB.out hg1 (below_size HB.out) (fun k_ hk_ => by cases hk_; exact GR.out))
              clear hrg hlk hd OC OF HB RG hg1 hs1
              have hkey := szP_key l0 d hsz'.out (List.mem_filter.1 (show d ∈ l0.filter _ from HD.out)).1
              cases hm : mate (creds l0) d with
              | none =>
                have HFf := bad_end HF.out (bad_fit l0 d HD.out (by simp [fitsD, hm]))
                have hno : ¬ ∃ q ∈ creds l0, pk q = pk d := by
                  rintro ⟨q, hq, e⟩
                  have := List.find?_eq_none.1 hm q hq
                  simp [e] at this
                have hat : ∀ z, (mapOf pk encP (creds l0)).atKey (.string (pk d)) z = z := fun z => atKey_of_not_has (has_no _ _ _ _ hno) z
                have hh : has (mapOf pk encP (creds l0)) (.string (pk d)) = false := has_no _ _ _ _ hno
                clear HF hm hno
                go_wp2_with (first | (at_lookup; refine lookup_lit rfl _ _ 81 rfl 9 68 law9 Tryd.underlying81 (zero_P _) gc l0.length (mapOf pk encP (creds l0)) rfl (by repeat (first | exact OC1.out | refine World.ownsMap.alloc ?_ _)) _ _ rfl hkey (.agg #[.string ⟨#[]⟩, .int .i64 0, .string ⟨#[]⟩, .int .i64 0]) false (hat _) hh ?_))
                exact bodyPost_ret (v := .tuple #[.slice none 0 0, .int .i64 3]) (by simp [results, Tryd.results15, go_sem]) rfl ⟨_, by first | rfl | rw [HFf.2], by first | exact Kd.R_nil _ _ _ _ _ | (rw [HFf.1]; exact Kd.R_nil _ _ _ _ _), by repeat (first | exact HB1.out | refine below_alloc ?_ _)⟩
              | some c =>
                have hcm : c ∈ creds l0 := List.mem_of_find?_eq_some hm
                have hck : pk c = pk d := by simpa using List.find?_some hm
                have hat : ∀ z, (mapOf pk encP (creds l0)).atKey (.string (pk d)) z = .held (encP c) := fun z => hck ▸ atKey_mapOf pk encP z c _ hcm HNC.out
                have hh : has (mapOf pk encP (creds l0)) (.string (pk d)) = true := has_yes _ _ _ _ ⟨c, hcm, hck⟩
                have HM := Aside0.mk hm
                have hbad : Aside0 (fitsC d c = false → r1 = [] ∧ r2 = 3) := ⟨fun hb => bad_end HF.out (bad_fit l0 d HD.out (by simp [fitsD, HM.out, hb]))⟩
                have hfc : fitsC d c = (c.f1 == wrap64 (-d.f1) && !(c.f0.f0.toList == d.f0.f0.toList)) := rfl
                clear hm hcm hck
                cases e2 : (c.f1 != wrap64 (-d.f1))
                · have e2' : (c.f1 == wrap64 (-d.f1)) = true := by simpa using e2
                  cases e3 : (c.f0.f0.toList == d.f0.f0.toList)
                  · have HFC := Aside0.mk (show fitsC d c = true by rw [hfc, e2', e3]; rfl)
                    clear hfc hbad
                    go_wp2_with (first | (at_lookup; refine lookup_lit rfl _ _ 81 rfl 9 68 law9 Tryd.underlying81 (zero_P _) gc l0.length (mapOf pk encP (creds l0)) rfl (by repeat (first | exact OC1.out | refine World.ownsMap.alloc ?_ _)) _ _ rfl hkey (encP c) true (hat _) hh ?_) | (at_mapUpdate; refine wpList_mapUpdate_own _ rfl _ _ _ 79 rfl 9 71 law9 Tryd.underlying79 RV gf fl.length (mapOf lk encL fl) rfl (by repeat (first | exact OF1.out | refine World.ownsMap.alloc ?_ _)) (by unfold maxLen; omega) _ _ _ rfl rfl hkey (.held (encL ⟨d.f0.f0, c.f0.f0, d.f0.f2, c.f1⟩)) [] rfl ?_; intro w9 hown9 hg9; go_frame))
                    have hown9' := Aside0.mk hown9
                    have hoc9 : Aside0 (w9.ownsMap Tryd.prog 9 RV gc l0.length (mapOf pk encP (creds l0))) := ⟨World.ownsMap.kept (by repeat (first | exact OC1.out | refine World.ownsMap.alloc ?_ _)) hg9 (fun e => NEF_gc (Option.some.inj e).symm)⟩
                    have hrg9 : Aside0 (w9.ranges Tryd.prog 9 RV gd r l0.length (mapOf pk encP (debs l0)) (fun z => left z && !z.sameKey (.string (pk d))) cnt') := ⟨World.ranges.kept (by repeat (first | exact RG1.out | refine World.ranges.alloc ?_ _)) hg9 (fun e => NEF_gd (Option.some.inj e).symm) (fun e => NRF.out (Option.some.inj e).symm)⟩
                    have HBq : Below w.heap.size w ((w1.alloc (.cells #[.string d.f0.f0, .int .i64 d.f0.f1, .string d.f0.f2, .int .i64 d.f1] 68)).alloc (.cells #[.string c.f0.f0, .int .i64 c.f0.f1, .string c.f0.f2, .int .i64 c.f1] 68)) := (by repeat (first | exact HB1.out | refine below_alloc ?_ _))
                    have HB9 : Aside0 (Below w.heap.size w w9) := ⟨Below.grown HBq hg9 (below_size HBq) (fun k_ hk_ => by cases hk_; exact GF.out)⟩
                    clear hown9 hg9 OC1 OF1 HB1 RG1 HBq
                    try go_wp2
                    go_roundg (cnt' + 1)
                    case measure => omega
                    case rel =>
                      refine ⟨_, cnt', fl ++ [⟨d.f0.f0, c.f0.f0, d.f0.f2, c.f1⟩], ⟨rfl, by omega, by rw [List.length_append, List.length_singleton]; omega⟩, hrg9, ⟨HI.out.step HND.out d c HD.out HL.out HM.out HFC.out⟩, ?_, hoc9, HB9⟩
                      rw [List.length_append, List.length_singleton, mapOf_snoc]
                      exact hown9'
                  · have HFf := hbad.out (by rw [hfc, e2', e3]; rfl)
                    clear HF hbad hfc
                    go_wp2_with (first | (at_lookup; refine lookup_lit rfl _ _ 81 rfl 9 68 law9 Tryd.underlying81 (zero_P _) gc l0.length (mapOf pk encP (creds l0)) rfl (by repeat (first | exact OC1.out | refine World.ownsMap.alloc ?_ _)) _ _ rfl hkey (encP c) true (hat _) hh ?_))
                    exact bodyPost_ret (v := .tuple #[.slice none 0 0, .int .i64 3]) (by simp [results, Tryd.results15, go_sem]) rfl ⟨_, by first | rfl | rw [HFf.2], by first | exact Kd.R_nil _ _ _ _ _ | (rw [HFf.1]; exact Kd.R_nil _ _ _ _ _), by repeat (first | exact HB1.out | refine below_alloc ?_ _)⟩
                · have HFf := hbad.out (by rw [hfc]; have : (c.f1 == wrap64 (-d.f1)) = false := (by simpa using e2); rw [this]; rfl)
                  clear HF hbad hfc
                  go_wp2_with (first | (at_lookup; refine lookup_lit rfl _ _ 81 rfl 9 68 law9 Tryd.underlying81 (zero_P _) gc l0.length (mapOf pk encP (creds l0)) rfl (by repeat (first | exact OC1.out | refine World.ownsMap.alloc ?_ _)) _ _ rfl hkey (encP c) true (hat _) hh ?_))
                  exact bodyPost_ret (v := .tuple #[.slice none 0 0, .int .i64 3]) (by simp [results, Tryd.results15, go_sem]) rfl ⟨_, by first | rfl | rw [HFf.2], by first | exact Kd.R_nil _ _ _ _ _ | (rw [HFf.1]; exact Kd.R_nil _ _ _ _ _), by repeat (first | exact HB1.out | refine below_alloc ?_ _)⟩
end Go.Proofs.YtpclapnmiacfpaaDoor.Q
end
section
namespace Go.Proofs.YtpclapnmiacfpaaDoor
open Go.ChangeShapes Go.WideShapes Go.ChangeAt Go.RowKit Go.Proofs.YtpclapnmiacfpaaDoorW.PrintWords Go.Proofs.YtpclapnmiacfpaaDoorW.PrintLast Go.Proofs.YtpclapnmiacfpaaDoorW.PrintMore
open Q (SP)
set_option linter.unusedVariables false
theorem mem_weightsAll {H : Type} {P : Program} {e : TypeId} : ∀ (ds : List (DataW H)) (d : DataW H) (n : Nat), d ∈ ds → n ∈ d.weights P e → n ∈ DataW.weightsAll P e ds
  | [], d, n, h, _ => by cases h
  | x :: xs, d, n, h, hn => by
    rw [DataW.weightsAll, List.mem_append]
    rcases List.mem_cons.1 h with rfl | h
    · exact .inl hn
    · exact .inr (mem_weightsAll xs d n h hn)
theorem cells66 : Tryd.prog.cellsOf 66 = 3 := by kernel_rfl
theorem cells68 : Tryd.prog.cellsOf 68 = 4 := by kernel_rfl
theorem list4 {α : Type} {l : List α} (h : l.length = 4) : ∃ c0 c1 c2 c3, l = [c0, c1, c2, c3] := by
  match l, h with
  | [c0, c1, c2, c3], _ => exact ⟨c0, c1, c2, c3, rfl⟩
theorem list3 {α : Type} {l : List α} (h : l.length = 3) : ∃ c0 c1 c2, l = [c0, c1, c2] := by
  match l, h with
  | [c0, c1, c2], _ => exact ⟨c0, c1, c2, rfl⟩
theorem posting_open {H : Type} {enc : TypeId × Value → H} {W : World} {base : Nat} {sp : Nat → Bool} {held : Bool} {fuel : Nat} {cs : List Value} {D : DataW H} {Pl : List MemPlace} (hcs : cs.length = 4)
    (h : DataW.trod enc Tryd.prog W base sp held fuel 68 cs = some (D, Pl)) :
    ∃ x : SP, cs = [.string x.f0.f0, .int .i64 x.f0.f1, .string x.f0.f2, .int .i64 x.f1] ∧ x.f0.f2.size ∈ D.weights Tryd.prog 68 := by
  obtain ⟨c0, c1, c2, c3, rfl⟩ := list4 hcs
  obtain ⟨xs, n, _, hx, _, hlen, hel⟩ := DataW.trod_struct Tryd.underlying68 h
  obtain ⟨y0, y1, rfl⟩ := list2 hlen
  have e0 := hel 0 _ rfl
  have e1 := hel 1 _ rfl
  clear hel hlen
  try simp only [cells66, cells64] at e0 e1
  obtain ⟨xs0, n0, _, hx0, _, hlen0, hel0⟩ := DataW.trod_struct (x := y0) Tryd.underlying66 e0
  obtain ⟨z0, z1, z2, rfl⟩ := list3 hlen0
  have g0 := hel0 0 _ rfl
  have g1 := hel0 1 _ rfl
  have g2 := hel0 2 _ rfl
  clear hel0 hlen0
  try simp only [cells2, cells9] at g0 g1 g2
  obtain ⟨a0, q0, rfl, _⟩ := DataW.trod_string Tryd.underlying9 (x := z0) g0
  obtain ⟨a1, q1, rfl, _⟩ := DataW.trod_int Tryd.underlying3 (x := z1) g1
  obtain ⟨a2, q2, rfl, _⟩ := DataW.trod_string Tryd.underlying9 (x := z2) g2
  obtain ⟨a3, q3, rfl, _⟩ := DataW.trod_int Tryd.underlying2 (x := y1) e1
  simp [cells2, cells9, cells64, cells66] at q0 q1 q2 q3
  subst q0 q1 q2 q3
  subst hx0
  obtain ⟨rfl, _⟩ := Prod.mk.inj hx
  refine ⟨⟨⟨a0, a1, a2⟩, a3⟩, rfl, ?_⟩
  simp only [List.map_cons, List.map_nil, DataW.weights, Tryd.underlying68, Tryd.underlying66, DataW.weightsEach, Array.length_toList, ByteArray.size, List.mem_append, List.mem_cons, List.not_mem_nil, or_false, false_or, true_or, or_true, List.append_nil, List.nil_append, List.cons_append]
set_option maxRecDepth 100000 in
theorem postings_open {H : Type} {enc : TypeId × Value → H} {W : World} {base : Nat} {sp : Nat → Bool} {held : Bool} {r : Reach} {b0 : Nat} {v : Value} {d : DataW H} {p : List MemPlace}
    (hv : Value.okWide Tryd.prog W r b0 27 v) (h : DataW.Trod enc Tryd.prog W base sp held 27 v d p) :
    ∃ (A : Option Addr) (c : Nat) (l0 : List SP), v = .slice A l0.length c ∧ l0.length ≤ c ∧ Kd.C Q.k68 W A l0.length l0 ∧ ∀ q, q ∈ l0 → q.f0.f2.size ∈ d.weights Tryd.prog 27 := by
  obtain ⟨a, len, cap, rfl⟩ := okWide_slice Tryd.underlying27 hv
  obtain ⟨fuel, hf⟩ := h
  rcases Deep.open_slice Tryd.underlying27 hf with ⟨hc, hx⟩ | ⟨a', len', cap', m, n, D, Pl, hc, hb, hl, hm, hmm, hx, hel⟩
  · simp only [Value.cells, List.cons.injEq, and_true, Value.slice.injEq] at hc
    obtain ⟨rfl, rfl, rfl⟩ := hc
    exact ⟨none, 0, [], rfl, Nat.le_refl _, ⟨rfl, by decide, fun h => by cases h⟩, fun q hq => by cases hq⟩
  · simp only [Value.cells, List.cons.injEq, and_true, Value.slice.injEq] at hc
    obtain ⟨rfl, rfl, rfl⟩ := hc
    have hlm : len ≤ m := by rw [hmm]; split <;> omega
    haveI : Inhabited SP := ⟨Q.z68⟩
    have each : ∀ i, i < len → ∃ x : SP, (∀ j u, [Value.string x.f0.f0, Value.int .i64 x.f0.f1, Value.string x.f0.f2, Value.int .i64 x.f1][j]? = some u → W.cell? (a'.add (i * 4 + j)) = some u) ∧ x.f0.f2.size ∈ (D i).weights Tryd.prog 68 := by
      intro i hi
      obtain ⟨cs, h1, h2⟩ := hel i (by omega)
      rw [cells68] at h1
      obtain ⟨_, hlen, hcell⟩ := World.cells?_some h1
      obtain ⟨x, hx, hw⟩ := posting_open hlen h2
      refine ⟨x, fun j u hu => ?_, hw⟩
      have hj : j < 4 := by
        have := (List.getElem?_eq_some_iff.1 hu).1
        simpa using this
      have := hcell j hj
      rw [hx, hu, Deep.add_add] at this
      exact this
    obtain ⟨f, hfx⟩ := Deep.choose_lt each
    have hll : ((List.range len).map f).length = len := by rw [List.length_map, List.length_range]
    refine ⟨some a', cap, (List.range len).map f, by rw [hll], by rw [hll]; exact hl, ⟨rfl, by rw [hll]; unfold maxLen at hm; omega, fun _ => ⟨a', rfl, fun j p hj => ?_⟩⟩, fun q hq => ?_⟩
    · obtain ⟨hjl, hp⟩ := List.getElem?_eq_some_iff.1 hj
      have hjl' : j < len := by rw [hll] at hjl; exact hjl
      have hpf : f j = p := by simpa using hp
      subst hpf
      exact ⟨_, rfl, Kd.K_of_M Q.k68 (Q.k68_mkM W 0 (fun _ => True) (f j)), (hfx j hjl').1⟩
    · obtain ⟨i, hi, rfl⟩ := List.mem_map.1 hq
      have hil : i < len := by simpa using hi
      have hx1 : d = .slice ((List.range len).map D) ((List.range (m - len)).map fun j => D (len + j)) := (Prod.mk.inj hx).1
      rw [hx1]
      simp only [DataW.weights, Tryd.underlying27, List.mem_cons, List.mem_append]
      exact .inr (.inl (mem_weightsAll _ (D i) _ (List.mem_map_of_mem (List.mem_range.2 hil)) (hfx i hil).2))
end Go.Proofs.YtpclapnmiacfpaaDoor
end
section
namespace Go.Proofs.YtpclapnmiacfpaaDoor.Q
open Go.RowKit Go.Proofs.YtpclapnmiacfpaaDoorW.PrintWords Go.Proofs.YtpclapnmiacfpaaDoorW.PrintLast Go.Proofs.YtpclapnmiacfpaaDoorW.PrintMore
attribute [local go_sem] max2_int min2_int max_two min_two max_three min_three max_four min_four
set_option linter.unusedVariables false
set_option linter.unusedSimpArgs false
def girolaw15_To.f (a0_0 : ByteArray) (a0_1 : Int) (a0_2 : ByteArray) : Option (ByteArray × Int × ByteArray) := some (a0_0, a0_1, a0_2)
set_option maxHeartbeats 8000000 in
set_option maxRecDepth 100000 in
theorem girolaw15_To.calls (a0_0 : ByteArray) (a0_1 : Int) (a0_2 : ByteArray) (r1 : ByteArray) (r2 : Int) (r3 : ByteArray) (w : World) (h : girolaw15_To.f a0_0 a0_1 a0_2 = some (r1, r2, r3)) :
  Calls Tryd.prog 31 #[.agg #[.string a0_0, .int .i64 a0_1, .string a0_2]] w fun e w' => e = .returned (.agg #[.string r1, .int .i64 r2, .string r3]) ∧ Below w.heap.size w w' := by
 have hu66 := Tryd.underlying66
 have hu75 := Tryd.underlying75
 have HB := Aside0.mk (Below.refl w.heap.size w)
 have H : (some (a0_0, a0_1, a0_2)) = some (r1, r2, r3) := h
 clear h
 simp only [Option.some.injEq, Prod.mk.injEq] at H
 obtain ⟨rfl, rfl, rfl⟩ := H
 go_enter Tryd.func31, Tryd.ntmps31
 go_wp2_with (first | ((with_reducible refine gate_dst (N := 1) rfl ?_); refine box_event ?hg (N := 1) ?hd (cs := #[.string a0_0, .int .i64 a0_1, .string a0_2]) (t := 66) ?hr ?_; (case hd => rfl); (case hg => rfl); (case hr => first | (go_simp; done) | (go_simp; rfl)); intro gb103 hg w2 hbox hb; have n0_ := Aside0.mk (below_step (by repeat (first | (with_reducible first | exact HB.out | apply below_alloc | apply pw_below_drewN | apply below_drew1) | exact HB.out)) hb); have n1_ := Aside0.mk (hbox); have n2_ := Aside0.mk ((by rw [hg]; exact (below_size (by repeat (first | (with_reducible first | exact HB.out | apply below_alloc | apply pw_below_drewN | apply below_drew1) | exact HB.out))) : w.heap.size ≤ gb103)); have n3_ := Aside0.mk ((by rw [hg]; exact (below_size (by repeat (first | (with_reducible first | exact HB.out | apply below_alloc | apply pw_below_drewN | apply below_drew1) | exact HB.out))) : w.heap.size ≤ gb103)); clear HB; have HB := n0_; have BK103 := n1_; have GW103 := n2_; have GE103 := n3_; clear n0_ n1_ n2_ n3_; clear hb hbox hg) | ((with_reducible refine gate_dst (N := 2) rfl ?_); refine box_event ?hg (N := 2) ?hd (cs := #[.string (⟨#[]⟩ : ByteArray), .int .i64 0, .string (⟨#[]⟩ : ByteArray)]) (t := 75) ?hr ?_; (case hd => rfl); (case hg => rfl); (case hr => first | (go_simp; done) | (go_simp; rfl)); intro gb104 hg w3 hbox hb; have n0_ := Aside0.mk (blk_below (g := gb103) (o := .cells #[.string a0_0, .int .i64 a0_1, .string a0_2] 66 (0, 0)) (by (with_reducible repeat (first | refine blk_drewN ?_ _ | refine blk_drew ?_ | refine blk_alloc ?_ _)); exact BK103.out) hb); have n1_ := Aside0.mk (below_step (by repeat (first | (with_reducible first | exact HB.out | apply below_alloc | apply pw_below_drewN | apply below_drew1 | refine below_set ?_ GE103.out) | exact HB.out)) hb); have n2_ := Aside0.mk (hbox); have n3_ := Aside0.mk ((by rw [hg]; exact (below_size (by repeat (first | (with_reducible first | exact HB.out | apply below_alloc | apply pw_below_drewN | apply below_drew1 | refine below_set ?_ GE103.out) | exact HB.out))) : w.heap.size ≤ gb104)); have n4_ := Aside0.mk ((by rw [hg]; exact (below_size (by repeat (first | (with_reducible first | exact HB.out | apply below_alloc | apply pw_below_drewN | apply below_drew1 | refine below_set ?_ GE103.out) | exact HB.out))) : w.heap.size ≤ gb104)); have n5_ := Aside0.mk ((by rw [hg]; exact Nat.ne_of_lt (blk_lt (g := gb103) (o := .cells #[.string a0_0, .int .i64 a0_1, .string a0_2] 66 (0, 0)) (by (with_reducible repeat (first | refine blk_drewN ?_ _ | refine blk_drew ?_ | refine blk_alloc ?_ _)); exact BK103.out)) : gb103 ≠ gb104)); have n6_ := Aside0.mk ((by rw [hg]; exact Nat.ne_of_gt (blk_lt (g := gb103) (o := .cells #[.string a0_0, .int .i64 a0_1, .string a0_2] 66 (0, 0)) (by (with_reducible repeat (first | refine blk_drewN ?_ _ | refine blk_drew ?_ | refine blk_alloc ?_ _)); exact BK103.out)) : gb104 ≠ gb103)); clear BK103; clear HB; have BK103 := n0_; have HB := n1_; have BK104 := n2_; have GW104 := n3_; have GE104 := n4_; have NB103_104 := n5_; have NB104_103 := n6_; clear n0_ n1_ n2_ n3_ n4_ n5_ n6_; clear hb hbox hg; have hnb4 := NB103_104.out; have hnc4 := NB104_103.out; have hcz5_0 : w3.cell? ⟨gb103, 0, none⟩ = some (.string a0_0) := (blk_cell BK103.out 0).trans rfl; have hcz5_1 : w3.cell? ⟨gb103, 1, none⟩ = some (.int .i64 a0_1) := (blk_cell BK103.out 1).trans rfl; have hcz5_2 : w3.cell? ⟨gb103, 2, none⟩ = some (.string a0_2) := (blk_cell BK103.out 2).trans rfl; have hfz5_0 := blk_frozen BK103.out 0; have hfz5_1 := blk_frozen BK103.out 1; have hfz5_2 := blk_frozen BK103.out 2; have hcz6_0 : w3.cell? ⟨gb104, 0, none⟩ = some (.string (⟨#[]⟩ : ByteArray)) := (blk_cell BK104.out 0).trans rfl; have hcz6_1 : w3.cell? ⟨gb104, 1, none⟩ = some (.int .i64 0) := (blk_cell BK104.out 1).trans rfl; have hcz6_2 : w3.cell? ⟨gb104, 2, none⟩ = some (.string (⟨#[]⟩ : ByteArray)) := (blk_cell BK104.out 2).trans rfl; have hfz6_0 := blk_frozen BK104.out 0; have hfz6_1 := blk_frozen BK104.out 1; have hfz6_2 := blk_frozen BK104.out 2))
 refine bodyPost_ret (results_cell_row rfl _ _ gb104 75 #[.string a0_0, .int .i64 a0_1, .string a0_2] (0, 0) _ rfl (by (with_reducible repeat (first | refine blk_drewN ?_ _ | refine blk_drew ?_ | refine blk_alloc ?_ _)); refine blk_put (cs := #[.string a0_0, .int .i64 a0_1, .string (⟨#[]⟩ : ByteArray)]) ?_ 2 _ rfl; (with_reducible repeat (first | refine blk_drewN ?_ _ | refine blk_drew ?_ | refine blk_alloc ?_ _)); refine blk_put (cs := #[.string a0_0, .int .i64 0, .string (⟨#[]⟩ : ByteArray)]) ?_ 1 _ rfl; (with_reducible repeat (first | refine blk_drewN ?_ _ | refine blk_drew ?_ | refine blk_alloc ?_ _)); refine blk_put (cs := #[.string (⟨#[]⟩ : ByteArray), .int .i64 0, .string (⟨#[]⟩ : ByteArray)]) ?_ 0 _ rfl; (with_reducible repeat (first | refine blk_drewN ?_ _ | refine blk_drew ?_ | refine blk_alloc ?_ _)); exact BK104.out) Tryd.underlying75 rfl (by kernel_rfl)) rfl ?_
 exact ⟨by first | rfl | (simp [errW_none, errW_some] <;> rfl) | (simp [*, errW_none, errW_some] <;> rfl), by repeat (first | (with_reducible first | exact HB.out | apply below_alloc | apply pw_below_drewN | apply below_drew1 | refine below_set ?_ GE103.out | refine below_set ?_ GE104.out) | exact HB.out)⟩
end Go.Proofs.YtpclapnmiacfpaaDoor.Q
end
section
namespace Go.Proofs.YtpclapnmiacfpaaDoor.Q
open Go.RowKit Go.Proofs.YtpclapnmiacfpaaDoorW.PrintWords Go.Proofs.YtpclapnmiacfpaaDoorW.PrintLast Go.Proofs.YtpclapnmiacfpaaDoorW.PrintMore
attribute [local go_sem] max2_int min2_int max_two min_two max_three min_three max_four min_four
set_option linter.unusedVariables false
set_option linter.unusedSimpArgs false
def girolaw15_Postings.l0 : Nat → List (S68) → List (S77) → Int → Option ((List (S77)))
 | 0, _, _, _ => none
 | k + 1, x0, x3, x4 => if x4 < (x0.length : Int) then (if 0 ≤ x4 then ((girolaw15_To.f ((rd_T68 x0 x4).f0.f0) ((rd_T68 x0 x4).f0.f1) ((rd_T68 x0 x4).f0.f2)).bind fun bt106 => (if x3.length < 2932031007402 then (girolaw15_Postings.l0 k x0 (x3 ++ [(⟨(⟨bt106.1, bt106.2.1, bt106.2.2⟩ : S75), (rd_T68 x0 x4).f1⟩ : S77)]) (wrap64 (x4 + 1))) else (none))) else (none)) else (some x3)
def girolaw15_Postings.f (k : Nat) (l0 : List (S68)) : Option ((List (S77))) := girolaw15_Postings.l0 k l0 ([] : List (S77)) 0
theorem girolaw15_Postings.mono_l : ∀ k, (∀ y0 y1 y2, LeO (girolaw15_Postings.l0 k y0 y1 y2) (girolaw15_Postings.l0 (k + 1) y0 y1 y2))
 | 0 => fun _ _ _ r h => by simp [girolaw15_Postings.l0] at h
 | k + 1 => by
  have ih0 := girolaw15_Postings.mono_l k
  ·intro y0 y1 y2
   unfold girolaw15_Postings.l0
   repeat' first
   | (with_reducible exact ih0 _ _ _)
   | (with_reducible exact LeO.refl _)
   | (with_reducible exact LeO.none _)
   | (with_reducible refine LeO.ite ?_ ?_)
   | (with_reducible refine LeO.bind ?_ (fun _ => ?_))
   | exact ih0 _ _ _
   | exact LeO.none _
   | refine LeO.ite ?_ ?_
   | refine LeO.bind ?_ (fun _ => ?_)
theorem girolaw15_Postings.mono : ∀ a0 k, LeO (girolaw15_Postings.f k a0) (girolaw15_Postings.f (k + 1) a0) := by
 intro a0 k
 have ih0 := girolaw15_Postings.mono_l k
 unfold girolaw15_Postings.f
 repeat' first
   | (with_reducible exact ih0 _ _ _)
   | (with_reducible exact LeO.refl _)
   | (with_reducible exact LeO.none _)
   | (with_reducible refine LeO.ite ?_ ?_)
   | (with_reducible refine LeO.bind ?_ (fun _ => ?_))
   | exact ih0 _ _ _
   | exact LeO.none _
   | refine LeO.ite ?_ ?_
   | refine LeO.bind ?_ (fun _ => ?_)
def girolaw15_Postings.T5 : Bool × List (List Nat × List Nat) := (true, [([], []), ([], []), ([], []), ([1, 2], [1, 2]), ([3], [3]), ([4], [4]), ([5], [5]), ([], []), ([], []), ([7, 8], [7, 8]), ([9], [9]), ([10], [10]), ([6, 11], [6, 11]), ([12], [12]), ([0, 13, 6], [0, 13]), ([14, 14, 0, 1, 2, 3, 4, 5, 6, 7, 8, 9, 10, 11, 12, 13, 14], [0, 14])])
def girolaw15_Postings.B5 : List Nat := [0, 0, 0, 6, 14, 30, 62, 0, 0, 384, 896, 1920, 4094, 8190, 16383, 32767]
theorem girolaw15_Postings.tab5 : rtab .any (opsOf Tryd.f13 5) = girolaw15_Postings.T5 := by kernel_rfl
theorem girolaw15_Postings.bits5 : waitsOk girolaw15_Postings.T5.2 girolaw15_Postings.B5 = true := by kernel_rfl
set_option maxHeartbeats 8000000 in
set_option maxRecDepth 100000 in
theorem girolaw15_Postings.calls (k : Nat) (A0 : Option Addr) (c0 : Nat) (l0 : List (S68)) (r : List (S77)) (w : World) (hr0 : Kd.C k68 w A0 l0.length l0) (hc0 : l0.length ≤ c0) (h : girolaw15_Postings.f k l0 = some r) :
  Calls Tryd.prog 13 #[.slice A0 l0.length c0] w fun e w' => ∃ v0_ : Value, e = .returned (v0_) ∧ Kd.R k77 77 w' w.heap.size (fun _ => True) v0_ r ∧ Below w.heap.size w w' := by
 have hu66 := Tryd.underlying66
 have hu77 := Tryd.underlying77
 have HR0 := Aside0.mk hr0
 have HC0 := Aside0.mk hc0
 clear hr0 hc0
 have HB := Aside0.mk (Below.refl w.heap.size w)
 have H : (girolaw15_Postings.l0 k l0 ([] : List (S77)) 0) = some r := h
 clear h
 have H' := Aside0.mk H
 clear H
 go_enter Tryd.func13, Tryd.ntmps13
 go_wp2
 go_loopg [3, 4] k (fun kq v3 v4 w' => ∃ (x3_1 : List (S77)) (x4_1 : Int), v4 = .int .i64 x4_1 ∧ Aside0 (girolaw15_Postings.l0 kq l0 x3_1 x4_1 = some r) ∧ Aside0 (kq ≤ k) ∧ Aside0 (Kd.R k77 77 w' w.heap.size (fun _ => True) v3 x3_1) ∧ Aside0 (Below w.heap.size w w'))
 case atStart => exact ⟨(([] : List (S77))), (0), (by first | rfl | (simp; done) | (simp [*]; done)), H', ⟨Nat.le_refl _⟩, ⟨by first | exact Kd.R_nil _ _ _ _ _ | exact Kd.N_nil _ _ _ _ _ | exact Kd.V_nil _ _ _ _ _ | exact Kd.Q_nil _ _ _ _ _ | exact Kd.S_nil _ _ _ _ _⟩, ⟨by repeat (first | (with_reducible first | exact HB.out | apply below_alloc | apply pw_below_drewN | apply below_drew1) | exact HB.out)⟩⟩
 case round =>
  clear H'
  try clear c1
  obtain ⟨x3_1, x4_1, rfl, HA, HK1, HO_3, HB⟩ := hrel
  cases gk with
  | zero => exact absurd HA.out (by simp [girolaw15_Postings.l0])
  | succ k1 =>
   have H := HA.out
   clear HA
   simp only [girolaw15_Postings.l0] at H
   by_cases c2 : x4_1 < (l0.length : Int)
   ·rw [if_pos c2] at H
    have c2b0 : decide (x4_1 < (l0.length : Int)) = true := decide_eq_true c2
    clear c2
    by_cases c3 : 0 ≤ x4_1
    ·rw [if_pos c3] at H
     have c3b0 : decide (0 ≤ x4_1) = true := decide_eq_true c3
     clear c3
     replace H := Option.bind_eq_some_iff.mp H
     obtain ⟨⟨t106, t107, t108⟩, A40, H⟩ := H
     replace H : (if x3_1.length < 2932031007402 then (girolaw15_Postings.l0 k1 l0 (x3_1 ++ [(⟨(⟨t106, t107, t108⟩ : S75), (rd_T68 l0 x4_1).f1⟩ : S77)]) (wrap64 (x4_1 + 1))) else (none)) = some r := H
     have A4 := Aside0.mk A40
     clear A40
     by_cases c5 : x3_1.length < 2932031007402
     ·rw [if_pos c5] at H
      have LMc5 := Aside0.mk c5
      clear c5
      obtain ⟨y110, hy110⟩ : ∃ y_ : List (S77), y_ = (x3_1 ++ [(⟨(⟨t106, t107, t108⟩ : S75), (rd_T68 l0 x4_1).f1⟩ : S77)]) := ⟨_, rfl⟩
      replace H : (girolaw15_Postings.l0 k1 l0 y110 (wrap64 (x4_1 + 1))) = some r := by first | (rw [hy110]; with_reducible exact H) | (have H2_ := (Option.bind_some _ _).symm.trans H; rw [hy110]; with_reducible exact H2_) | (have H2_ := (Option.bind_some _ _).symm.trans H; with_reducible exact H2_) | with_reducible exact H | (rw [hy110]; exact H) | exact H
      have Ny110 := Aside0.mk hy110
      clear hy110
      have H' := Aside0.mk H
      clear H
      try go_wp2
      have n0_ := Aside0.mk (Kd.R_drew HO_3.out)
      have n1_ := Aside0.mk (below_drew1 HB.out)
      clear HO_3
      clear HB
      have HO_3 := n0_
      have HB := n1_
      clear n0_ n1_
      have p105 : 0 ≤ (x4_1 : Int) := of_decide_eq_true (by first | (with_reducible assumption) | assumption)
      have q105 : x4_1 < (l0.length : Int) := of_decide_eq_true (by first | (with_reducible assumption) | assumption)
      obtain ⟨ad105, e105, hx105_0, hx105_1, hx105_2, hx105_3⟩ := at_T68 HR0.out x4_1 p105 q105
      have hw105_3 := hx105_3
      have hw105_2 := hx105_2
      have hw105_1 := hx105_1
      have hw105_0 := hx105_0
      cases e105
      replace hx105_0 := (HB.out.cell (World.block_lt_of_cell? w _ hx105_0)).trans hx105_0
      replace hx105_1 := (HB.out.cell (World.block_lt_of_cell? w _ hx105_1)).trans hx105_1
      replace hx105_2 := (HB.out.cell (World.block_lt_of_cell? w _ hx105_2)).trans hx105_2
      replace hx105_3 := (HB.out.cell (World.block_lt_of_cell? w _ hx105_3)).trans hx105_3
      replace p105 := eq_true p105
      replace q105 := eq_true q105
      have p109 : 0 ≤ (x4_1 : Int) := of_decide_eq_true (by first | (with_reducible assumption) | assumption)
      have q109 : x4_1 < (l0.length : Int) := of_decide_eq_true (by first | (with_reducible assumption) | assumption)
      obtain ⟨ad109, e109, hx109_0, hx109_1, hx109_2, hx109_3⟩ := at_T68 HR0.out x4_1 p109 q109
      have hw109_3 := hx109_3
      have hw109_2 := hx109_2
      have hw109_1 := hx109_1
      have hw109_0 := hx109_0
      obtain rfl : ad105 = ad109 := (by injection e109)
      replace hx109_0 := (HB.out.cell (World.block_lt_of_cell? w _ hx109_0)).trans hx109_0
      replace hx109_1 := (HB.out.cell (World.block_lt_of_cell? w _ hx109_1)).trans hx109_1
      replace hx109_2 := (HB.out.cell (World.block_lt_of_cell? w _ hx109_2)).trans hx109_2
      replace hx109_3 := (HB.out.cell (World.block_lt_of_cell? w _ hx109_3)).trans hx109_3
      replace p109 := eq_true p109
      replace q109 := eq_true q109
      refine start_ (n := 16) (S := fun w' => w'.cell? (ad105.add ((x4_1).toNat * 4)) = some (.string ((rd_T68 l0 x4_1).f0.f0)) ∧ w'.cell? ⟨(ad105.add ((x4_1).toNat * 4)).block, (ad105.add ((x4_1).toNat * 4)).off + 1, none⟩ = some (.int .i64 ((rd_T68 l0 x4_1).f0.f1)) ∧ w'.cell? ⟨(ad105.add ((x4_1).toNat * 4)).block, (ad105.add ((x4_1).toNat * 4)).off + 2, none⟩ = some (.string ((rd_T68 l0 x4_1).f0.f2)) ∧ w'.cell? ⟨(ad105.add ((x4_1).toNat * 4)).block, (ad105.add ((x4_1).toNat * 4)).off + 3, none⟩ = some (.int .i64 ((rd_T68 l0 x4_1).f1)) ∧ w'.cell? (ad105.add ((x4_1).toNat * 4)) = some (.string ((rd_T68 l0 x4_1).f0.f0)) ∧ w'.cell? ⟨(ad105.add ((x4_1).toNat * 4)).block, (ad105.add ((x4_1).toNat * 4)).off + 1, none⟩ = some (.int .i64 ((rd_T68 l0 x4_1).f0.f1)) ∧ w'.cell? ⟨(ad105.add ((x4_1).toNat * 4)).block, (ad105.add ((x4_1).toNat * 4)).off + 2, none⟩ = some (.string ((rd_T68 l0 x4_1).f0.f2)) ∧ w'.cell? ⟨(ad105.add ((x4_1).toNat * 4)).block, (ad105.add ((x4_1).toNat * 4)).off + 3, none⟩ = some (.int .i64 ((rd_T68 l0 x4_1).f1))) (ds := []) #[false, false, false, false, false, false, false, false, false, false, false, false, false, false, false, false] (by kernel_rfl) rfl rfl ⟨((HB.out.cell (World.block_lt_of_cell? w _ hw105_0)).trans hw105_0), ((HB.out.cell (World.block_lt_of_cell? w _ hw105_1)).trans hw105_1), ((HB.out.cell (World.block_lt_of_cell? w _ hw105_2)).trans hw105_2), ((HB.out.cell (World.block_lt_of_cell? w _ hw105_3)).trans hw105_3), ((HB.out.cell (World.block_lt_of_cell? w _ hw109_0)).trans hw109_0), ((HB.out.cell (World.block_lt_of_cell? w _ hw109_1)).trans hw109_1), ((HB.out.cell (World.block_lt_of_cell? w _ hw109_2)).trans hw109_2), ((HB.out.cell (World.block_lt_of_cell? w _ hw109_3)).trans hw109_3)⟩ (fun hHeld => ?_); refine with_tabW girolaw15_Postings.tab5 girolaw15_Postings.bits5 (fun HT_ HW_ => ?_)
      generalize wr.drew = w6 at HO_3 HB hx105_0 hx105_1 hx105_2 hx105_3 hx109_0 hx109_1 hx109_2 hx109_3 hHeld ⊢
      refine pure_ (i := 0) (N := some 11) (v := ?_) (a' := ?_) #[true, false, false, false, false, false, false, false, false, false, false, false, false, false, false, false] rfl rfl (any_of HT_.out (by kernel_rfl)) (fun _ _ _ h => h) (Or.inl ⟨by rfl, ?_⟩) ?_ ?_
      rotate_left
      ·intro w'
       go_simp
       with_reducible rfl
      rotate_left
      ·simp only [Act.put, List.setIfInBounds_toArray, List.set_cons_zero, List.set_cons_succ, i64_w, i32_w]
       rfl
      refine pure_ (i := 1) (N := some 12) (v := ?_) (a' := ?_) #[true, true, false, false, false, false, false, false, false, false, false, false, false, false, false, false] rfl rfl (any_of HT_.out (by kernel_rfl)) (fun _ _ _ h => h) (Or.inl ⟨by rfl, ?_⟩) ?_ ?_
      rotate_left
      ·intro w'
       go_simp
       with_reducible rfl
      rotate_left
      ·simp only [Act.put, List.setIfInBounds_toArray, List.set_cons_zero, List.set_cons_succ, i64_w, i32_w]
       rfl
      refine pure_ (i := 2) (N := some 13) (v := ?_) (a' := ?_) #[true, true, true, false, false, false, false, false, false, false, false, false, false, false, false, false] rfl rfl (any_of HT_.out (by kernel_rfl)) (fun _ _ _ h => h) (Or.inl ⟨by rfl, ?_⟩) ?_ ?_
      rotate_left
      ·intro w'
       go_simp
       with_reducible rfl
      rotate_left
      ·simp only [Act.put, List.setIfInBounds_toArray, List.set_cons_zero, List.set_cons_succ, i64_w, i32_w]
       rfl
      refine pure_ (i := 3) (N := some 14) (v := ?_) (a' := ?_) #[true, true, true, true, false, false, false, false, false, false, false, false, false, false, false, false] rfl rfl (any_of HT_.out (by kernel_rfl)) (fun _ _ _ h => h) (Or.inl ⟨by rfl, ?_⟩) ?_ ?_
      rotate_left
      ·intro w'
       go_simp
       with_reducible rfl
      rotate_left
      ·simp only [Act.put, List.setIfInBounds_toArray, List.set_cons_zero, List.set_cons_succ, i64_w, i32_w]
       rfl
      refine pure_ (i := 4) (N := some 15) (v := ?_) (a' := ?_) #[true, true, true, true, true, false, false, false, false, false, false, false, false, false, false, false] rfl rfl (any_of HT_.out (by kernel_rfl)) (fun _ _ _ h => h) (Or.inl ⟨by rfl, ?_⟩) ?_ ?_
      rotate_left
      ·intro w'
       go_simp
       with_reducible rfl
      rotate_left
      ·simp only [Act.put, List.setIfInBounds_toArray, List.set_cons_zero, List.set_cons_succ, i64_w, i32_w]
       rfl
      refine pure_ (i := 7) (N := some 18) (v := ?_) (a' := ?_) #[true, true, true, true, true, false, false, true, false, false, false, false, false, false, false, false] rfl rfl (any_of HT_.out (by kernel_rfl)) (fun _ _ _ h => h) (Or.inl ⟨by rfl, ?_⟩) ?_ ?_
      rotate_left
      ·intro w'
       go_simp
       with_reducible rfl
      rotate_left
      ·simp only [Act.put, List.setIfInBounds_toArray, List.set_cons_zero, List.set_cons_succ, i64_w, i32_w]
       rfl
      refine pure_ (i := 8) (N := some 19) (v := ?_) (a' := ?_) #[true, true, true, true, true, false, false, true, true, false, false, false, false, false, false, false] rfl rfl (any_of HT_.out (by kernel_rfl)) (fun _ _ _ h => h) (Or.inl ⟨by rfl, ?_⟩) ?_ ?_
      rotate_left
      ·intro w'
       go_simp
       with_reducible rfl
      rotate_left
      ·simp only [Act.put, List.setIfInBounds_toArray, List.set_cons_zero, List.set_cons_succ, i64_w, i32_w]
       rfl
      refine pure_ (i := 9) (N := some 20) (v := ?_) (a' := ?_) #[true, true, true, true, true, false, false, true, true, true, false, false, false, false, false, false] rfl rfl (any_of HT_.out (by kernel_rfl)) (fun _ _ _ h => h) (Or.inl ⟨by rfl, ?_⟩) ?_ ?_
      rotate_left
      ·intro w'
       go_simp
       with_reducible rfl
      rotate_left
      ·simp only [Act.put, List.setIfInBounds_toArray, List.set_cons_zero, List.set_cons_succ, i64_w, i32_w]
       rfl
      refine pure_ (i := 10) (N := some 21) (v := ?_) (a' := ?_) #[true, true, true, true, true, false, false, true, true, true, true, false, false, false, false, false] rfl rfl (any_of HT_.out (by kernel_rfl)) (fun _ _ _ h => h) (Or.inl ⟨by rfl, ?_⟩) ?_ ?_
      rotate_left
      ·intro w'
       go_simp
       with_reducible rfl
      rotate_left
      ·simp only [Act.put, List.setIfInBounds_toArray, List.set_cons_zero, List.set_cons_succ, i64_w, i32_w]
       rfl
      refine take_ (i := 5) (N := some 16) (v := ?_) (a' := ?_) #[true, true, true, true, true, true, false, true, true, true, true, false, false, false, false, false] rfl rfl (take_ofW HT_.out HW_.out (by kernel_rfl)) (fun _ _ _ h => h) (Or.inl ⟨by rfl, ?_⟩) hHeld ?_ ?_
      rotate_left
      ·rintro w' ⟨s0, s1, s2, s3, s4, s5, s6, s7⟩
       go_simp
       with_reducible rfl
      rotate_left
      ·simp only [Act.put, List.setIfInBounds_toArray, List.set_cons_zero, List.set_cons_succ, i64_w, i32_w]
       rfl
      refine take_ (i := 11) (N := some 22) (v := ?_) (a' := ?_) #[true, true, true, true, true, true, false, true, true, true, true, true, false, false, false, false] rfl rfl (take_ofW HT_.out HW_.out (by kernel_rfl)) (fun _ _ _ h => h) (Or.inl ⟨by rfl, ?_⟩) hHeld ?_ ?_
      rotate_left
      ·rintro w' ⟨s0, s1, s2, s3, s4, s5, s6, s7⟩
       go_simp
       with_reducible rfl
      rotate_left
      ·simp only [Act.put, List.setIfInBounds_toArray, List.set_cons_zero, List.set_cons_succ, i64_w, i32_w]
       rfl
      refine one_ (i := 6) (N := some 17) #[true, true, true, true, true, true, true, true, true, true, true, true, false, false, false, false] rfl rfl (one_of HT_.out (by kernel_rfl)) (by decide) (fun K hK => ?_)
      refine goes_ Tryd.func31 (by kernel_rfl) rfl #[.agg #[.string ((rd_T68 l0 x4_1).f0.f0), .int .i64 ((rd_T68 l0 x4_1).f0.f1), .string ((rd_T68 l0 x4_1).f0.f2)]] (by rfl) rfl rfl (by (try simp only [List.map_toArray, List.map_cons, List.map_nil]); first | done | rfl | (simp only [List.length_drop, List.length_take]; rfl)) ?_
      with_reducible refine (girolaw15_To.calls ((rd_T68 l0 x4_1).f0.f0) ((rd_T68 l0 x4_1).f0.f1) ((rd_T68 l0 x4_1).f0.f2) t106 t107 t108 _ A4.out).mono ?_
      rintro e w7 ⟨rfl, hb⟩
      refine ⟨_, rfl, ?_⟩
      have n0_ := Aside0.mk (Kd.R_below (by (with_reducible repeat (first | apply Kd.R_alloc | apply Kd.R_drewN | apply Kd.R_drew)); exact HO_3.out) hb)
      have n1_ := Aside0.mk (below_step (by repeat (first | (with_reducible first | exact HB.out | apply below_alloc | apply pw_below_drewN | apply below_drew1) | exact HB.out)) hb)
      clear HO_3
      clear HB
      have HO_3 := n0_
      have HB := n1_
      clear n0_ n1_
      (try clear hb)
      (try clear hb2)
      (try clear hk)
      (try clear hi)
      refine hK.out _ _ ⟨((HB.out.cell (World.block_lt_of_cell? w _ hw105_0)).trans hw105_0), ((HB.out.cell (World.block_lt_of_cell? w _ hw105_1)).trans hw105_1), ((HB.out.cell (World.block_lt_of_cell? w _ hw105_2)).trans hw105_2), ((HB.out.cell (World.block_lt_of_cell? w _ hw105_3)).trans hw105_3), ((HB.out.cell (World.block_lt_of_cell? w _ hw109_0)).trans hw109_0), ((HB.out.cell (World.block_lt_of_cell? w _ hw109_1)).trans hw109_1), ((HB.out.cell (World.block_lt_of_cell? w _ hw109_2)).trans hw109_2), ((HB.out.cell (World.block_lt_of_cell? w _ hw109_3)).trans hw109_3)⟩ (fun hHeld => ?_)
      clear hK K
      refine norm_ (a' := ?_) ?_ ?_
      rotate_left
      ·show Act.put _ (some 17) _ = _
       simp only [Act.put, List.setIfInBounds_toArray, List.set_cons_zero, List.set_cons_succ, i64_w, i32_w]
       rfl
      refine pure_ (i := 12) (N := some 23) (v := ?_) (a' := ?_) #[true, true, true, true, true, true, true, true, true, true, true, true, true, false, false, false] rfl rfl (any_of HT_.out (by kernel_rfl)) (fun _ _ _ h => h) (Or.inl ⟨by rfl, ?_⟩) ?_ ?_
      rotate_left
      ·intro w'
       go_simp
       with_reducible rfl
      rotate_left
      ·simp only [Act.put, List.setIfInBounds_toArray, List.set_cons_zero, List.set_cons_succ, i64_w, i32_w]
       rfl
      refine one_ (i := 13) (N := some 24) #[true, true, true, true, true, true, true, true, true, true, true, true, true, true, false, false] rfl rfl (one_of HT_.out (by kernel_rfl)) (by decide) (fun K hK => ?_)
      refine value_ (w1 := ?_) (v := ?_) (by rfl) rfl ?_ ?_
      rotate_left 2
      ·go_simp
       constructor
       ·rfl
       ·rfl
      refine hK.out _ _ ⟨(World.cell?_alloc_lt _ _ _ (World.block_lt_of_cell? _ _ (((HB.out.cell (World.block_lt_of_cell? w _ hw105_0)).trans hw105_0)))).trans (((HB.out.cell (World.block_lt_of_cell? w _ hw105_0)).trans hw105_0)), (World.cell?_alloc_lt _ _ _ (World.block_lt_of_cell? _ _ (((HB.out.cell (World.block_lt_of_cell? w _ hw105_1)).trans hw105_1)))).trans (((HB.out.cell (World.block_lt_of_cell? w _ hw105_1)).trans hw105_1)), (World.cell?_alloc_lt _ _ _ (World.block_lt_of_cell? _ _ (((HB.out.cell (World.block_lt_of_cell? w _ hw105_2)).trans hw105_2)))).trans (((HB.out.cell (World.block_lt_of_cell? w _ hw105_2)).trans hw105_2)), (World.cell?_alloc_lt _ _ _ (World.block_lt_of_cell? _ _ (((HB.out.cell (World.block_lt_of_cell? w _ hw105_3)).trans hw105_3)))).trans (((HB.out.cell (World.block_lt_of_cell? w _ hw105_3)).trans hw105_3)), (World.cell?_alloc_lt _ _ _ (World.block_lt_of_cell? _ _ (((HB.out.cell (World.block_lt_of_cell? w _ hw109_0)).trans hw109_0)))).trans (((HB.out.cell (World.block_lt_of_cell? w _ hw109_0)).trans hw109_0)), (World.cell?_alloc_lt _ _ _ (World.block_lt_of_cell? _ _ (((HB.out.cell (World.block_lt_of_cell? w _ hw109_1)).trans hw109_1)))).trans (((HB.out.cell (World.block_lt_of_cell? w _ hw109_1)).trans hw109_1)), (World.cell?_alloc_lt _ _ _ (World.block_lt_of_cell? _ _ (((HB.out.cell (World.block_lt_of_cell? w _ hw109_2)).trans hw109_2)))).trans (((HB.out.cell (World.block_lt_of_cell? w _ hw109_2)).trans hw109_2)), (World.cell?_alloc_lt _ _ _ (World.block_lt_of_cell? _ _ (((HB.out.cell (World.block_lt_of_cell? w _ hw109_3)).trans hw109_3)))).trans (((HB.out.cell (World.block_lt_of_cell? w _ hw109_3)).trans hw109_3))⟩ (fun hHeld => ?_)
      clear hK K
      refine norm_ (a' := ?_) ?_ ?_
      rotate_left
      ·show Act.put _ (some 24) _ = _
       simp only [Act.put, List.setIfInBounds_toArray, List.set_cons_zero, List.set_cons_succ, i64_w, i32_w]
       rfl
      refine one_ (i := 14) (N := some 25) #[true, true, true, true, true, true, true, true, true, true, true, true, true, true, true, false] rfl rfl (one_of HT_.out (by kernel_rfl)) (by decide) (fun K hK => ?_)
      refine Kd.R_append_step k77 (w0 := w) w.heap.size (by rfl) (.tmp 11) (.tmp 24) 34 77 (.agg #[(.string ⟨#[]⟩), (.int .i64 0), (.string ⟨#[]⟩), (.int .i64 0)]) 48 rfl Tryd.underlying34 info77 rfl (by decide) (by omega) u3 x3_1 (⟨(⟨t106, t107, t108⟩ : S75), (rd_T68 l0 x4_1).f1⟩ : S77) [.string t106, .int .i64 t107, .string t108, .int .i64 ((rd_T68 l0 x4_1).f1)] (fun _ => True) (fun _ => False) rfl rfl ?aP (fun _ hk => hk.elim) ?aF ?aO ?aB ?aS ?aL ?_
      (case aP => exact k77_mkM _ _ _ (⟨(⟨t106, t107, t108⟩ : S75), (rd_T68 l0 x4_1).f1⟩ : S77))
      (case aB => exact (by repeat (first | (with_reducible first | exact HB.out | apply below_alloc | apply pw_below_drewN | apply below_drew1) | exact HB.out)))
      (case aF => exact (fun _ _ => trivial))
      (case aO => exact (by (with_reducible repeat (first | apply Kd.R_alloc | apply Kd.R_drewN | apply Kd.R_drew)); exact HO_3.out))
      (case aS => exact (below_size (by repeat (first | (with_reducible first | exact HB.out | apply below_alloc | apply pw_below_drewN | apply below_drew1) | exact HB.out))))
      (case aL => have := LMc5.out; omega)
      intro v111 w8 ho hb hg hat
      rw [← Ny110.out] at ho
      have n0_ := Aside0.mk (hb)
      have n1_ := Aside0.mk (ho)
      clear HB
      clear HO_3
      have HB := n0_
      have HO112 := n1_
      clear n0_ n1_
      clear ho hb hg hat
      refine hK.out _ _ ⟨((HB.out.cell (World.block_lt_of_cell? w _ hw105_0)).trans hw105_0), ((HB.out.cell (World.block_lt_of_cell? w _ hw105_1)).trans hw105_1), ((HB.out.cell (World.block_lt_of_cell? w _ hw105_2)).trans hw105_2), ((HB.out.cell (World.block_lt_of_cell? w _ hw105_3)).trans hw105_3), ((HB.out.cell (World.block_lt_of_cell? w _ hw109_0)).trans hw109_0), ((HB.out.cell (World.block_lt_of_cell? w _ hw109_1)).trans hw109_1), ((HB.out.cell (World.block_lt_of_cell? w _ hw109_2)).trans hw109_2), ((HB.out.cell (World.block_lt_of_cell? w _ hw109_3)).trans hw109_3)⟩ (fun hHeld => ?_)
      clear hK K
      refine norm_ (a' := ?_) ?_ ?_
      rotate_left
      ·show Act.put _ (some 25) _ = _
       simp only [Act.put, List.setIfInBounds_toArray, List.set_cons_zero, List.set_cons_succ, i64_w, i32_w]
       rfl
      refine pure_ (i := 15) (N := some 3) (v := ?_) (a' := ?_) #[true, true, true, true, true, true, true, true, true, true, true, true, true, true, true, true] rfl rfl (any_of HT_.out (by kernel_rfl)) (fun _ _ _ h => h) (Or.inl ⟨by rfl, ?_⟩) ?_ ?_
      rotate_left
      ·intro w'
       go_simp
       with_reducible rfl
      rotate_left
      ·simp only [Act.put, List.setIfInBounds_toArray, List.set_cons_zero, List.set_cons_succ, i64_w, i32_w]
       rfl
      refine done_ (done_of HT_.out (by kernel_rfl)) ?_
      try go_wp2
      go_roundg k1
      case measure => have := HK1.out; omega
      case rel => exact ⟨(y110), (wrap64 (x4_1 + 1)), (by first | rfl | (simp; done) | (simp [*]; done)), H', ⟨by have := HK1.out; omega⟩, ⟨by (with_reducible repeat (first | apply Kd.R_alloc | apply Kd.R_drewN | apply Kd.R_drew)); exact HO112.out⟩, ⟨by repeat (first | (with_reducible first | exact HB.out | apply below_alloc | apply pw_below_drewN | apply below_drew1) | exact HB.out)⟩⟩
     ·rw [if_neg c5] at H
      exact absurd H (by simp)
    ·rw [if_neg c3] at H
     exact absurd H (by simp)
   ·rw [if_neg c2] at H
    have c2b0 : decide (x4_1 < (l0.length : Int)) = false := decide_eq_false c2
    clear c2
    obtain rfl := Option.some.inj H
    go_wp2
    go_ret
    exact ⟨_, by first | rfl | (simp [errW_none, errW_some] <;> rfl) | (simp [*, errW_none, errW_some] <;> rfl), by (with_reducible repeat (first | apply Kd.R_alloc | apply Kd.R_drewN | apply Kd.R_drew)); exact HO_3.out, by repeat (first | (with_reducible first | exact HB.out | apply below_alloc | apply pw_below_drewN | apply below_drew1) | exact HB.out)⟩
end Go.Proofs.YtpclapnmiacfpaaDoor.Q
end
section
namespace Go.Proofs.YtpclapnmiacfpaaDoor.Q
open Go.RowKit Go.Proofs.YtpclapnmiacfpaaDoorW.PrintWords Go.Proofs.YtpclapnmiacfpaaDoorW.PrintLast Go.Proofs.YtpclapnmiacfpaaDoorW.PrintMore
attribute [local go_sem] max2_int min2_int max_two min_two max_three min_three max_four min_four
set_option linter.unusedVariables false
set_option linter.unusedSimpArgs false
theorem eqA75 (d : Nat) (w : World) (x0 y0 : ByteArray) (x1 y1 : Int) (x2 y2 : ByteArray) :
  (Op.equalIn (d + 2) 75 (.agg #[.string x0, .int .i64 x1, .string x2]) (.agg #[.string y0, .int .i64 y1, .string y2])).run Tryd.prog w = .ok (x0.toList == y0.toList && (x1 == y1 && (x2.toList == y2.toList))) w := by
 refine eqA_of Tryd.underlying75 (by kernel_rfl) ?_
 refine eqf_cons (by rfl) (by go_simp; rfl) (by go_simp; rfl) (by go_simp) ?_
 refine eqf_cons (by rfl) (by go_simp; rfl) (by go_simp; rfl) (by go_simp) ?_
 exact eqf_last (by rfl) (by go_simp; rfl) (by go_simp; rfl) (by go_simp)
theorem eqA77 (d : Nat) (w : World) (x0 y0 : ByteArray) (x1 y1 : Int) (x2 y2 : ByteArray) (x3 y3 : Int) :
  (Op.equalIn (d + 3) 77 (.agg #[.string x0, .int .i64 x1, .string x2, .int .i64 x3]) (.agg #[.string y0, .int .i64 y1, .string y2, .int .i64 y3])).run Tryd.prog w = .ok ((x0.toList == y0.toList && (x1 == y1 && (x2.toList == y2.toList))) && (x3 == y3)) w := by
 refine eqA_of Tryd.underlying77 (by kernel_rfl) ?_
 refine eqf_cons (by rfl) (by go_simp) (by go_simp) (eqA75 (d + 0) w _ _ _ _ _ _) ?_
 exact eqf_last (by rfl) (by go_simp; rfl) (by go_simp; rfl) (by go_simp)
end Go.Proofs.YtpclapnmiacfpaaDoor.Q
end
section
namespace Go.Proofs.YtpclapnmiacfpaaDoor.Q
open Go.RowKit Go.Proofs.YtpclapnmiacfpaaDoorW.PrintWords Go.Proofs.YtpclapnmiacfpaaDoorW.PrintLast Go.Proofs.YtpclapnmiacfpaaDoorW.PrintMore
attribute [local go_sem] max2_int min2_int max_two min_two max_three min_three max_four min_four
set_option linter.unusedVariables false
set_option linter.unusedSimpArgs false
attribute [local go_sem high] eqA77
def girolaw39_same.l0 : Nat → List (S77) → List (S77) → Int → Option (Bool)
 | 0, _, _, _ => none
 | k + 1, x0, x1, x5 => if x5 < (x0.length : Int) then (if 0 ≤ x5 then (if x5 < (x1.length : Int) then (if ((!((((rd_T77 x0 x5).f0.f0).toList) == (((rd_T77 x1 x5).f0.f0).toList)) || (!(((rd_T77 x0 x5).f0.f1) == ((rd_T77 x1 x5).f0.f1)) || (!((((rd_T77 x0 x5).f0.f2).toList) == (((rd_T77 x1 x5).f0.f2).toList))))) || (!(((rd_T77 x0 x5).f1) == ((rd_T77 x1 x5).f1)))) = true then (some false) else (girolaw39_same.l0 k x0 x1 (wrap64 (x5 + 1)))) else (none)) else (none)) else (some true)
def girolaw39_same.f (k : Nat) (l0 : List (S77)) (l1 : List (S77)) : Option (Bool) := if (l0.length : Int) = (l1.length : Int) then (girolaw39_same.l0 k l0 l1 0) else (some false)
theorem girolaw39_same.mono_l : ∀ k, (∀ y0 y1 y2, LeO (girolaw39_same.l0 k y0 y1 y2) (girolaw39_same.l0 (k + 1) y0 y1 y2))
 | 0 => fun _ _ _ r h => by simp [girolaw39_same.l0] at h
 | k + 1 => by
  have ih0 := girolaw39_same.mono_l k
  ·intro y0 y1 y2
   unfold girolaw39_same.l0
   repeat' first
   | (with_reducible exact ih0 _ _ _)
   | (with_reducible exact LeO.refl _)
   | (with_reducible exact LeO.none _)
   | (with_reducible refine LeO.ite ?_ ?_)
   | (with_reducible refine LeO.bind ?_ (fun _ => ?_))
   | exact ih0 _ _ _
   | exact LeO.none _
   | refine LeO.ite ?_ ?_
   | refine LeO.bind ?_ (fun _ => ?_)
theorem girolaw39_same.mono : ∀ a0 a1 k, LeO (girolaw39_same.f k a0 a1) (girolaw39_same.f (k + 1) a0 a1) := by
 intro a0 a1 k
 have ih0 := girolaw39_same.mono_l k
 unfold girolaw39_same.f
 repeat' first
   | (with_reducible exact ih0 _ _ _)
   | (with_reducible exact LeO.refl _)
   | (with_reducible exact LeO.none _)
   | (with_reducible refine LeO.ite ?_ ?_)
   | (with_reducible refine LeO.bind ?_ (fun _ => ?_))
   | exact ih0 _ _ _
   | exact LeO.none _
   | refine LeO.ite ?_ ?_
   | refine LeO.bind ?_ (fun _ => ?_)
set_option maxHeartbeats 8000000 in
set_option maxRecDepth 100000 in
theorem girolaw39_same.calls (k : Nat) (A0 : Option Addr) (c0 : Nat) (l0 : List (S77)) (A1 : Option Addr) (c1 : Nat) (l1 : List (S77)) (r : Bool) (w : World) (hr0 : Kd.C k77 w A0 l0.length l0) (hc0 : l0.length ≤ c0) (hr1 : Kd.C k77 w A1 l1.length l1) (hc1 : l1.length ≤ c1) (h : girolaw39_same.f k l0 l1 = some r) :
  Calls Tryd.prog 12 #[.slice A0 l0.length c0, .slice A1 l1.length c1] w fun e w' => e = .returned (.bool r) ∧ Drawn0 w w' := by
 have hu77 := Tryd.underlying77
 have HR0 := Aside0.mk hr0
 have HC0 := Aside0.mk hc0
 clear hr0 hc0
 have HR1 := Aside0.mk hr1
 have HC1 := Aside0.mk hc1
 clear hr1 hc1
 have H : (if (l0.length : Int) = (l1.length : Int) then (girolaw39_same.l0 k l0 l1 0) else (some false)) = some r := h
 clear h
 by_cases c3 : (l0.length : Int) = (l1.length : Int)
 ·rw [if_pos c3] at H
  have c3b0 : ((l0.length : Int) == (l1.length : Int)) = true := beq_iff_eq.mpr c3
  have c3b1 : ((l0.length : Int) != (l1.length : Int)) = false := bne_eq_false_iff_eq.mpr c3
  have c3b2 : (l0.length == l1.length) = true := by first | simpa using c3 | (simp at c3 ⊢; omega)
  clear c3
  have H' := Aside0.mk H
  clear H
  go_enter Tryd.func12, Tryd.ntmps12
  go_wp2
  repeat (go_quiet (fail); try go_wp2)
  go_loopg [5] k (fun kq v5 w' => ∃ (x5_1 : Int), v5 = .int .i64 x5_1 ∧ Aside0 (girolaw39_same.l0 kq l0 l1 x5_1 = some r) ∧ Aside0 (kq ≤ k) ∧ Drawn0 w w')
  case atStart => exact ⟨(0), (by first | rfl | (simp; done) | (simp [*]; done)), H', ⟨Nat.le_refl _⟩, by repeat (first | exact Drawn0.refl _ | apply Drawn0.step)⟩
  case round =>
   clear H'
   try clear c1
   try clear p2
   try clear c3
   try clear c3b0
   try clear c3b1
   try clear c3b2
   obtain ⟨x5_1, rfl, HA, HK1, ⟨m1, rfl⟩⟩ := hrel
   cases gk with
   | zero => exact absurd HA.out (by simp [girolaw39_same.l0])
   | succ k1 =>
    have H := HA.out
    clear HA
    simp only [girolaw39_same.l0] at H
    by_cases c4 : x5_1 < (l0.length : Int)
    ·rw [if_pos c4] at H
     have c4b0 : decide (x5_1 < (l0.length : Int)) = true := decide_eq_true c4
     clear c4
     by_cases c5 : 0 ≤ x5_1
     ·rw [if_pos c5] at H
      have c5b0 : decide (0 ≤ x5_1) = true := decide_eq_true c5
      clear c5
      by_cases c6 : x5_1 < (l1.length : Int)
      ·rw [if_pos c6] at H
       have c6b0 : decide (x5_1 < (l1.length : Int)) = true := decide_eq_true c6
       clear c6
       by_cases c7 : ((!((((rd_T77 l0 x5_1).f0.f0).toList) == (((rd_T77 l1 x5_1).f0.f0).toList)) || (!(((rd_T77 l0 x5_1).f0.f1) == ((rd_T77 l1 x5_1).f0.f1)) || (!((((rd_T77 l0 x5_1).f0.f2).toList) == (((rd_T77 l1 x5_1).f0.f2).toList))))) || (!(((rd_T77 l0 x5_1).f1) == ((rd_T77 l1 x5_1).f1)))) = true
       ·rw [if_pos c7] at H
        have c7b0 : ((!((((rd_T77 l0 x5_1).f0.f0).toList) == (((rd_T77 l1 x5_1).f0.f0).toList)) || (!(((rd_T77 l0 x5_1).f0.f1) == ((rd_T77 l1 x5_1).f0.f1)) || (!((((rd_T77 l0 x5_1).f0.f2).toList) == (((rd_T77 l1 x5_1).f0.f2).toList))))) || (!(((rd_T77 l0 x5_1).f1) == ((rd_T77 l1 x5_1).f1)))) = true := c7
        clear c7
        obtain rfl := Option.some.inj H
        have p101 : 0 ≤ (x5_1 : Int) := of_decide_eq_true (by first | (with_reducible assumption) | assumption)
        have q101 : x5_1 < (l0.length : Int) := of_decide_eq_true (by first | (with_reducible assumption) | assumption)
        obtain ⟨ad101, e101, hx101_0, hx101_1, hx101_2, hx101_3⟩ := at_T77 HR0.out x5_1 p101 q101
        cases e101
        replace p101 := eq_true p101
        replace q101 := eq_true q101
        have p102 : 0 ≤ (x5_1 : Int) := of_decide_eq_true (by first | (with_reducible assumption) | assumption)
        have q102 : x5_1 < (l1.length : Int) := of_decide_eq_true (by first | (with_reducible assumption) | assumption)
        obtain ⟨ad102, e102, hx102_0, hx102_1, hx102_2, hx102_3⟩ := at_T77 HR1.out x5_1 p102 q102
        cases e102
        replace p102 := eq_true p102
        replace q102 := eq_true q102
        go_wp2
        repeat (go_quiet (fail); try go_wp2)
        go_ret
        exact ⟨by first | rfl | (simp; done) | (simp [*]; done), by repeat (first | exact Drawn0.refl _ | apply Drawn0.step)⟩
       ·rw [if_neg c7] at H
        have c7b0 : ((!((((rd_T77 l0 x5_1).f0.f0).toList) == (((rd_T77 l1 x5_1).f0.f0).toList)) || (!(((rd_T77 l0 x5_1).f0.f1) == ((rd_T77 l1 x5_1).f0.f1)) || (!((((rd_T77 l0 x5_1).f0.f2).toList) == (((rd_T77 l1 x5_1).f0.f2).toList))))) || (!(((rd_T77 l0 x5_1).f1) == ((rd_T77 l1 x5_1).f1)))) = false := by simpa using c7
        clear c7
        have H' := Aside0.mk H
        clear H
        have p101 : 0 ≤ (x5_1 : Int) := of_decide_eq_true (by first | (with_reducible assumption) | assumption)
        have q101 : x5_1 < (l0.length : Int) := of_decide_eq_true (by first | (with_reducible assumption) | assumption)
        obtain ⟨ad101, e101, hx101_0, hx101_1, hx101_2, hx101_3⟩ := at_T77 HR0.out x5_1 p101 q101
        cases e101
        replace p101 := eq_true p101
        replace q101 := eq_true q101
        have p102 : 0 ≤ (x5_1 : Int) := of_decide_eq_true (by first | (with_reducible assumption) | assumption)
        have q102 : x5_1 < (l1.length : Int) := of_decide_eq_true (by first | (with_reducible assumption) | assumption)
        obtain ⟨ad102, e102, hx102_0, hx102_1, hx102_2, hx102_3⟩ := at_T77 HR1.out x5_1 p102 q102
        cases e102
        replace p102 := eq_true p102
        replace q102 := eq_true q102
        go_wp2
        repeat (go_quiet (fail); try go_wp2)
        go_roundg k1
        case measure => have := HK1.out; omega
        case rel => exact ⟨(wrap64 (x5_1 + 1)), (by first | rfl | (simp; done) | (simp [*]; done)), H', ⟨by have := HK1.out; omega⟩, by repeat (first | exact Drawn0.refl _ | apply Drawn0.step)⟩
      ·rw [if_neg c6] at H
       exact absurd H (by simp)
     ·rw [if_neg c5] at H
      exact absurd H (by simp)
    ·rw [if_neg c4] at H
     have c4b0 : decide (x5_1 < (l0.length : Int)) = false := decide_eq_false c4
     clear c4
     obtain rfl := Option.some.inj H
     go_wp2
     repeat (go_quiet (fail); try go_wp2)
     go_ret
     exact ⟨by first | rfl | (simp; done) | (simp [*]; done), by repeat (first | exact Drawn0.refl _ | apply Drawn0.step)⟩
 ·rw [if_neg c3] at H
  have c3b0 : ((l0.length : Int) == (l1.length : Int)) = false := beq_eq_false_iff_ne.mpr c3
  have c3b1 : ((l0.length : Int) != (l1.length : Int)) = true := bne_iff_ne.mpr c3
  have c3b2 : (l0.length == l1.length) = false := by first | simpa using c3 | (simp at c3 ⊢; omega)
  obtain rfl := Option.some.inj H
  go_enter Tryd.func12, Tryd.ntmps12
  go_wp2
  repeat (go_quiet (fail); try go_wp2)
  go_ret
  exact ⟨by first | rfl | (simp; done) | (simp [*]; done), by repeat (first | exact Drawn0.refl _ | apply Drawn0.step)⟩
end Go.Proofs.YtpclapnmiacfpaaDoor.Q
end
section
set_option linter.unusedVariables false
namespace Go.Proofs.YtpclapnmiacfpaaDoor.Q
open Go.RowKit Go.Maps Go.Proofs.YtpclapnmiacfpaaDoor.Hand Go.Proofs.YtpclapnmiacfpaaDoorW.PrintWords Go.Proofs.YtpclapnmiacfpaaDoorW.PrintLast Go.Proofs.YtpclapnmiacfpaaDoorW.PrintMore
def vsAB (a b : SL) : Bool := ((a.f2.toList == [67, 65, 83, 72]) != (b.f2.toList == [67, 65, 83, 72])) && ((a.f0.toList == b.f1.toList) && (a.f1.toList == b.f0.toList))
def vsL (ls : List SL) (e : Int) : Bool := if e = 0 ∧ ls.length = 2 then vsAB (rd_T71 ls 0) (rd_T71 ls 1) else false
@[irreducible] def delivery_Versus.f (l0 : List SP) : Option Bool := (delivery_Decompose.f l0).bind fun r => some (vsL r.1 r.2)
set_option maxHeartbeats 8000000 in
set_option maxRecDepth 100000 in
theorem delivery_Versus.calls (A0 : Option Addr) (c0 : Nat) (l0 : List SP) (r : Bool) (w : World) (hr0 : Kd.C k68 w A0 l0.length l0) (hc0 : l0.length ≤ c0) (h : delivery_Versus.f l0 = some r) :
    Calls Tryd.prog 18 #[.slice A0 l0.length c0] w fun e w' => e = .returned (.bool r) ∧ Below w.heap.size w w' := by
  unfold delivery_Versus.f at h
  obtain ⟨⟨ls, e0⟩, hd, h⟩ := Option.bind_eq_some_iff.mp h
  obtain rfl := Option.some.inj h
  clear h
  have HD := Aside0.mk hd
  clear hd
  by_cases he : e0 = 0
  case neg =>
    have b0 : (e0 != 0) = true := bne_iff_ne.mpr he
    have hv : vsL ls e0 = false := by simp [vsL, he]
    rw [hv]
    go_enter Tryd.func18, Tryd.ntmps18
    go_wp2_with (first | (go_at_call 15; refine (delivery_Decompose.calls A0 c0 l0 ls e0 _ hr0 hc0 HD.out).mono ?_; rintro e w2 ⟨v0, rfl, HO, hb⟩))
    go_ret
    exact ⟨rfl, hb⟩
  subst he
  by_cases hl : ls.length = 2
  case neg =>
    have b1 : ((ls.length : Int) != 2) = true := bne_iff_ne.mpr (by omega)
    have hv : vsL ls 0 = false := by simp [vsL, hl]
    rw [hv]
    go_enter Tryd.func18, Tryd.ntmps18
    go_wp2_with (first | (go_at_call 15; refine (delivery_Decompose.calls A0 c0 l0 ls 0 _ hr0 hc0 HD.out).mono ?_; rintro e w2 ⟨v0, rfl, HO, hb⟩; obtain ⟨Al, cl, rfl⟩ := Kd.R_slice HO))
    go_ret
    exact ⟨rfl, hb⟩
  have hv : vsL ls 0 = vsAB (rd_T71 ls 0) (rd_T71 ls 1) := by simp [vsL, hl]
  rw [hv]
  clear hv
  obtain ⟨a, ha⟩ : ∃ a, a = rd_T71 ls 0 := ⟨_, rfl⟩
  obtain ⟨b, hb⟩ : ∃ b, b = rd_T71 ls 1 := ⟨_, rfl⟩
  rw [← ha, ← hb]
  have HA := Aside0.mk ha
  have HBB := Aside0.mk hb
  clear ha hb
  go_enter Tryd.func18, Tryd.ntmps18
  go_wp2_with (first | (go_at_call 15; refine (delivery_Decompose.calls A0 c0 l0 ls 0 _ hr0 hc0 HD.out).mono ?_; rintro e w2 ⟨v0, rfl, HO, hb⟩; obtain ⟨Al, cl, rfl⟩ := Kd.R_slice HO; rw [hl] at HO ⊢))
  obtain ⟨ad, ead, ha0, ha1, ha2, ha3⟩ := at_T71 (Kd.R_reads' HO).2.2 0 (by omega) (by omega)
  obtain ⟨ad', ead', hb0, hb1, hb2, hb3⟩ := at_T71 (Kd.R_reads' HO).2.2 1 (by omega) (by omega)
  cases ead
  obtain rfl : ad = ad' := by injection ead'
  clear ead'
  rw [← HA.out] at ha0 ha1 ha2 ha3
  rw [← HBB.out] at hb0 hb1 hb2 hb3
  simp only [show (0 : Int).toNat * 4 = 0 from rfl, show (1 : Int).toNat * 4 = 4 from rfl] at ha0 ha1 ha2 ha3 hb0 hb1 hb2 hb3
  obtain ⟨g, rfl⟩ := Kd.R_head HO
  replace ha0 : w2.cell? ⟨g, 0, none⟩ = some (.string a.f0) := by simpa [Addr.add] using ha0
  replace ha1 : w2.cell? ⟨g, 1, none⟩ = some (.string a.f1) := by simpa [Addr.add] using ha1
  replace ha2 : w2.cell? ⟨g, 2, none⟩ = some (.string a.f2) := by simpa [Addr.add] using ha2
  replace ha3 : w2.cell? ⟨g, 3, none⟩ = some (.int .i64 a.f3) := by simpa [Addr.add] using ha3
  replace hb0 : w2.cell? ⟨g, 4, none⟩ = some (.string b.f0) := by simpa [Addr.add] using hb0
  replace hb1 : w2.cell? ⟨g, 5, none⟩ = some (.string b.f1) := by simpa [Addr.add] using hb1
  replace hb2 : w2.cell? ⟨g, 6, none⟩ = some (.string b.f2) := by simpa [Addr.add] using hb2
  replace hb3 : w2.cell? ⟨g, 7, none⟩ = some (.int .i64 b.f3) := by simpa [Addr.add] using hb3
  have HB := Aside0.mk hb
  clear hb
  go_region_held3 (fun w' => w'.cell? ⟨g, 0, none⟩ = some (.string a.f0) ∧ w'.cell? ⟨g, 1, none⟩ = some (.string a.f1) ∧ w'.cell? ⟨g, 2, none⟩ = some (.string a.f2) ∧ w'.cell? ⟨g, 3, none⟩ = some (.int .i64 a.f3) ∧ w'.cell? ⟨g, 4, none⟩ = some (.string b.f0) ∧ w'.cell? ⟨g, 5, none⟩ = some (.string b.f1) ∧ w'.cell? ⟨g, 6, none⟩ = some (.string b.f2) ∧ w'.cell? ⟨g, 7, none⟩ = some (.int .i64 b.f3))
    (first | go_keep | skip)
    (first | fail)
  all_goals
    have hsz2 := below_size HB.out
    cases x1 : (a.f2.toList == [67, 65, 83, 72]) <;> cases x2 : (b.f2.toList == [67, 65, 83, 72]) <;> cases x3 : (a.f0.toList == b.f1.toList) <;> cases x4 : (a.f1.toList == b.f0.toList)
    all_goals
      go_wp2
      go_ret
      refine ⟨by simp [vsAB, x1, x2, x3, x4], ?_⟩
      repeat (first | exact HB.out | (refine below_set ?_ (by first | exact hsz2 | exact Nat.le_succ_of_le hsz2 | (simp; omega))) | refine below_alloc ?_ _ | refine below_drew1 ?_)
end Go.Proofs.YtpclapnmiacfpaaDoor.Q
end
section
namespace Go.Proofs.YtpclapnmiacfpaaDoor.Q
open Go.RowKit Go.Proofs.YtpclapnmiacfpaaDoorW.PrintWords Go.Proofs.YtpclapnmiacfpaaDoorW.PrintLast Go.Proofs.YtpclapnmiacfpaaDoorW.PrintMore
attribute [local go_sem] max2_int min2_int max_two min_two max_three min_three max_four min_four
set_option linter.unusedVariables false
set_option linter.unusedSimpArgs false
def girolaw39_known.f (k : Nat)  : Option (Bool) := (delivery_Postings.f 1 (⟨#[66, 65, 78, 75, 65]⟩ : ByteArray) (⟨#[66, 65, 78, 75, 66]⟩ : ByteArray) (⟨#[85, 83, 48, 51, 55, 56, 51, 51, 49, 48, 48, 53]⟩ : ByteArray) 100 2500000 9812 9816 0 false 0 (⟨#[68, 49]⟩ : ByteArray) (⟨#[82, 49]⟩ : ByteArray) 0).bind fun bt114 => (if bt114.2 = 0 then ((girolaw15_Postings.f k bt114.1).bind fun t121 => ((girolaw15_Postings.f k (([(⟨(⟨(⟨#[66, 65, 78, 75, 65]⟩ : ByteArray), 0, (⟨#[85, 83, 48, 51, 55, 56, 51, 51, 49, 48, 48, 53]⟩ : ByteArray)⟩ : S66), (-100)⟩ : S68), (⟨(⟨(⟨#[66, 65, 78, 75, 66]⟩ : ByteArray), 0, (⟨#[85, 83, 48, 51, 55, 56, 51, 51, 49, 48, 48, 53]⟩ : ByteArray)⟩ : S66), 100⟩ : S68), (⟨(⟨(⟨#[66, 65, 78, 75, 66]⟩ : ByteArray), 0, (⟨#[67, 65, 83, 72]⟩ : ByteArray)⟩ : S66), (-2500000)⟩ : S68), (⟨(⟨(⟨#[66, 65, 78, 75, 65]⟩ : ByteArray), 0, (⟨#[67, 65, 83, 72]⟩ : ByteArray)⟩ : S66), 2500000⟩ : S68)] : List (S68)))).bind fun t124 => ((girolaw39_same.f k t121 t124).bind fun t127 => (if t127 = true then ((delivery_Versus.f bt114.1).bind fun t128 => (some t128)) else (some false))))) else (some false))
theorem girolaw39_known.mono : ∀ k, LeO (girolaw39_known.f k ) (girolaw39_known.f (k + 1) ) := by
 intro  k
 unfold girolaw39_known.f
 repeat' first
   | (with_reducible exact girolaw15_Postings.mono _ _)
   | (with_reducible exact girolaw39_same.mono _ _ _)
   | (with_reducible exact LeO.refl _)
   | (with_reducible exact LeO.none _)
   | (with_reducible refine LeO.ite ?_ ?_)
   | (with_reducible refine LeO.bind ?_ (fun _ => ?_))
   | exact girolaw15_Postings.mono _ _
   | exact girolaw39_same.mono _ _ _
   | exact LeO.none _
   | refine LeO.ite ?_ ?_
   | refine LeO.bind ?_ (fun _ => ?_)
set_option maxHeartbeats 8000000 in
set_option maxRecDepth 100000 in
theorem girolaw39_known.calls (k : Nat)  (r : Bool) (w : World) (h : girolaw39_known.f k  = some r) :
  Calls Tryd.prog 8 #[] w fun e w' => e = .returned (.bool r) ∧ Below w.heap.size w w' := by
 have hu22 := Tryd.underlying22
 have hu31 := Tryd.underlying31
 have hu66 := Tryd.underlying66
 have hu68 := Tryd.underlying68
 have HB := Aside0.mk (Below.refl w.heap.size w)
 have H : ((delivery_Postings.f 1 (⟨#[66, 65, 78, 75, 65]⟩ : ByteArray) (⟨#[66, 65, 78, 75, 66]⟩ : ByteArray) (⟨#[85, 83, 48, 51, 55, 56, 51, 51, 49, 48, 48, 53]⟩ : ByteArray) 100 2500000 9812 9816 0 false 0 (⟨#[68, 49]⟩ : ByteArray) (⟨#[82, 49]⟩ : ByteArray) 0).bind fun bt114 => (if bt114.2 = 0 then ((girolaw15_Postings.f k bt114.1).bind fun t121 => ((girolaw15_Postings.f k (([(⟨(⟨(⟨#[66, 65, 78, 75, 65]⟩ : ByteArray), 0, (⟨#[85, 83, 48, 51, 55, 56, 51, 51, 49, 48, 48, 53]⟩ : ByteArray)⟩ : S66), (-100)⟩ : S68), (⟨(⟨(⟨#[66, 65, 78, 75, 66]⟩ : ByteArray), 0, (⟨#[85, 83, 48, 51, 55, 56, 51, 51, 49, 48, 48, 53]⟩ : ByteArray)⟩ : S66), 100⟩ : S68), (⟨(⟨(⟨#[66, 65, 78, 75, 66]⟩ : ByteArray), 0, (⟨#[67, 65, 83, 72]⟩ : ByteArray)⟩ : S66), (-2500000)⟩ : S68), (⟨(⟨(⟨#[66, 65, 78, 75, 65]⟩ : ByteArray), 0, (⟨#[67, 65, 83, 72]⟩ : ByteArray)⟩ : S66), 2500000⟩ : S68)] : List (S68)))).bind fun t124 => ((girolaw39_same.f k t121 t124).bind fun t127 => (if t127 = true then ((delivery_Versus.f bt114.1).bind fun t128 => (some t128)) else (some false))))) else (some false))) = some r := h
 clear h
 replace H := Option.bind_eq_some_iff.mp H
 obtain ⟨⟨t114, t117⟩, A10, H⟩ := H
 replace H : (if t117 = 0 then ((girolaw15_Postings.f k t114).bind fun t121 => ((girolaw15_Postings.f k (([(⟨(⟨(⟨#[66, 65, 78, 75, 65]⟩ : ByteArray), 0, (⟨#[85, 83, 48, 51, 55, 56, 51, 51, 49, 48, 48, 53]⟩ : ByteArray)⟩ : S66), (-100)⟩ : S68), (⟨(⟨(⟨#[66, 65, 78, 75, 66]⟩ : ByteArray), 0, (⟨#[85, 83, 48, 51, 55, 56, 51, 51, 49, 48, 48, 53]⟩ : ByteArray)⟩ : S66), 100⟩ : S68), (⟨(⟨(⟨#[66, 65, 78, 75, 66]⟩ : ByteArray), 0, (⟨#[67, 65, 83, 72]⟩ : ByteArray)⟩ : S66), (-2500000)⟩ : S68), (⟨(⟨(⟨#[66, 65, 78, 75, 65]⟩ : ByteArray), 0, (⟨#[67, 65, 83, 72]⟩ : ByteArray)⟩ : S66), 2500000⟩ : S68)] : List (S68)))).bind fun t124 => ((girolaw39_same.f k t121 t124).bind fun t127 => (if t127 = true then ((delivery_Versus.f t114).bind fun t128 => (some t128)) else (some false))))) else (some false)) = some r := H
 have A1 := Aside0.mk A10
 clear A10
 obtain ⟨y118, hy118⟩ : ∃ y_ : List (S68), y_ = (([(⟨(⟨(⟨#[66, 65, 78, 75, 65]⟩ : ByteArray), 0, (⟨#[85, 83, 48, 51, 55, 56, 51, 51, 49, 48, 48, 53]⟩ : ByteArray)⟩ : S66), (-100)⟩ : S68), (⟨(⟨(⟨#[66, 65, 78, 75, 66]⟩ : ByteArray), 0, (⟨#[85, 83, 48, 51, 55, 56, 51, 51, 49, 48, 48, 53]⟩ : ByteArray)⟩ : S66), 100⟩ : S68), (⟨(⟨(⟨#[66, 65, 78, 75, 66]⟩ : ByteArray), 0, (⟨#[67, 65, 83, 72]⟩ : ByteArray)⟩ : S66), (-2500000)⟩ : S68), (⟨(⟨(⟨#[66, 65, 78, 75, 65]⟩ : ByteArray), 0, (⟨#[67, 65, 83, 72]⟩ : ByteArray)⟩ : S66), 2500000⟩ : S68)] : List (S68))) := ⟨_, rfl⟩
 replace H : (if t117 = 0 then ((girolaw15_Postings.f k t114).bind fun t121 => ((girolaw15_Postings.f k y118).bind fun t124 => ((girolaw39_same.f k t121 t124).bind fun t127 => (if t127 = true then ((delivery_Versus.f t114).bind fun t128 => (some t128)) else (some false))))) else (some false)) = some r := by first | (rw [hy118]; with_reducible exact H) | (have H2_ := (Option.bind_some _ _).symm.trans H; rw [hy118]; with_reducible exact H2_) | (have H2_ := (Option.bind_some _ _).symm.trans H; with_reducible exact H2_) | with_reducible exact H | (rw [hy118]; exact H) | exact H
 have Ny118 := Aside0.mk hy118
 clear hy118
 by_cases c2 : t117 = 0
 ·rw [if_pos c2] at H
  have c2b0 : (t117 == 0) = true := beq_iff_eq.mpr c2
  have c2b1 : (t117 != 0) = false := bne_eq_false_iff_eq.mpr c2
  clear c2
  replace H := Option.bind_eq_some_iff.mp H
  obtain ⟨t121, A30, H⟩ := H
  replace H : ((girolaw15_Postings.f k y118).bind fun t124 => ((girolaw39_same.f k t121 t124).bind fun t127 => (if t127 = true then ((delivery_Versus.f t114).bind fun t128 => (some t128)) else (some false)))) = some r := H
  have A3 := Aside0.mk A30
  clear A30
  replace H := Option.bind_eq_some_iff.mp H
  obtain ⟨t124, A40, H⟩ := H
  replace H : ((girolaw39_same.f k t121 t124).bind fun t127 => (if t127 = true then ((delivery_Versus.f t114).bind fun t128 => (some t128)) else (some false))) = some r := H
  have A4 := Aside0.mk A40
  clear A40
  replace H := Option.bind_eq_some_iff.mp H
  obtain ⟨t127, A50, H⟩ := H
  replace H : (if t127 = true then ((delivery_Versus.f t114).bind fun t128 => (some t128)) else (some false)) = some r := H
  have A5 := Aside0.mk A50
  clear A50
  by_cases c6 : t127 = true
  ·subst c6
   have H1 : ((delivery_Versus.f t114).bind fun t128 => (some t128)) = some r := by rw [if_pos rfl] at H; exact H
   clear H
   have H := H1
   clear H1
   replace H := Option.bind_eq_some_iff.mp H
   obtain ⟨t128, A70, H⟩ := H
   replace H : (some t128) = some r := H
   have A7 := Aside0.mk A70
   clear A70
   obtain rfl := Option.some.inj H
   go_enter Tryd.func8, Tryd.ntmps8
   go_wp2_with (first | ((with_reducible refine gate_dst (N := 1) rfl ?_); refine box_event ?hg (N := 1) ?hd (cs := #[.int .i64 0, .string (⟨#[]⟩ : ByteArray), .string (⟨#[]⟩ : ByteArray), .string (⟨#[]⟩ : ByteArray), .int .i64 0, .int .i64 0, .int .i64 0, .int .i64 0, .int .i64 0, .bool false, .int .i64 0, .string (⟨#[]⟩ : ByteArray), .string (⟨#[]⟩ : ByteArray)]) (t := 31) ?hr ?_; (case hd => rfl); (case hg => rfl); (case hr => first | (go_simp; done) | (go_simp; rfl)); intro gb113 hg w8 hbox hb; have n0_ := Aside0.mk (below_step (by repeat (first | (with_reducible first | exact HB.out | apply below_alloc | apply pw_below_drewN | apply below_drew1) | exact HB.out)) hb); have n1_ := Aside0.mk (hbox); have n2_ := Aside0.mk ((by rw [hg]; exact (below_size (by repeat (first | (with_reducible first | exact HB.out | apply below_alloc | apply pw_below_drewN | apply below_drew1) | exact HB.out))) : w.heap.size ≤ gb113)); have n3_ := Aside0.mk ((by rw [hg]; exact (below_size (by repeat (first | (with_reducible first | exact HB.out | apply below_alloc | apply pw_below_drewN | apply below_drew1) | exact HB.out))) : w.heap.size ≤ gb113)); clear HB; have HB := n0_; have BK113 := n1_; have GW113 := n2_; have GE113 := n3_; clear n0_ n1_ n2_ n3_; clear hb hbox hg; have hcz9_0 : w8.cell? ⟨gb113, 0, none⟩ = some (.int .i64 0) := (blk_cell BK113.out 0).trans rfl; have hcz9_1 : w8.cell? ⟨gb113, 1, none⟩ = some (.string (⟨#[]⟩ : ByteArray)) := (blk_cell BK113.out 1).trans rfl; have hcz9_2 : w8.cell? ⟨gb113, 2, none⟩ = some (.string (⟨#[]⟩ : ByteArray)) := (blk_cell BK113.out 2).trans rfl; have hcz9_3 : w8.cell? ⟨gb113, 3, none⟩ = some (.string (⟨#[]⟩ : ByteArray)) := (blk_cell BK113.out 3).trans rfl; have hcz9_4 : w8.cell? ⟨gb113, 4, none⟩ = some (.int .i64 0) := (blk_cell BK113.out 4).trans rfl; have hcz9_5 : w8.cell? ⟨gb113, 5, none⟩ = some (.int .i64 0) := (blk_cell BK113.out 5).trans rfl; have hcz9_6 : w8.cell? ⟨gb113, 6, none⟩ = some (.int .i64 0) := (blk_cell BK113.out 6).trans rfl; have hcz9_7 : w8.cell? ⟨gb113, 7, none⟩ = some (.int .i64 0) := (blk_cell BK113.out 7).trans rfl; have hcz9_8 : w8.cell? ⟨gb113, 8, none⟩ = some (.int .i64 0) := (blk_cell BK113.out 8).trans rfl; have hcz9_9 : w8.cell? ⟨gb113, 9, none⟩ = some (.bool false) := (blk_cell BK113.out 9).trans rfl; have hcz9_10 : w8.cell? ⟨gb113, 10, none⟩ = some (.int .i64 0) := (blk_cell BK113.out 10).trans rfl; have hcz9_11 : w8.cell? ⟨gb113, 11, none⟩ = some (.string (⟨#[]⟩ : ByteArray)) := (blk_cell BK113.out 11).trans rfl; have hcz9_12 : w8.cell? ⟨gb113, 12, none⟩ = some (.string (⟨#[]⟩ : ByteArray)) := (blk_cell BK113.out 12).trans rfl; have hfz9_0 := blk_frozen BK113.out 0; have hfz9_1 := blk_frozen BK113.out 1; have hfz9_2 := blk_frozen BK113.out 2; have hfz9_3 := blk_frozen BK113.out 3; have hfz9_4 := blk_frozen BK113.out 4; have hfz9_5 := blk_frozen BK113.out 5; have hfz9_6 := blk_frozen BK113.out 6; have hfz9_7 := blk_frozen BK113.out 7; have hfz9_8 := blk_frozen BK113.out 8; have hfz9_9 := blk_frozen BK113.out 9; have hfz9_10 := blk_frozen BK113.out 10; have hfz9_11 := blk_frozen BK113.out 11; have hfz9_12 := blk_frozen BK113.out 12) | ((with_reducible refine gate_callee (f := 10) rfl ?_); refine goesL_ (some 9) rfl rfl Tryd.func10 (by kernel_rfl) rfl #[.agg #[.int .i64 1, .string (⟨#[66, 65, 78, 75, 65]⟩ : ByteArray), .string (⟨#[66, 65, 78, 75, 66]⟩ : ByteArray), .string (⟨#[85, 83, 48, 51, 55, 56, 51, 51, 49, 48, 48, 53]⟩ : ByteArray), .int .i64 100, .int .i64 2500000, .int .i64 9812, .int .i64 9816, .int .i64 0, .bool false, .int .i64 0, .string (⟨#[68, 49]⟩ : ByteArray), .string (⟨#[82, 49]⟩ : ByteArray)], .int .i64 0] rfl (by (try simp only [List.map_toArray, List.map_cons, List.map_nil]); first | done | rfl | (simp only [List.length_drop, List.length_take]; rfl)) ?_; (with_reducible refine (delivery_Postings.calls 1 (⟨#[66, 65, 78, 75, 65]⟩ : ByteArray) (⟨#[66, 65, 78, 75, 66]⟩ : ByteArray) (⟨#[85, 83, 48, 51, 55, 56, 51, 51, 49, 48, 48, 53]⟩ : ByteArray) 100 2500000 9812 9816 0 false 0 (⟨#[68, 49]⟩ : ByteArray) (⟨#[82, 49]⟩ : ByteArray) 0 t114 t117 _ A1.out).mono ?_); rintro e w10 ⟨v115, rfl, ho0, hb⟩; refine ⟨_, rfl, ?_⟩; have n0_ := Aside0.mk (Kd.R_lower ho0 (below_size (by repeat (first | (with_reducible first | exact HB.out | apply below_alloc | apply pw_below_drewN | apply below_drew1 | refine below_set ?_ GE113.out) | exact HB.out)))); have n1_ := Aside0.mk (blk_below (g := gb113) (o := .cells #[.int .i64 1, .string (⟨#[66, 65, 78, 75, 65]⟩ : ByteArray), .string (⟨#[66, 65, 78, 75, 66]⟩ : ByteArray), .string (⟨#[85, 83, 48, 51, 55, 56, 51, 51, 49, 48, 48, 53]⟩ : ByteArray), .int .i64 100, .int .i64 2500000, .int .i64 9812, .int .i64 9816, .int .i64 0, .bool false, .int .i64 0, .string (⟨#[68, 49]⟩ : ByteArray), .string (⟨#[82, 49]⟩ : ByteArray)] 31 (0, 0)) (by (with_reducible repeat (first | refine blk_drewN ?_ _ | refine blk_drew ?_ | refine blk_alloc ?_ _)); refine blk_put (cs := #[.int .i64 1, .string (⟨#[66, 65, 78, 75, 65]⟩ : ByteArray), .string (⟨#[66, 65, 78, 75, 66]⟩ : ByteArray), .string (⟨#[85, 83, 48, 51, 55, 56, 51, 51, 49, 48, 48, 53]⟩ : ByteArray), .int .i64 100, .int .i64 2500000, .int .i64 9812, .int .i64 9816, .int .i64 0, .bool false, .int .i64 0, .string (⟨#[68, 49]⟩ : ByteArray), .string (⟨#[]⟩ : ByteArray)]) ?_ 12 _ rfl; (with_reducible repeat (first | refine blk_drewN ?_ _ | refine blk_drew ?_ | refine blk_alloc ?_ _)); refine blk_put (cs := #[.int .i64 1, .string (⟨#[66, 65, 78, 75, 65]⟩ : ByteArray), .string (⟨#[66, 65, 78, 75, 66]⟩ : ByteArray), .string (⟨#[85, 83, 48, 51, 55, 56, 51, 51, 49, 48, 48, 53]⟩ : ByteArray), .int .i64 100, .int .i64 2500000, .int .i64 9812, .int .i64 9816, .int .i64 0, .bool false, .int .i64 0, .string (⟨#[]⟩ : ByteArray), .string (⟨#[]⟩ : ByteArray)]) ?_ 11 _ rfl; (with_reducible repeat (first | refine blk_drewN ?_ _ | refine blk_drew ?_ | refine blk_alloc ?_ _)); refine blk_put (cs := #[.int .i64 1, .string (⟨#[66, 65, 78, 75, 65]⟩ : ByteArray), .string (⟨#[66, 65, 78, 75, 66]⟩ : ByteArray), .string (⟨#[85, 83, 48, 51, 55, 56, 51, 51, 49, 48, 48, 53]⟩ : ByteArray), .int .i64 100, .int .i64 2500000, .int .i64 9812, .int .i64 9816, .int .i64 0, .bool false, .int .i64 0, .string (⟨#[]⟩ : ByteArray), .string (⟨#[]⟩ : ByteArray)]) ?_ 10 _ rfl; (with_reducible repeat (first | refine blk_drewN ?_ _ | refine blk_drew ?_ | refine blk_alloc ?_ _)); refine blk_put (cs := #[.int .i64 1, .string (⟨#[66, 65, 78, 75, 65]⟩ : ByteArray), .string (⟨#[66, 65, 78, 75, 66]⟩ : ByteArray), .string (⟨#[85, 83, 48, 51, 55, 56, 51, 51, 49, 48, 48, 53]⟩ : ByteArray), .int .i64 100, .int .i64 2500000, .int .i64 9812, .int .i64 9816, .int .i64 0, .bool false, .int .i64 0, .string (⟨#[]⟩ : ByteArray), .string (⟨#[]⟩ : ByteArray)]) ?_ 9 _ rfl; (with_reducible repeat (first | refine blk_drewN ?_ _ | refine blk_drew ?_ | refine blk_alloc ?_ _)); refine blk_put (cs := #[.int .i64 1, .string (⟨#[66, 65, 78, 75, 65]⟩ : ByteArray), .string (⟨#[66, 65, 78, 75, 66]⟩ : ByteArray), .string (⟨#[85, 83, 48, 51, 55, 56, 51, 51, 49, 48, 48, 53]⟩ : ByteArray), .int .i64 100, .int .i64 2500000, .int .i64 9812, .int .i64 9816, .int .i64 0, .bool false, .int .i64 0, .string (⟨#[]⟩ : ByteArray), .string (⟨#[]⟩ : ByteArray)]) ?_ 8 _ rfl; (with_reducible repeat (first | refine blk_drewN ?_ _ | refine blk_drew ?_ | refine blk_alloc ?_ _)); refine blk_put (cs := #[.int .i64 1, .string (⟨#[66, 65, 78, 75, 65]⟩ : ByteArray), .string (⟨#[66, 65, 78, 75, 66]⟩ : ByteArray), .string (⟨#[85, 83, 48, 51, 55, 56, 51, 51, 49, 48, 48, 53]⟩ : ByteArray), .int .i64 100, .int .i64 2500000, .int .i64 9812, .int .i64 0, .int .i64 0, .bool false, .int .i64 0, .string (⟨#[]⟩ : ByteArray), .string (⟨#[]⟩ : ByteArray)]) ?_ 7 _ rfl; (with_reducible repeat (first | refine blk_drewN ?_ _ | refine blk_drew ?_ | refine blk_alloc ?_ _)); refine blk_put (cs := #[.int .i64 1, .string (⟨#[66, 65, 78, 75, 65]⟩ : ByteArray), .string (⟨#[66, 65, 78, 75, 66]⟩ : ByteArray), .string (⟨#[85, 83, 48, 51, 55, 56, 51, 51, 49, 48, 48, 53]⟩ : ByteArray), .int .i64 100, .int .i64 2500000, .int .i64 0, .int .i64 0, .int .i64 0, .bool false, .int .i64 0, .string (⟨#[]⟩ : ByteArray), .string (⟨#[]⟩ : ByteArray)]) ?_ 6 _ rfl; (with_reducible repeat (first | refine blk_drewN ?_ _ | refine blk_drew ?_ | refine blk_alloc ?_ _)); refine blk_put (cs := #[.int .i64 1, .string (⟨#[66, 65, 78, 75, 65]⟩ : ByteArray), .string (⟨#[66, 65, 78, 75, 66]⟩ : ByteArray), .string (⟨#[85, 83, 48, 51, 55, 56, 51, 51, 49, 48, 48, 53]⟩ : ByteArray), .int .i64 100, .int .i64 0, .int .i64 0, .int .i64 0, .int .i64 0, .bool false, .int .i64 0, .string (⟨#[]⟩ : ByteArray), .string (⟨#[]⟩ : ByteArray)]) ?_ 5 _ rfl; (with_reducible repeat (first | refine blk_drewN ?_ _ | refine blk_drew ?_ | refine blk_alloc ?_ _)); refine blk_put (cs := #[.int .i64 1, .string (⟨#[66, 65, 78, 75, 65]⟩ : ByteArray), .string (⟨#[66, 65, 78, 75, 66]⟩ : ByteArray), .string (⟨#[85, 83, 48, 51, 55, 56, 51, 51, 49, 48, 48, 53]⟩ : ByteArray), .int .i64 0, .int .i64 0, .int .i64 0, .int .i64 0, .int .i64 0, .bool false, .int .i64 0, .string (⟨#[]⟩ : ByteArray), .string (⟨#[]⟩ : ByteArray)]) ?_ 4 _ rfl; (with_reducible repeat (first | refine blk_drewN ?_ _ | refine blk_drew ?_ | refine blk_alloc ?_ _)); refine blk_put (cs := #[.int .i64 1, .string (⟨#[66, 65, 78, 75, 65]⟩ : ByteArray), .string (⟨#[66, 65, 78, 75, 66]⟩ : ByteArray), .string (⟨#[]⟩ : ByteArray), .int .i64 0, .int .i64 0, .int .i64 0, .int .i64 0, .int .i64 0, .bool false, .int .i64 0, .string (⟨#[]⟩ : ByteArray), .string (⟨#[]⟩ : ByteArray)]) ?_ 3 _ rfl; (with_reducible repeat (first | refine blk_drewN ?_ _ | refine blk_drew ?_ | refine blk_alloc ?_ _)); refine blk_put (cs := #[.int .i64 1, .string (⟨#[66, 65, 78, 75, 65]⟩ : ByteArray), .string (⟨#[]⟩ : ByteArray), .string (⟨#[]⟩ : ByteArray), .int .i64 0, .int .i64 0, .int .i64 0, .int .i64 0, .int .i64 0, .bool false, .int .i64 0, .string (⟨#[]⟩ : ByteArray), .string (⟨#[]⟩ : ByteArray)]) ?_ 2 _ rfl; (with_reducible repeat (first | refine blk_drewN ?_ _ | refine blk_drew ?_ | refine blk_alloc ?_ _)); refine blk_put (cs := #[.int .i64 1, .string (⟨#[]⟩ : ByteArray), .string (⟨#[]⟩ : ByteArray), .string (⟨#[]⟩ : ByteArray), .int .i64 0, .int .i64 0, .int .i64 0, .int .i64 0, .int .i64 0, .bool false, .int .i64 0, .string (⟨#[]⟩ : ByteArray), .string (⟨#[]⟩ : ByteArray)]) ?_ 1 _ rfl; (with_reducible repeat (first | refine blk_drewN ?_ _ | refine blk_drew ?_ | refine blk_alloc ?_ _)); refine blk_put (cs := #[.int .i64 0, .string (⟨#[]⟩ : ByteArray), .string (⟨#[]⟩ : ByteArray), .string (⟨#[]⟩ : ByteArray), .int .i64 0, .int .i64 0, .int .i64 0, .int .i64 0, .int .i64 0, .bool false, .int .i64 0, .string (⟨#[]⟩ : ByteArray), .string (⟨#[]⟩ : ByteArray)]) ?_ 0 _ rfl; (with_reducible repeat (first | refine blk_drewN ?_ _ | refine blk_drew ?_ | refine blk_alloc ?_ _)); exact BK113.out) hb); have n2_ := Aside0.mk (below_step (by repeat (first | (with_reducible first | exact HB.out | apply below_alloc | apply pw_below_drewN | apply below_drew1 | refine below_set ?_ GE113.out) | exact HB.out)) hb); clear BK113; clear HB; have HO116 := n0_; have BK113 := n1_; have HB := n2_; clear n0_ n1_ n2_; (try clear hb); (try clear hb2); (try clear hk); (try clear hi); (try clear ho0)) | ((with_reducible refine gate_dst (N := 20) rfl ?_); refine Kd.R_lit k68 _ 68 ?hg (N := 20) ?hd (xs := ([(⟨(⟨(⟨#[66, 65, 78, 75, 65]⟩ : ByteArray), 0, (⟨#[85, 83, 48, 51, 55, 56, 51, 51, 49, 48, 48, 53]⟩ : ByteArray)⟩ : S66), (-100)⟩ : S68), (⟨(⟨(⟨#[66, 65, 78, 75, 66]⟩ : ByteArray), 0, (⟨#[85, 83, 48, 51, 55, 56, 51, 51, 49, 48, 48, 53]⟩ : ByteArray)⟩ : S66), 100⟩ : S68), (⟨(⟨(⟨#[66, 65, 78, 75, 66]⟩ : ByteArray), 0, (⟨#[67, 65, 83, 72]⟩ : ByteArray)⟩ : S66), (-2500000)⟩ : S68), (⟨(⟨(⟨#[66, 65, 78, 75, 65]⟩ : ByteArray), 0, (⟨#[67, 65, 83, 72]⟩ : ByteArray)⟩ : S66), 2500000⟩ : S68)] : List (S68))) (inner := [.string (⟨#[66, 65, 78, 75, 65]⟩ : ByteArray), .int .i64 0, .string (⟨#[85, 83, 48, 51, 55, 56, 51, 51, 49, 48, 48, 53]⟩ : ByteArray), .int .i64 (-100), .string (⟨#[66, 65, 78, 75, 66]⟩ : ByteArray), .int .i64 0, .string (⟨#[85, 83, 48, 51, 55, 56, 51, 51, 49, 48, 48, 53]⟩ : ByteArray), .int .i64 100, .string (⟨#[66, 65, 78, 75, 66]⟩ : ByteArray), .int .i64 0, .string (⟨#[67, 65, 83, 72]⟩ : ByteArray), .int .i64 (-2500000), .string (⟨#[66, 65, 78, 75, 65]⟩ : ByteArray), .int .i64 0, .string (⟨#[67, 65, 83, 72]⟩ : ByteArray), .int .i64 2500000]) (ok := fun _ => True) (okp := fun _ => True) ?hr ?hp (fun _ hk => hk) trivial (Below.refl _ _) (Nat.le_refl _) (by simp) ?_; (case hd => rfl); (case hg => rfl); (case hr => first | (go_simp; done) | (go_simp; rfl)); (case hp => exact (Reps.c4 (show Kd.M k68 _ _ _ (⟨(⟨(⟨#[66, 65, 78, 75, 65]⟩ : ByteArray), 0, (⟨#[85, 83, 48, 51, 55, 56, 51, 51, 49, 48, 48, 53]⟩ : ByteArray)⟩ : S66), (-100)⟩ : S68) [.string (⟨#[66, 65, 78, 75, 65]⟩ : ByteArray), .int .i64 0, .string (⟨#[85, 83, 48, 51, 55, 56, 51, 51, 49, 48, 48, 53]⟩ : ByteArray), .int .i64 (-100)] from (k68_mkM _ _ _ (⟨(⟨(⟨#[66, 65, 78, 75, 65]⟩ : ByteArray), 0, (⟨#[85, 83, 48, 51, 55, 56, 51, 51, 49, 48, 48, 53]⟩ : ByteArray)⟩ : S66), (-100)⟩ : S68) )) (Reps.c4 (show Kd.M k68 _ _ _ (⟨(⟨(⟨#[66, 65, 78, 75, 66]⟩ : ByteArray), 0, (⟨#[85, 83, 48, 51, 55, 56, 51, 51, 49, 48, 48, 53]⟩ : ByteArray)⟩ : S66), 100⟩ : S68) [.string (⟨#[66, 65, 78, 75, 66]⟩ : ByteArray), .int .i64 0, .string (⟨#[85, 83, 48, 51, 55, 56, 51, 51, 49, 48, 48, 53]⟩ : ByteArray), .int .i64 100] from (k68_mkM _ _ _ (⟨(⟨(⟨#[66, 65, 78, 75, 66]⟩ : ByteArray), 0, (⟨#[85, 83, 48, 51, 55, 56, 51, 51, 49, 48, 48, 53]⟩ : ByteArray)⟩ : S66), 100⟩ : S68) )) (Reps.c4 (show Kd.M k68 _ _ _ (⟨(⟨(⟨#[66, 65, 78, 75, 66]⟩ : ByteArray), 0, (⟨#[67, 65, 83, 72]⟩ : ByteArray)⟩ : S66), (-2500000)⟩ : S68) [.string (⟨#[66, 65, 78, 75, 66]⟩ : ByteArray), .int .i64 0, .string (⟨#[67, 65, 83, 72]⟩ : ByteArray), .int .i64 (-2500000)] from (k68_mkM _ _ _ (⟨(⟨(⟨#[66, 65, 78, 75, 66]⟩ : ByteArray), 0, (⟨#[67, 65, 83, 72]⟩ : ByteArray)⟩ : S66), (-2500000)⟩ : S68) )) (Reps.c4 (show Kd.M k68 _ _ _ (⟨(⟨(⟨#[66, 65, 78, 75, 65]⟩ : ByteArray), 0, (⟨#[67, 65, 83, 72]⟩ : ByteArray)⟩ : S66), 2500000⟩ : S68) [.string (⟨#[66, 65, 78, 75, 65]⟩ : ByteArray), .int .i64 0, .string (⟨#[67, 65, 83, 72]⟩ : ByteArray), .int .i64 2500000] from (k68_mkM _ _ _ (⟨(⟨(⟨#[66, 65, 78, 75, 65]⟩ : ByteArray), 0, (⟨#[67, 65, 83, 72]⟩ : ByteArray)⟩ : S66), 2500000⟩ : S68) )) (Reps.none _ _)))))); intro v119 w11 ho12 hb hg_ hnew_; clear hg_ hnew_; (first | rw [← Ny118.out] at ho12 | (simp only [Int.reduceToNat] at ho12; rw [← Ny118.out] at ho12)); have n0_ := Aside0.mk (Kd.R_elder' (by (with_reducible repeat (first | apply Kd.R_alloc | apply Kd.R_drewN | apply Kd.R_drew)); exact HO116.out) (Kd.R_base ho12) hb); have n1_ := Aside0.mk (Kd.R_lower (Kd.R_new' ho12 (Kd.R_lt (by (with_reducible repeat (first | apply Kd.R_alloc | apply Kd.R_drewN | apply Kd.R_drew)); exact HO116.out))) (below_size (by repeat (first | (with_reducible first | exact HB.out | apply below_alloc | apply pw_below_drewN | apply below_drew1 | refine below_set ?_ GE113.out) | exact HB.out)))); have n2_ := Aside0.mk (blk_below (g := gb113) (o := .cells #[.int .i64 1, .string (⟨#[66, 65, 78, 75, 65]⟩ : ByteArray), .string (⟨#[66, 65, 78, 75, 66]⟩ : ByteArray), .string (⟨#[85, 83, 48, 51, 55, 56, 51, 51, 49, 48, 48, 53]⟩ : ByteArray), .int .i64 100, .int .i64 2500000, .int .i64 9812, .int .i64 9816, .int .i64 0, .bool false, .int .i64 0, .string (⟨#[68, 49]⟩ : ByteArray), .string (⟨#[82, 49]⟩ : ByteArray)] 31 (0, 0)) (by (with_reducible repeat (first | refine blk_drewN ?_ _ | refine blk_drew ?_ | refine blk_alloc ?_ _)); exact BK113.out) hb); have n3_ := Aside0.mk (below_step (by repeat (first | (with_reducible first | exact HB.out | apply below_alloc | apply pw_below_drewN | apply below_drew1 | refine below_set ?_ GE113.out) | exact HB.out)) hb); clear HO116; clear BK113; clear HB; have HO116 := n0_; have HO120 := n1_; have BK113 := n2_; have HB := n3_; clear n0_ n1_ n2_ n3_; clear hb ho12; obtain ⟨Ao13, co13, eo13⟩ := Kd.R_slice HO116.out; subst eo13) | (go_at_call 13; (with_reducible refine (girolaw15_Postings.calls k _ _ t114 t121 _ ?side1 ?side2 A3.out).mono ?_); (case side1 => repeat (first | exact (Kd.R_reads' HO116.out).2.2 | (with_reducible refine Kd.C_alloc ?_ _) | (with_reducible refine Kd.C_drewN ?_ _) | (with_reducible refine Kd.C_drew ?_))); (case side2 => exact (Kd.R_reads' HO116.out).2.1); rintro e w14 ⟨v122, rfl, ho0, hb⟩; have n0_ := Aside0.mk (Kd.R_below (by (with_reducible repeat (first | apply Kd.R_alloc | apply Kd.R_drewN | apply Kd.R_drew)); exact HO116.out) hb); have n1_ := Aside0.mk (Kd.R_below (by (with_reducible repeat (first | apply Kd.R_alloc | apply Kd.R_drewN | apply Kd.R_drew)); exact HO120.out) hb); have n2_ := Aside0.mk (Kd.R_lower ho0 (below_size (by repeat (first | (with_reducible first | exact HB.out | apply below_alloc | apply pw_below_drewN | apply below_drew1 | refine below_set ?_ GE113.out) | exact HB.out)))); have n3_ := Aside0.mk (blk_below (g := gb113) (o := .cells #[.int .i64 1, .string (⟨#[66, 65, 78, 75, 65]⟩ : ByteArray), .string (⟨#[66, 65, 78, 75, 66]⟩ : ByteArray), .string (⟨#[85, 83, 48, 51, 55, 56, 51, 51, 49, 48, 48, 53]⟩ : ByteArray), .int .i64 100, .int .i64 2500000, .int .i64 9812, .int .i64 9816, .int .i64 0, .bool false, .int .i64 0, .string (⟨#[68, 49]⟩ : ByteArray), .string (⟨#[82, 49]⟩ : ByteArray)] 31 (0, 0)) (by (with_reducible repeat (first | refine blk_drewN ?_ _ | refine blk_drew ?_ | refine blk_alloc ?_ _)); exact BK113.out) hb); have n4_ := Aside0.mk (below_step (by repeat (first | (with_reducible first | exact HB.out | apply below_alloc | apply pw_below_drewN | apply below_drew1 | refine below_set ?_ GE113.out) | exact HB.out)) hb); clear HO116; clear HO120; clear BK113; clear HB; have HO116 := n0_; have HO120 := n1_; have HO123 := n2_; have BK113 := n3_; have HB := n4_; clear n0_ n1_ n2_ n3_ n4_; (try clear hb); (try clear hb2); (try clear hk); (try clear hi); (try clear ho0); obtain ⟨Ao15, co15, eo15⟩ := Kd.R_slice HO120.out; subst eo15) | (go_at_call 13; (with_reducible refine (girolaw15_Postings.calls k _ _ y118 t124 _ ?side1 ?side2 A4.out).mono ?_); (case side1 => repeat (first | exact (Kd.R_reads' HO120.out).2.2 | (with_reducible refine Kd.C_alloc ?_ _) | (with_reducible refine Kd.C_drewN ?_ _) | (with_reducible refine Kd.C_drew ?_))); (case side2 => exact (Kd.R_reads' HO120.out).2.1); rintro e w16 ⟨v125, rfl, ho0, hb⟩; have n0_ := Aside0.mk (Kd.R_below (by (with_reducible repeat (first | apply Kd.R_alloc | apply Kd.R_drewN | apply Kd.R_drew)); exact HO116.out) hb); have n1_ := Aside0.mk (Kd.R_below (by (with_reducible repeat (first | apply Kd.R_alloc | apply Kd.R_drewN | apply Kd.R_drew)); exact HO120.out) hb); have n2_ := Aside0.mk (Kd.R_elder' (by (with_reducible repeat (first | apply Kd.R_alloc | apply Kd.R_drewN | apply Kd.R_drew)); exact HO123.out) (Kd.R_base ho0) hb); have n3_ := Aside0.mk (Kd.R_lower (Kd.R_new' ho0 (Kd.R_lt (by (with_reducible repeat (first | apply Kd.R_alloc | apply Kd.R_drewN | apply Kd.R_drew)); exact HO123.out))) (below_size (by repeat (first | (with_reducible first | exact HB.out | apply below_alloc | apply pw_below_drewN | apply below_drew1 | refine below_set ?_ GE113.out) | exact HB.out)))); have n4_ := Aside0.mk (blk_below (g := gb113) (o := .cells #[.int .i64 1, .string (⟨#[66, 65, 78, 75, 65]⟩ : ByteArray), .string (⟨#[66, 65, 78, 75, 66]⟩ : ByteArray), .string (⟨#[85, 83, 48, 51, 55, 56, 51, 51, 49, 48, 48, 53]⟩ : ByteArray), .int .i64 100, .int .i64 2500000, .int .i64 9812, .int .i64 9816, .int .i64 0, .bool false, .int .i64 0, .string (⟨#[68, 49]⟩ : ByteArray), .string (⟨#[82, 49]⟩ : ByteArray)] 31 (0, 0)) (by (with_reducible repeat (first | refine blk_drewN ?_ _ | refine blk_drew ?_ | refine blk_alloc ?_ _)); exact BK113.out) hb); have n5_ := Aside0.mk (below_step (by repeat (first | (with_reducible first | exact HB.out | apply below_alloc | apply pw_below_drewN | apply below_drew1 | refine below_set ?_ GE113.out) | exact HB.out)) hb); clear HO116; clear HO120; clear HO123; clear BK113; clear HB; have HO116 := n0_; have HO120 := n1_; have HO123 := n2_; have HO126 := n3_; have BK113 := n4_; have HB := n5_; clear n0_ n1_ n2_ n3_ n4_ n5_; (try clear hb); (try clear hb2); (try clear hk); (try clear hi); (try clear ho0); obtain ⟨Ao17, co17, eo17⟩ := Kd.R_slice HO123.out; subst eo17; obtain ⟨Ao18, co18, eo18⟩ := Kd.R_slice HO126.out; subst eo18) | (go_at_call 12; (with_reducible refine (girolaw39_same.calls k _ _ t121 _ _ t124 true _ ?side1 ?side2 ?side3 ?side4 A5.out).mono ?_); (case side1 => repeat (first | exact (Kd.R_reads' HO123.out).2.2 | (with_reducible refine Kd.C_alloc ?_ _) | (with_reducible refine Kd.C_drewN ?_ _) | (with_reducible refine Kd.C_drew ?_))); (case side2 => exact (Kd.R_reads' HO123.out).2.1); (case side3 => repeat (first | exact (Kd.R_reads' HO126.out).2.2 | (with_reducible refine Kd.C_alloc ?_ _) | (with_reducible refine Kd.C_drewN ?_ _) | (with_reducible refine Kd.C_drew ?_))); (case side4 => exact (Kd.R_reads' HO126.out).2.1); rintro e w' ⟨rfl, ⟨nd, rfl⟩⟩) | (go_at_call 18; (with_reducible refine (delivery_Versus.calls _ _ t114 t128 _ ?side1 ?side2 A7.out).mono ?_); (case side1 => repeat (first | exact (Kd.R_reads' HO116.out).2.2 | (with_reducible refine Kd.C_alloc ?_ _) | (with_reducible refine Kd.C_drewN ?_ _) | (with_reducible refine Kd.C_drew ?_))); (case side2 => exact (Kd.R_reads' HO116.out).2.1); rintro e w19 ⟨rfl, hb⟩; have n0_ := Aside0.mk (Kd.R_below (by (with_reducible repeat (first | apply Kd.R_alloc | apply Kd.R_drewN | apply Kd.R_drew)); exact HO116.out) hb); have n1_ := Aside0.mk (Kd.R_below (by (with_reducible repeat (first | apply Kd.R_alloc | apply Kd.R_drewN | apply Kd.R_drew)); exact HO120.out) hb); have n2_ := Aside0.mk (Kd.R_below (by (with_reducible repeat (first | apply Kd.R_alloc | apply Kd.R_drewN | apply Kd.R_drew)); exact HO123.out) hb); have n3_ := Aside0.mk (Kd.R_below (by (with_reducible repeat (first | apply Kd.R_alloc | apply Kd.R_drewN | apply Kd.R_drew)); exact HO126.out) hb); have n4_ := Aside0.mk (blk_below (g := gb113) (o := .cells #[.int .i64 1, .string (⟨#[66, 65, 78, 75, 65]⟩ : ByteArray), .string (⟨#[66, 65, 78, 75, 66]⟩ : ByteArray), .string (⟨#[85, 83, 48, 51, 55, 56, 51, 51, 49, 48, 48, 53]⟩ : ByteArray), .int .i64 100, .int .i64 2500000, .int .i64 9812, .int .i64 9816, .int .i64 0, .bool false, .int .i64 0, .string (⟨#[68, 49]⟩ : ByteArray), .string (⟨#[82, 49]⟩ : ByteArray)] 31 (0, 0)) (by (with_reducible repeat (first | refine blk_drewN ?_ _ | refine blk_drew ?_ | refine blk_alloc ?_ _)); exact BK113.out) hb); have n5_ := Aside0.mk (below_step (by repeat (first | (with_reducible first | exact HB.out | apply below_alloc | apply pw_below_drewN | apply below_drew1 | refine below_set ?_ GE113.out) | exact HB.out)) hb); clear HO116; clear HO120; clear HO123; clear HO126; clear BK113; clear HB; have HO116 := n0_; have HO120 := n1_; have HO123 := n2_; have HO126 := n3_; have BK113 := n4_; have HB := n5_; clear n0_ n1_ n2_ n3_ n4_ n5_; (try clear hb); (try clear hb2); (try clear hk); (try clear hi)))
   go_ret
   exact ⟨by first | rfl | (simp [errW_none, errW_some] <;> rfl) | (simp [*, errW_none, errW_some] <;> rfl), by repeat (first | (with_reducible first | exact HB.out | apply below_alloc | apply pw_below_drewN | apply below_drew1 | refine below_set ?_ GE113.out) | exact HB.out)⟩
  ·replace c6 := Bool.eq_false_iff.mpr c6
   subst c6
   have H1 : (some false) = some r := by rw [if_neg (show ¬ (false = true) by decide)] at H; exact H
   clear H
   have H := H1
   clear H1
   obtain rfl := Option.some.inj H
   go_enter Tryd.func8, Tryd.ntmps8
   go_wp2_with (first | ((with_reducible refine gate_dst (N := 1) rfl ?_); refine box_event ?hg (N := 1) ?hd (cs := #[.int .i64 0, .string (⟨#[]⟩ : ByteArray), .string (⟨#[]⟩ : ByteArray), .string (⟨#[]⟩ : ByteArray), .int .i64 0, .int .i64 0, .int .i64 0, .int .i64 0, .int .i64 0, .bool false, .int .i64 0, .string (⟨#[]⟩ : ByteArray), .string (⟨#[]⟩ : ByteArray)]) (t := 31) ?hr ?_; (case hd => rfl); (case hg => rfl); (case hr => first | (go_simp; done) | (go_simp; rfl)); intro gb113 hg w20 hbox hb; have n0_ := Aside0.mk (below_step (by repeat (first | (with_reducible first | exact HB.out | apply below_alloc | apply pw_below_drewN | apply below_drew1) | exact HB.out)) hb); have n1_ := Aside0.mk (hbox); have n2_ := Aside0.mk ((by rw [hg]; exact (below_size (by repeat (first | (with_reducible first | exact HB.out | apply below_alloc | apply pw_below_drewN | apply below_drew1) | exact HB.out))) : w.heap.size ≤ gb113)); have n3_ := Aside0.mk ((by rw [hg]; exact (below_size (by repeat (first | (with_reducible first | exact HB.out | apply below_alloc | apply pw_below_drewN | apply below_drew1) | exact HB.out))) : w.heap.size ≤ gb113)); clear HB; have HB := n0_; have BK113 := n1_; have GW113 := n2_; have GE113 := n3_; clear n0_ n1_ n2_ n3_; clear hb hbox hg; have hcz21_0 : w20.cell? ⟨gb113, 0, none⟩ = some (.int .i64 0) := (blk_cell BK113.out 0).trans rfl; have hcz21_1 : w20.cell? ⟨gb113, 1, none⟩ = some (.string (⟨#[]⟩ : ByteArray)) := (blk_cell BK113.out 1).trans rfl; have hcz21_2 : w20.cell? ⟨gb113, 2, none⟩ = some (.string (⟨#[]⟩ : ByteArray)) := (blk_cell BK113.out 2).trans rfl; have hcz21_3 : w20.cell? ⟨gb113, 3, none⟩ = some (.string (⟨#[]⟩ : ByteArray)) := (blk_cell BK113.out 3).trans rfl; have hcz21_4 : w20.cell? ⟨gb113, 4, none⟩ = some (.int .i64 0) := (blk_cell BK113.out 4).trans rfl; have hcz21_5 : w20.cell? ⟨gb113, 5, none⟩ = some (.int .i64 0) := (blk_cell BK113.out 5).trans rfl; have hcz21_6 : w20.cell? ⟨gb113, 6, none⟩ = some (.int .i64 0) := (blk_cell BK113.out 6).trans rfl; have hcz21_7 : w20.cell? ⟨gb113, 7, none⟩ = some (.int .i64 0) := (blk_cell BK113.out 7).trans rfl; have hcz21_8 : w20.cell? ⟨gb113, 8, none⟩ = some (.int .i64 0) := (blk_cell BK113.out 8).trans rfl; have hcz21_9 : w20.cell? ⟨gb113, 9, none⟩ = some (.bool false) := (blk_cell BK113.out 9).trans rfl; have hcz21_10 : w20.cell? ⟨gb113, 10, none⟩ = some (.int .i64 0) := (blk_cell BK113.out 10).trans rfl; have hcz21_11 : w20.cell? ⟨gb113, 11, none⟩ = some (.string (⟨#[]⟩ : ByteArray)) := (blk_cell BK113.out 11).trans rfl; have hcz21_12 : w20.cell? ⟨gb113, 12, none⟩ = some (.string (⟨#[]⟩ : ByteArray)) := (blk_cell BK113.out 12).trans rfl; have hfz21_0 := blk_frozen BK113.out 0; have hfz21_1 := blk_frozen BK113.out 1; have hfz21_2 := blk_frozen BK113.out 2; have hfz21_3 := blk_frozen BK113.out 3; have hfz21_4 := blk_frozen BK113.out 4; have hfz21_5 := blk_frozen BK113.out 5; have hfz21_6 := blk_frozen BK113.out 6; have hfz21_7 := blk_frozen BK113.out 7; have hfz21_8 := blk_frozen BK113.out 8; have hfz21_9 := blk_frozen BK113.out 9; have hfz21_10 := blk_frozen BK113.out 10; have hfz21_11 := blk_frozen BK113.out 11; have hfz21_12 := blk_frozen BK113.out 12) | ((with_reducible refine gate_callee (f := 10) rfl ?_); refine goesL_ (some 9) rfl rfl Tryd.func10 (by kernel_rfl) rfl #[.agg #[.int .i64 1, .string (⟨#[66, 65, 78, 75, 65]⟩ : ByteArray), .string (⟨#[66, 65, 78, 75, 66]⟩ : ByteArray), .string (⟨#[85, 83, 48, 51, 55, 56, 51, 51, 49, 48, 48, 53]⟩ : ByteArray), .int .i64 100, .int .i64 2500000, .int .i64 9812, .int .i64 9816, .int .i64 0, .bool false, .int .i64 0, .string (⟨#[68, 49]⟩ : ByteArray), .string (⟨#[82, 49]⟩ : ByteArray)], .int .i64 0] rfl (by (try simp only [List.map_toArray, List.map_cons, List.map_nil]); first | done | rfl | (simp only [List.length_drop, List.length_take]; rfl)) ?_; (with_reducible refine (delivery_Postings.calls 1 (⟨#[66, 65, 78, 75, 65]⟩ : ByteArray) (⟨#[66, 65, 78, 75, 66]⟩ : ByteArray) (⟨#[85, 83, 48, 51, 55, 56, 51, 51, 49, 48, 48, 53]⟩ : ByteArray) 100 2500000 9812 9816 0 false 0 (⟨#[68, 49]⟩ : ByteArray) (⟨#[82, 49]⟩ : ByteArray) 0 t114 t117 _ A1.out).mono ?_); rintro e w22 ⟨v115, rfl, ho0, hb⟩; refine ⟨_, rfl, ?_⟩; have n0_ := Aside0.mk (Kd.R_lower ho0 (below_size (by repeat (first | (with_reducible first | exact HB.out | apply below_alloc | apply pw_below_drewN | apply below_drew1 | refine below_set ?_ GE113.out) | exact HB.out)))); have n1_ := Aside0.mk (blk_below (g := gb113) (o := .cells #[.int .i64 1, .string (⟨#[66, 65, 78, 75, 65]⟩ : ByteArray), .string (⟨#[66, 65, 78, 75, 66]⟩ : ByteArray), .string (⟨#[85, 83, 48, 51, 55, 56, 51, 51, 49, 48, 48, 53]⟩ : ByteArray), .int .i64 100, .int .i64 2500000, .int .i64 9812, .int .i64 9816, .int .i64 0, .bool false, .int .i64 0, .string (⟨#[68, 49]⟩ : ByteArray), .string (⟨#[82, 49]⟩ : ByteArray)] 31 (0, 0)) (by (with_reducible repeat (first | refine blk_drewN ?_ _ | refine blk_drew ?_ | refine blk_alloc ?_ _)); refine blk_put (cs := #[.int .i64 1, .string (⟨#[66, 65, 78, 75, 65]⟩ : ByteArray), .string (⟨#[66, 65, 78, 75, 66]⟩ : ByteArray), .string (⟨#[85, 83, 48, 51, 55, 56, 51, 51, 49, 48, 48, 53]⟩ : ByteArray), .int .i64 100, .int .i64 2500000, .int .i64 9812, .int .i64 9816, .int .i64 0, .bool false, .int .i64 0, .string (⟨#[68, 49]⟩ : ByteArray), .string (⟨#[]⟩ : ByteArray)]) ?_ 12 _ rfl; (with_reducible repeat (first | refine blk_drewN ?_ _ | refine blk_drew ?_ | refine blk_alloc ?_ _)); refine blk_put (cs := #[.int .i64 1, .string (⟨#[66, 65, 78, 75, 65]⟩ : ByteArray), .string (⟨#[66, 65, 78, 75, 66]⟩ : ByteArray), .string (⟨#[85, 83, 48, 51, 55, 56, 51, 51, 49, 48, 48, 53]⟩ : ByteArray), .int .i64 100, .int .i64 2500000, .int .i64 9812, .int .i64 9816, .int .i64 0, .bool false, .int .i64 0, .string (⟨#[]⟩ : ByteArray), .string (⟨#[]⟩ : ByteArray)]) ?_ 11 _ rfl; (with_reducible repeat (first | refine blk_drewN ?_ _ | refine blk_drew ?_ | refine blk_alloc ?_ _)); refine blk_put (cs := #[.int .i64 1, .string (⟨#[66, 65, 78, 75, 65]⟩ : ByteArray), .string (⟨#[66, 65, 78, 75, 66]⟩ : ByteArray), .string (⟨#[85, 83, 48, 51, 55, 56, 51, 51, 49, 48, 48, 53]⟩ : ByteArray), .int .i64 100, .int .i64 2500000, .int .i64 9812, .int .i64 9816, .int .i64 0, .bool false, .int .i64 0, .string (⟨#[]⟩ : ByteArray), .string (⟨#[]⟩ : ByteArray)]) ?_ 10 _ rfl; (with_reducible repeat (first | refine blk_drewN ?_ _ | refine blk_drew ?_ | refine blk_alloc ?_ _)); refine blk_put (cs := #[.int .i64 1, .string (⟨#[66, 65, 78, 75, 65]⟩ : ByteArray), .string (⟨#[66, 65, 78, 75, 66]⟩ : ByteArray), .string (⟨#[85, 83, 48, 51, 55, 56, 51, 51, 49, 48, 48, 53]⟩ : ByteArray), .int .i64 100, .int .i64 2500000, .int .i64 9812, .int .i64 9816, .int .i64 0, .bool false, .int .i64 0, .string (⟨#[]⟩ : ByteArray), .string (⟨#[]⟩ : ByteArray)]) ?_ 9 _ rfl; (with_reducible repeat (first | refine blk_drewN ?_ _ | refine blk_drew ?_ | refine blk_alloc ?_ _)); refine blk_put (cs := #[.int .i64 1, .string (⟨#[66, 65, 78, 75, 65]⟩ : ByteArray), .string (⟨#[66, 65, 78, 75, 66]⟩ : ByteArray), .string (⟨#[85, 83, 48, 51, 55, 56, 51, 51, 49, 48, 48, 53]⟩ : ByteArray), .int .i64 100, .int .i64 2500000, .int .i64 9812, .int .i64 9816, .int .i64 0, .bool false, .int .i64 0, .string (⟨#[]⟩ : ByteArray), .string (⟨#[]⟩ : ByteArray)]) ?_ 8 _ rfl; (with_reducible repeat (first | refine blk_drewN ?_ _ | refine blk_drew ?_ | refine blk_alloc ?_ _)); refine blk_put (cs := #[.int .i64 1, .string (⟨#[66, 65, 78, 75, 65]⟩ : ByteArray), .string (⟨#[66, 65, 78, 75, 66]⟩ : ByteArray), .string (⟨#[85, 83, 48, 51, 55, 56, 51, 51, 49, 48, 48, 53]⟩ : ByteArray), .int .i64 100, .int .i64 2500000, .int .i64 9812, .int .i64 0, .int .i64 0, .bool false, .int .i64 0, .string (⟨#[]⟩ : ByteArray), .string (⟨#[]⟩ : ByteArray)]) ?_ 7 _ rfl; (with_reducible repeat (first | refine blk_drewN ?_ _ | refine blk_drew ?_ | refine blk_alloc ?_ _)); refine blk_put (cs := #[.int .i64 1, .string (⟨#[66, 65, 78, 75, 65]⟩ : ByteArray), .string (⟨#[66, 65, 78, 75, 66]⟩ : ByteArray), .string (⟨#[85, 83, 48, 51, 55, 56, 51, 51, 49, 48, 48, 53]⟩ : ByteArray), .int .i64 100, .int .i64 2500000, .int .i64 0, .int .i64 0, .int .i64 0, .bool false, .int .i64 0, .string (⟨#[]⟩ : ByteArray), .string (⟨#[]⟩ : ByteArray)]) ?_ 6 _ rfl; (with_reducible repeat (first | refine blk_drewN ?_ _ | refine blk_drew ?_ | refine blk_alloc ?_ _)); refine blk_put (cs := #[.int .i64 1, .string (⟨#[66, 65, 78, 75, 65]⟩ : ByteArray), .string (⟨#[66, 65, 78, 75, 66]⟩ : ByteArray), .string (⟨#[85, 83, 48, 51, 55, 56, 51, 51, 49, 48, 48, 53]⟩ : ByteArray), .int .i64 100, .int .i64 0, .int .i64 0, .int .i64 0, .int .i64 0, .bool false, .int .i64 0, .string (⟨#[]⟩ : ByteArray), .string (⟨#[]⟩ : ByteArray)]) ?_ 5 _ rfl; (with_reducible repeat (first | refine blk_drewN ?_ _ | refine blk_drew ?_ | refine blk_alloc ?_ _)); refine blk_put (cs := #[.int .i64 1, .string (⟨#[66, 65, 78, 75, 65]⟩ : ByteArray), .string (⟨#[66, 65, 78, 75, 66]⟩ : ByteArray), .string (⟨#[85, 83, 48, 51, 55, 56, 51, 51, 49, 48, 48, 53]⟩ : ByteArray), .int .i64 0, .int .i64 0, .int .i64 0, .int .i64 0, .int .i64 0, .bool false, .int .i64 0, .string (⟨#[]⟩ : ByteArray), .string (⟨#[]⟩ : ByteArray)]) ?_ 4 _ rfl; (with_reducible repeat (first | refine blk_drewN ?_ _ | refine blk_drew ?_ | refine blk_alloc ?_ _)); refine blk_put (cs := #[.int .i64 1, .string (⟨#[66, 65, 78, 75, 65]⟩ : ByteArray), .string (⟨#[66, 65, 78, 75, 66]⟩ : ByteArray), .string (⟨#[]⟩ : ByteArray), .int .i64 0, .int .i64 0, .int .i64 0, .int .i64 0, .int .i64 0, .bool false, .int .i64 0, .string (⟨#[]⟩ : ByteArray), .string (⟨#[]⟩ : ByteArray)]) ?_ 3 _ rfl; (with_reducible repeat (first | refine blk_drewN ?_ _ | refine blk_drew ?_ | refine blk_alloc ?_ _)); refine blk_put (cs := #[.int .i64 1, .string (⟨#[66, 65, 78, 75, 65]⟩ : ByteArray), .string (⟨#[]⟩ : ByteArray), .string (⟨#[]⟩ : ByteArray), .int .i64 0, .int .i64 0, .int .i64 0, .int .i64 0, .int .i64 0, .bool false, .int .i64 0, .string (⟨#[]⟩ : ByteArray), .string (⟨#[]⟩ : ByteArray)]) ?_ 2 _ rfl; (with_reducible repeat (first | refine blk_drewN ?_ _ | refine blk_drew ?_ | refine blk_alloc ?_ _)); refine blk_put (cs := #[.int .i64 1, .string (⟨#[]⟩ : ByteArray), .string (⟨#[]⟩ : ByteArray), .string (⟨#[]⟩ : ByteArray), .int .i64 0, .int .i64 0, .int .i64 0, .int .i64 0, .int .i64 0, .bool false, .int .i64 0, .string (⟨#[]⟩ : ByteArray), .string (⟨#[]⟩ : ByteArray)]) ?_ 1 _ rfl; (with_reducible repeat (first | refine blk_drewN ?_ _ | refine blk_drew ?_ | refine blk_alloc ?_ _)); refine blk_put (cs := #[.int .i64 0, .string (⟨#[]⟩ : ByteArray), .string (⟨#[]⟩ : ByteArray), .string (⟨#[]⟩ : ByteArray), .int .i64 0, .int .i64 0, .int .i64 0, .int .i64 0, .int .i64 0, .bool false, .int .i64 0, .string (⟨#[]⟩ : ByteArray), .string (⟨#[]⟩ : ByteArray)]) ?_ 0 _ rfl; (with_reducible repeat (first | refine blk_drewN ?_ _ | refine blk_drew ?_ | refine blk_alloc ?_ _)); exact BK113.out) hb); have n2_ := Aside0.mk (below_step (by repeat (first | (with_reducible first | exact HB.out | apply below_alloc | apply pw_below_drewN | apply below_drew1 | refine below_set ?_ GE113.out) | exact HB.out)) hb); clear BK113; clear HB; have HO116 := n0_; have BK113 := n1_; have HB := n2_; clear n0_ n1_ n2_; (try clear hb); (try clear hb2); (try clear hk); (try clear hi); (try clear ho0)) | ((with_reducible refine gate_dst (N := 20) rfl ?_); refine Kd.R_lit k68 _ 68 ?hg (N := 20) ?hd (xs := ([(⟨(⟨(⟨#[66, 65, 78, 75, 65]⟩ : ByteArray), 0, (⟨#[85, 83, 48, 51, 55, 56, 51, 51, 49, 48, 48, 53]⟩ : ByteArray)⟩ : S66), (-100)⟩ : S68), (⟨(⟨(⟨#[66, 65, 78, 75, 66]⟩ : ByteArray), 0, (⟨#[85, 83, 48, 51, 55, 56, 51, 51, 49, 48, 48, 53]⟩ : ByteArray)⟩ : S66), 100⟩ : S68), (⟨(⟨(⟨#[66, 65, 78, 75, 66]⟩ : ByteArray), 0, (⟨#[67, 65, 83, 72]⟩ : ByteArray)⟩ : S66), (-2500000)⟩ : S68), (⟨(⟨(⟨#[66, 65, 78, 75, 65]⟩ : ByteArray), 0, (⟨#[67, 65, 83, 72]⟩ : ByteArray)⟩ : S66), 2500000⟩ : S68)] : List (S68))) (inner := [.string (⟨#[66, 65, 78, 75, 65]⟩ : ByteArray), .int .i64 0, .string (⟨#[85, 83, 48, 51, 55, 56, 51, 51, 49, 48, 48, 53]⟩ : ByteArray), .int .i64 (-100), .string (⟨#[66, 65, 78, 75, 66]⟩ : ByteArray), .int .i64 0, .string (⟨#[85, 83, 48, 51, 55, 56, 51, 51, 49, 48, 48, 53]⟩ : ByteArray), .int .i64 100, .string (⟨#[66, 65, 78, 75, 66]⟩ : ByteArray), .int .i64 0, .string (⟨#[67, 65, 83, 72]⟩ : ByteArray), .int .i64 (-2500000), .string (⟨#[66, 65, 78, 75, 65]⟩ : ByteArray), .int .i64 0, .string (⟨#[67, 65, 83, 72]⟩ : ByteArray), .int .i64 2500000]) (ok := fun _ => True) (okp := fun _ => True) ?hr ?hp (fun _ hk => hk) trivial (Below.refl _ _) (Nat.le_refl _) (by simp) ?_; (case hd => rfl); (case hg => rfl); (case hr => first | (go_simp; done) | (go_simp; rfl)); (case hp => exact (Reps.c4 (show Kd.M k68 _ _ _ (⟨(⟨(⟨#[66, 65, 78, 75, 65]⟩ : ByteArray), 0, (⟨#[85, 83, 48, 51, 55, 56, 51, 51, 49, 48, 48, 53]⟩ : ByteArray)⟩ : S66), (-100)⟩ : S68) [.string (⟨#[66, 65, 78, 75, 65]⟩ : ByteArray), .int .i64 0, .string (⟨#[85, 83, 48, 51, 55, 56, 51, 51, 49, 48, 48, 53]⟩ : ByteArray), .int .i64 (-100)] from (k68_mkM _ _ _ (⟨(⟨(⟨#[66, 65, 78, 75, 65]⟩ : ByteArray), 0, (⟨#[85, 83, 48, 51, 55, 56, 51, 51, 49, 48, 48, 53]⟩ : ByteArray)⟩ : S66), (-100)⟩ : S68) )) (Reps.c4 (show Kd.M k68 _ _ _ (⟨(⟨(⟨#[66, 65, 78, 75, 66]⟩ : ByteArray), 0, (⟨#[85, 83, 48, 51, 55, 56, 51, 51, 49, 48, 48, 53]⟩ : ByteArray)⟩ : S66), 100⟩ : S68) [.string (⟨#[66, 65, 78, 75, 66]⟩ : ByteArray), .int .i64 0, .string (⟨#[85, 83, 48, 51, 55, 56, 51, 51, 49, 48, 48, 53]⟩ : ByteArray), .int .i64 100] from (k68_mkM _ _ _ (⟨(⟨(⟨#[66, 65, 78, 75, 66]⟩ : ByteArray), 0, (⟨#[85, 83, 48, 51, 55, 56, 51, 51, 49, 48, 48, 53]⟩ : ByteArray)⟩ : S66), 100⟩ : S68) )) (Reps.c4 (show Kd.M k68 _ _ _ (⟨(⟨(⟨#[66, 65, 78, 75, 66]⟩ : ByteArray), 0, (⟨#[67, 65, 83, 72]⟩ : ByteArray)⟩ : S66), (-2500000)⟩ : S68) [.string (⟨#[66, 65, 78, 75, 66]⟩ : ByteArray), .int .i64 0, .string (⟨#[67, 65, 83, 72]⟩ : ByteArray), .int .i64 (-2500000)] from (k68_mkM _ _ _ (⟨(⟨(⟨#[66, 65, 78, 75, 66]⟩ : ByteArray), 0, (⟨#[67, 65, 83, 72]⟩ : ByteArray)⟩ : S66), (-2500000)⟩ : S68) )) (Reps.c4 (show Kd.M k68 _ _ _ (⟨(⟨(⟨#[66, 65, 78, 75, 65]⟩ : ByteArray), 0, (⟨#[67, 65, 83, 72]⟩ : ByteArray)⟩ : S66), 2500000⟩ : S68) [.string (⟨#[66, 65, 78, 75, 65]⟩ : ByteArray), .int .i64 0, .string (⟨#[67, 65, 83, 72]⟩ : ByteArray), .int .i64 2500000] from (k68_mkM _ _ _ (⟨(⟨(⟨#[66, 65, 78, 75, 65]⟩ : ByteArray), 0, (⟨#[67, 65, 83, 72]⟩ : ByteArray)⟩ : S66), 2500000⟩ : S68) )) (Reps.none _ _)))))); intro v119 w23 ho24 hb hg_ hnew_; clear hg_ hnew_; (first | rw [← Ny118.out] at ho24 | (simp only [Int.reduceToNat] at ho24; rw [← Ny118.out] at ho24)); have n0_ := Aside0.mk (Kd.R_elder' (by (with_reducible repeat (first | apply Kd.R_alloc | apply Kd.R_drewN | apply Kd.R_drew)); exact HO116.out) (Kd.R_base ho24) hb); have n1_ := Aside0.mk (Kd.R_lower (Kd.R_new' ho24 (Kd.R_lt (by (with_reducible repeat (first | apply Kd.R_alloc | apply Kd.R_drewN | apply Kd.R_drew)); exact HO116.out))) (below_size (by repeat (first | (with_reducible first | exact HB.out | apply below_alloc | apply pw_below_drewN | apply below_drew1 | refine below_set ?_ GE113.out) | exact HB.out)))); have n2_ := Aside0.mk (blk_below (g := gb113) (o := .cells #[.int .i64 1, .string (⟨#[66, 65, 78, 75, 65]⟩ : ByteArray), .string (⟨#[66, 65, 78, 75, 66]⟩ : ByteArray), .string (⟨#[85, 83, 48, 51, 55, 56, 51, 51, 49, 48, 48, 53]⟩ : ByteArray), .int .i64 100, .int .i64 2500000, .int .i64 9812, .int .i64 9816, .int .i64 0, .bool false, .int .i64 0, .string (⟨#[68, 49]⟩ : ByteArray), .string (⟨#[82, 49]⟩ : ByteArray)] 31 (0, 0)) (by (with_reducible repeat (first | refine blk_drewN ?_ _ | refine blk_drew ?_ | refine blk_alloc ?_ _)); exact BK113.out) hb); have n3_ := Aside0.mk (below_step (by repeat (first | (with_reducible first | exact HB.out | apply below_alloc | apply pw_below_drewN | apply below_drew1 | refine below_set ?_ GE113.out) | exact HB.out)) hb); clear HO116; clear BK113; clear HB; have HO116 := n0_; have HO120 := n1_; have BK113 := n2_; have HB := n3_; clear n0_ n1_ n2_ n3_; clear hb ho24; obtain ⟨Ao25, co25, eo25⟩ := Kd.R_slice HO116.out; subst eo25) | (go_at_call 13; (with_reducible refine (girolaw15_Postings.calls k _ _ t114 t121 _ ?side1 ?side2 A3.out).mono ?_); (case side1 => repeat (first | exact (Kd.R_reads' HO116.out).2.2 | (with_reducible refine Kd.C_alloc ?_ _) | (with_reducible refine Kd.C_drewN ?_ _) | (with_reducible refine Kd.C_drew ?_))); (case side2 => exact (Kd.R_reads' HO116.out).2.1); rintro e w26 ⟨v122, rfl, ho0, hb⟩; have n0_ := Aside0.mk (Kd.R_below (by (with_reducible repeat (first | apply Kd.R_alloc | apply Kd.R_drewN | apply Kd.R_drew)); exact HO116.out) hb); have n1_ := Aside0.mk (Kd.R_below (by (with_reducible repeat (first | apply Kd.R_alloc | apply Kd.R_drewN | apply Kd.R_drew)); exact HO120.out) hb); have n2_ := Aside0.mk (Kd.R_lower ho0 (below_size (by repeat (first | (with_reducible first | exact HB.out | apply below_alloc | apply pw_below_drewN | apply below_drew1 | refine below_set ?_ GE113.out) | exact HB.out)))); have n3_ := Aside0.mk (blk_below (g := gb113) (o := .cells #[.int .i64 1, .string (⟨#[66, 65, 78, 75, 65]⟩ : ByteArray), .string (⟨#[66, 65, 78, 75, 66]⟩ : ByteArray), .string (⟨#[85, 83, 48, 51, 55, 56, 51, 51, 49, 48, 48, 53]⟩ : ByteArray), .int .i64 100, .int .i64 2500000, .int .i64 9812, .int .i64 9816, .int .i64 0, .bool false, .int .i64 0, .string (⟨#[68, 49]⟩ : ByteArray), .string (⟨#[82, 49]⟩ : ByteArray)] 31 (0, 0)) (by (with_reducible repeat (first | refine blk_drewN ?_ _ | refine blk_drew ?_ | refine blk_alloc ?_ _)); exact BK113.out) hb); have n4_ := Aside0.mk (below_step (by repeat (first | (with_reducible first | exact HB.out | apply below_alloc | apply pw_below_drewN | apply below_drew1 | refine below_set ?_ GE113.out) | exact HB.out)) hb); clear HO116; clear HO120; clear BK113; clear HB; have HO116 := n0_; have HO120 := n1_; have HO123 := n2_; have BK113 := n3_; have HB := n4_; clear n0_ n1_ n2_ n3_ n4_; (try clear hb); (try clear hb2); (try clear hk); (try clear hi); (try clear ho0); obtain ⟨Ao27, co27, eo27⟩ := Kd.R_slice HO120.out; subst eo27) | (go_at_call 13; (with_reducible refine (girolaw15_Postings.calls k _ _ y118 t124 _ ?side1 ?side2 A4.out).mono ?_); (case side1 => repeat (first | exact (Kd.R_reads' HO120.out).2.2 | (with_reducible refine Kd.C_alloc ?_ _) | (with_reducible refine Kd.C_drewN ?_ _) | (with_reducible refine Kd.C_drew ?_))); (case side2 => exact (Kd.R_reads' HO120.out).2.1); rintro e w28 ⟨v125, rfl, ho0, hb⟩; have n0_ := Aside0.mk (Kd.R_below (by (with_reducible repeat (first | apply Kd.R_alloc | apply Kd.R_drewN | apply Kd.R_drew)); exact HO116.out) hb); have n1_ := Aside0.mk (Kd.R_below (by (with_reducible repeat (first | apply Kd.R_alloc | apply Kd.R_drewN | apply Kd.R_drew)); exact HO120.out) hb); have n2_ := Aside0.mk (Kd.R_elder' (by (with_reducible repeat (first | apply Kd.R_alloc | apply Kd.R_drewN | apply Kd.R_drew)); exact HO123.out) (Kd.R_base ho0) hb); have n3_ := Aside0.mk (Kd.R_lower (Kd.R_new' ho0 (Kd.R_lt (by (with_reducible repeat (first | apply Kd.R_alloc | apply Kd.R_drewN | apply Kd.R_drew)); exact HO123.out))) (below_size (by repeat (first | (with_reducible first | exact HB.out | apply below_alloc | apply pw_below_drewN | apply below_drew1 | refine below_set ?_ GE113.out) | exact HB.out)))); have n4_ := Aside0.mk (blk_below (g := gb113) (o := .cells #[.int .i64 1, .string (⟨#[66, 65, 78, 75, 65]⟩ : ByteArray), .string (⟨#[66, 65, 78, 75, 66]⟩ : ByteArray), .string (⟨#[85, 83, 48, 51, 55, 56, 51, 51, 49, 48, 48, 53]⟩ : ByteArray), .int .i64 100, .int .i64 2500000, .int .i64 9812, .int .i64 9816, .int .i64 0, .bool false, .int .i64 0, .string (⟨#[68, 49]⟩ : ByteArray), .string (⟨#[82, 49]⟩ : ByteArray)] 31 (0, 0)) (by (with_reducible repeat (first | refine blk_drewN ?_ _ | refine blk_drew ?_ | refine blk_alloc ?_ _)); exact BK113.out) hb); have n5_ := Aside0.mk (below_step (by repeat (first | (with_reducible first | exact HB.out | apply below_alloc | apply pw_below_drewN | apply below_drew1 | refine below_set ?_ GE113.out) | exact HB.out)) hb); clear HO116; clear HO120; clear HO123; clear BK113; clear HB; have HO116 := n0_; have HO120 := n1_; have HO123 := n2_; have HO126 := n3_; have BK113 := n4_; have HB := n5_; clear n0_ n1_ n2_ n3_ n4_ n5_; (try clear hb); (try clear hb2); (try clear hk); (try clear hi); (try clear ho0); obtain ⟨Ao29, co29, eo29⟩ := Kd.R_slice HO123.out; subst eo29; obtain ⟨Ao30, co30, eo30⟩ := Kd.R_slice HO126.out; subst eo30) | (go_at_call 12; (with_reducible refine (girolaw39_same.calls k _ _ t121 _ _ t124 false _ ?side1 ?side2 ?side3 ?side4 A5.out).mono ?_); (case side1 => repeat (first | exact (Kd.R_reads' HO123.out).2.2 | (with_reducible refine Kd.C_alloc ?_ _) | (with_reducible refine Kd.C_drewN ?_ _) | (with_reducible refine Kd.C_drew ?_))); (case side2 => exact (Kd.R_reads' HO123.out).2.1); (case side3 => repeat (first | exact (Kd.R_reads' HO126.out).2.2 | (with_reducible refine Kd.C_alloc ?_ _) | (with_reducible refine Kd.C_drewN ?_ _) | (with_reducible refine Kd.C_drew ?_))); (case side4 => exact (Kd.R_reads' HO126.out).2.1); rintro e w' ⟨rfl, ⟨nd, rfl⟩⟩))
   go_ret
   exact ⟨by first | rfl | (simp [errW_none, errW_some] <;> rfl) | (simp [*, errW_none, errW_some] <;> rfl), by repeat (first | (with_reducible first | exact HB.out | apply below_alloc | apply pw_below_drewN | apply below_drew1 | refine below_set ?_ GE113.out) | exact HB.out)⟩
 ·rw [if_neg c2] at H
  have c2b0 : (t117 == 0) = false := beq_eq_false_iff_ne.mpr c2
  have c2b1 : (t117 != 0) = true := bne_iff_ne.mpr c2
  obtain rfl := Option.some.inj H
  go_enter Tryd.func8, Tryd.ntmps8
  go_wp2_with (first | ((with_reducible refine gate_dst (N := 1) rfl ?_); refine box_event ?hg (N := 1) ?hd (cs := #[.int .i64 0, .string (⟨#[]⟩ : ByteArray), .string (⟨#[]⟩ : ByteArray), .string (⟨#[]⟩ : ByteArray), .int .i64 0, .int .i64 0, .int .i64 0, .int .i64 0, .int .i64 0, .bool false, .int .i64 0, .string (⟨#[]⟩ : ByteArray), .string (⟨#[]⟩ : ByteArray)]) (t := 31) ?hr ?_; (case hd => rfl); (case hg => rfl); (case hr => first | (go_simp; done) | (go_simp; rfl)); intro gb113 hg w31 hbox hb; have n0_ := Aside0.mk (below_step (by repeat (first | (with_reducible first | exact HB.out | apply below_alloc | apply pw_below_drewN | apply below_drew1) | exact HB.out)) hb); have n1_ := Aside0.mk (hbox); have n2_ := Aside0.mk ((by rw [hg]; exact (below_size (by repeat (first | (with_reducible first | exact HB.out | apply below_alloc | apply pw_below_drewN | apply below_drew1) | exact HB.out))) : w.heap.size ≤ gb113)); have n3_ := Aside0.mk ((by rw [hg]; exact (below_size (by repeat (first | (with_reducible first | exact HB.out | apply below_alloc | apply pw_below_drewN | apply below_drew1) | exact HB.out))) : w.heap.size ≤ gb113)); clear HB; have HB := n0_; have BK113 := n1_; have GW113 := n2_; have GE113 := n3_; clear n0_ n1_ n2_ n3_; clear hb hbox hg; have hcz32_0 : w31.cell? ⟨gb113, 0, none⟩ = some (.int .i64 0) := (blk_cell BK113.out 0).trans rfl; have hcz32_1 : w31.cell? ⟨gb113, 1, none⟩ = some (.string (⟨#[]⟩ : ByteArray)) := (blk_cell BK113.out 1).trans rfl; have hcz32_2 : w31.cell? ⟨gb113, 2, none⟩ = some (.string (⟨#[]⟩ : ByteArray)) := (blk_cell BK113.out 2).trans rfl; have hcz32_3 : w31.cell? ⟨gb113, 3, none⟩ = some (.string (⟨#[]⟩ : ByteArray)) := (blk_cell BK113.out 3).trans rfl; have hcz32_4 : w31.cell? ⟨gb113, 4, none⟩ = some (.int .i64 0) := (blk_cell BK113.out 4).trans rfl; have hcz32_5 : w31.cell? ⟨gb113, 5, none⟩ = some (.int .i64 0) := (blk_cell BK113.out 5).trans rfl; have hcz32_6 : w31.cell? ⟨gb113, 6, none⟩ = some (.int .i64 0) := (blk_cell BK113.out 6).trans rfl; have hcz32_7 : w31.cell? ⟨gb113, 7, none⟩ = some (.int .i64 0) := (blk_cell BK113.out 7).trans rfl; have hcz32_8 : w31.cell? ⟨gb113, 8, none⟩ = some (.int .i64 0) := (blk_cell BK113.out 8).trans rfl; have hcz32_9 : w31.cell? ⟨gb113, 9, none⟩ = some (.bool false) := (blk_cell BK113.out 9).trans rfl; have hcz32_10 : w31.cell? ⟨gb113, 10, none⟩ = some (.int .i64 0) := (blk_cell BK113.out 10).trans rfl; have hcz32_11 : w31.cell? ⟨gb113, 11, none⟩ = some (.string (⟨#[]⟩ : ByteArray)) := (blk_cell BK113.out 11).trans rfl; have hcz32_12 : w31.cell? ⟨gb113, 12, none⟩ = some (.string (⟨#[]⟩ : ByteArray)) := (blk_cell BK113.out 12).trans rfl; have hfz32_0 := blk_frozen BK113.out 0; have hfz32_1 := blk_frozen BK113.out 1; have hfz32_2 := blk_frozen BK113.out 2; have hfz32_3 := blk_frozen BK113.out 3; have hfz32_4 := blk_frozen BK113.out 4; have hfz32_5 := blk_frozen BK113.out 5; have hfz32_6 := blk_frozen BK113.out 6; have hfz32_7 := blk_frozen BK113.out 7; have hfz32_8 := blk_frozen BK113.out 8; have hfz32_9 := blk_frozen BK113.out 9; have hfz32_10 := blk_frozen BK113.out 10; have hfz32_11 := blk_frozen BK113.out 11; have hfz32_12 := blk_frozen BK113.out 12) | ((with_reducible refine gate_callee (f := 10) rfl ?_); refine goesL_ (some 9) rfl rfl Tryd.func10 (by kernel_rfl) rfl #[.agg #[.int .i64 1, .string (⟨#[66, 65, 78, 75, 65]⟩ : ByteArray), .string (⟨#[66, 65, 78, 75, 66]⟩ : ByteArray), .string (⟨#[85, 83, 48, 51, 55, 56, 51, 51, 49, 48, 48, 53]⟩ : ByteArray), .int .i64 100, .int .i64 2500000, .int .i64 9812, .int .i64 9816, .int .i64 0, .bool false, .int .i64 0, .string (⟨#[68, 49]⟩ : ByteArray), .string (⟨#[82, 49]⟩ : ByteArray)], .int .i64 0] rfl (by (try simp only [List.map_toArray, List.map_cons, List.map_nil]); first | done | rfl | (simp only [List.length_drop, List.length_take]; rfl)) ?_; (with_reducible refine (delivery_Postings.calls 1 (⟨#[66, 65, 78, 75, 65]⟩ : ByteArray) (⟨#[66, 65, 78, 75, 66]⟩ : ByteArray) (⟨#[85, 83, 48, 51, 55, 56, 51, 51, 49, 48, 48, 53]⟩ : ByteArray) 100 2500000 9812 9816 0 false 0 (⟨#[68, 49]⟩ : ByteArray) (⟨#[82, 49]⟩ : ByteArray) 0 t114 t117 _ A1.out).mono ?_); rintro e w33 ⟨v115, rfl, ho0, hb⟩; refine ⟨_, rfl, ?_⟩; have n0_ := Aside0.mk (Kd.R_lower ho0 (below_size (by repeat (first | (with_reducible first | exact HB.out | apply below_alloc | apply pw_below_drewN | apply below_drew1 | refine below_set ?_ GE113.out) | exact HB.out)))); have n1_ := Aside0.mk (blk_below (g := gb113) (o := .cells #[.int .i64 1, .string (⟨#[66, 65, 78, 75, 65]⟩ : ByteArray), .string (⟨#[66, 65, 78, 75, 66]⟩ : ByteArray), .string (⟨#[85, 83, 48, 51, 55, 56, 51, 51, 49, 48, 48, 53]⟩ : ByteArray), .int .i64 100, .int .i64 2500000, .int .i64 9812, .int .i64 9816, .int .i64 0, .bool false, .int .i64 0, .string (⟨#[68, 49]⟩ : ByteArray), .string (⟨#[82, 49]⟩ : ByteArray)] 31 (0, 0)) (by (with_reducible repeat (first | refine blk_drewN ?_ _ | refine blk_drew ?_ | refine blk_alloc ?_ _)); refine blk_put (cs := #[.int .i64 1, .string (⟨#[66, 65, 78, 75, 65]⟩ : ByteArray), .string (⟨#[66, 65, 78, 75, 66]⟩ : ByteArray), .string (⟨#[85, 83, 48, 51, 55, 56, 51, 51, 49, 48, 48, 53]⟩ : ByteArray), .int .i64 100, .int .i64 2500000, .int .i64 9812, .int .i64 9816, .int .i64 0, .bool false, .int .i64 0, .string (⟨#[68, 49]⟩ : ByteArray), .string (⟨#[]⟩ : ByteArray)]) ?_ 12 _ rfl; (with_reducible repeat (first | refine blk_drewN ?_ _ | refine blk_drew ?_ | refine blk_alloc ?_ _)); refine blk_put (cs := #[.int .i64 1, .string (⟨#[66, 65, 78, 75, 65]⟩ : ByteArray), .string (⟨#[66, 65, 78, 75, 66]⟩ : ByteArray), .string (⟨#[85, 83, 48, 51, 55, 56, 51, 51, 49, 48, 48, 53]⟩ : ByteArray), .int .i64 100, .int .i64 2500000, .int .i64 9812, .int .i64 9816, .int .i64 0, .bool false, .int .i64 0, .string (⟨#[]⟩ : ByteArray), .string (⟨#[]⟩ : ByteArray)]) ?_ 11 _ rfl; (with_reducible repeat (first | refine blk_drewN ?_ _ | refine blk_drew ?_ | refine blk_alloc ?_ _)); refine blk_put (cs := #[.int .i64 1, .string (⟨#[66, 65, 78, 75, 65]⟩ : ByteArray), .string (⟨#[66, 65, 78, 75, 66]⟩ : ByteArray), .string (⟨#[85, 83, 48, 51, 55, 56, 51, 51, 49, 48, 48, 53]⟩ : ByteArray), .int .i64 100, .int .i64 2500000, .int .i64 9812, .int .i64 9816, .int .i64 0, .bool false, .int .i64 0, .string (⟨#[]⟩ : ByteArray), .string (⟨#[]⟩ : ByteArray)]) ?_ 10 _ rfl; (with_reducible repeat (first | refine blk_drewN ?_ _ | refine blk_drew ?_ | refine blk_alloc ?_ _)); refine blk_put (cs := #[.int .i64 1, .string (⟨#[66, 65, 78, 75, 65]⟩ : ByteArray), .string (⟨#[66, 65, 78, 75, 66]⟩ : ByteArray), .string (⟨#[85, 83, 48, 51, 55, 56, 51, 51, 49, 48, 48, 53]⟩ : ByteArray), .int .i64 100, .int .i64 2500000, .int .i64 9812, .int .i64 9816, .int .i64 0, .bool false, .int .i64 0, .string (⟨#[]⟩ : ByteArray), .string (⟨#[]⟩ : ByteArray)]) ?_ 9 _ rfl; (with_reducible repeat (first | refine blk_drewN ?_ _ | refine blk_drew ?_ | refine blk_alloc ?_ _)); refine blk_put (cs := #[.int .i64 1, .string (⟨#[66, 65, 78, 75, 65]⟩ : ByteArray), .string (⟨#[66, 65, 78, 75, 66]⟩ : ByteArray), .string (⟨#[85, 83, 48, 51, 55, 56, 51, 51, 49, 48, 48, 53]⟩ : ByteArray), .int .i64 100, .int .i64 2500000, .int .i64 9812, .int .i64 9816, .int .i64 0, .bool false, .int .i64 0, .string (⟨#[]⟩ : ByteArray), .string (⟨#[]⟩ : ByteArray)]) ?_ 8 _ rfl; (with_reducible repeat (first | refine blk_drewN ?_ _ | refine blk_drew ?_ | refine blk_alloc ?_ _)); refine blk_put (cs := #[.int .i64 1, .string (⟨#[66, 65, 78, 75, 65]⟩ : ByteArray), .string (⟨#[66, 65, 78, 75, 66]⟩ : ByteArray), .string (⟨#[85, 83, 48, 51, 55, 56, 51, 51, 49, 48, 48, 53]⟩ : ByteArray), .int .i64 100, .int .i64 2500000, .int .i64 9812, .int .i64 0, .int .i64 0, .bool false, .int .i64 0, .string (⟨#[]⟩ : ByteArray), .string (⟨#[]⟩ : ByteArray)]) ?_ 7 _ rfl; (with_reducible repeat (first | refine blk_drewN ?_ _ | refine blk_drew ?_ | refine blk_alloc ?_ _)); refine blk_put (cs := #[.int .i64 1, .string (⟨#[66, 65, 78, 75, 65]⟩ : ByteArray), .string (⟨#[66, 65, 78, 75, 66]⟩ : ByteArray), .string (⟨#[85, 83, 48, 51, 55, 56, 51, 51, 49, 48, 48, 53]⟩ : ByteArray), .int .i64 100, .int .i64 2500000, .int .i64 0, .int .i64 0, .int .i64 0, .bool false, .int .i64 0, .string (⟨#[]⟩ : ByteArray), .string (⟨#[]⟩ : ByteArray)]) ?_ 6 _ rfl; (with_reducible repeat (first | refine blk_drewN ?_ _ | refine blk_drew ?_ | refine blk_alloc ?_ _)); refine blk_put (cs := #[.int .i64 1, .string (⟨#[66, 65, 78, 75, 65]⟩ : ByteArray), .string (⟨#[66, 65, 78, 75, 66]⟩ : ByteArray), .string (⟨#[85, 83, 48, 51, 55, 56, 51, 51, 49, 48, 48, 53]⟩ : ByteArray), .int .i64 100, .int .i64 0, .int .i64 0, .int .i64 0, .int .i64 0, .bool false, .int .i64 0, .string (⟨#[]⟩ : ByteArray), .string (⟨#[]⟩ : ByteArray)]) ?_ 5 _ rfl; (with_reducible repeat (first | refine blk_drewN ?_ _ | refine blk_drew ?_ | refine blk_alloc ?_ _)); refine blk_put (cs := #[.int .i64 1, .string (⟨#[66, 65, 78, 75, 65]⟩ : ByteArray), .string (⟨#[66, 65, 78, 75, 66]⟩ : ByteArray), .string (⟨#[85, 83, 48, 51, 55, 56, 51, 51, 49, 48, 48, 53]⟩ : ByteArray), .int .i64 0, .int .i64 0, .int .i64 0, .int .i64 0, .int .i64 0, .bool false, .int .i64 0, .string (⟨#[]⟩ : ByteArray), .string (⟨#[]⟩ : ByteArray)]) ?_ 4 _ rfl; (with_reducible repeat (first | refine blk_drewN ?_ _ | refine blk_drew ?_ | refine blk_alloc ?_ _)); refine blk_put (cs := #[.int .i64 1, .string (⟨#[66, 65, 78, 75, 65]⟩ : ByteArray), .string (⟨#[66, 65, 78, 75, 66]⟩ : ByteArray), .string (⟨#[]⟩ : ByteArray), .int .i64 0, .int .i64 0, .int .i64 0, .int .i64 0, .int .i64 0, .bool false, .int .i64 0, .string (⟨#[]⟩ : ByteArray), .string (⟨#[]⟩ : ByteArray)]) ?_ 3 _ rfl; (with_reducible repeat (first | refine blk_drewN ?_ _ | refine blk_drew ?_ | refine blk_alloc ?_ _)); refine blk_put (cs := #[.int .i64 1, .string (⟨#[66, 65, 78, 75, 65]⟩ : ByteArray), .string (⟨#[]⟩ : ByteArray), .string (⟨#[]⟩ : ByteArray), .int .i64 0, .int .i64 0, .int .i64 0, .int .i64 0, .int .i64 0, .bool false, .int .i64 0, .string (⟨#[]⟩ : ByteArray), .string (⟨#[]⟩ : ByteArray)]) ?_ 2 _ rfl; (with_reducible repeat (first | refine blk_drewN ?_ _ | refine blk_drew ?_ | refine blk_alloc ?_ _)); refine blk_put (cs := #[.int .i64 1, .string (⟨#[]⟩ : ByteArray), .string (⟨#[]⟩ : ByteArray), .string (⟨#[]⟩ : ByteArray), .int .i64 0, .int .i64 0, .int .i64 0, .int .i64 0, .int .i64 0, .bool false, .int .i64 0, .string (⟨#[]⟩ : ByteArray), .string (⟨#[]⟩ : ByteArray)]) ?_ 1 _ rfl; (with_reducible repeat (first | refine blk_drewN ?_ _ | refine blk_drew ?_ | refine blk_alloc ?_ _)); refine blk_put (cs := #[.int .i64 0, .string (⟨#[]⟩ : ByteArray), .string (⟨#[]⟩ : ByteArray), .string (⟨#[]⟩ : ByteArray), .int .i64 0, .int .i64 0, .int .i64 0, .int .i64 0, .int .i64 0, .bool false, .int .i64 0, .string (⟨#[]⟩ : ByteArray), .string (⟨#[]⟩ : ByteArray)]) ?_ 0 _ rfl; (with_reducible repeat (first | refine blk_drewN ?_ _ | refine blk_drew ?_ | refine blk_alloc ?_ _)); exact BK113.out) hb); have n2_ := Aside0.mk (below_step (by repeat (first | (with_reducible first | exact HB.out | apply below_alloc | apply pw_below_drewN | apply below_drew1 | refine below_set ?_ GE113.out) | exact HB.out)) hb); clear BK113; clear HB; have HO116 := n0_; have BK113 := n1_; have HB := n2_; clear n0_ n1_ n2_; (try clear hb); (try clear hb2); (try clear hk); (try clear hi); (try clear ho0)) | ((with_reducible refine gate_dst (N := 20) rfl ?_); refine Kd.R_lit k68 _ 68 ?hg (N := 20) ?hd (xs := ([(⟨(⟨(⟨#[66, 65, 78, 75, 65]⟩ : ByteArray), 0, (⟨#[85, 83, 48, 51, 55, 56, 51, 51, 49, 48, 48, 53]⟩ : ByteArray)⟩ : S66), (-100)⟩ : S68), (⟨(⟨(⟨#[66, 65, 78, 75, 66]⟩ : ByteArray), 0, (⟨#[85, 83, 48, 51, 55, 56, 51, 51, 49, 48, 48, 53]⟩ : ByteArray)⟩ : S66), 100⟩ : S68), (⟨(⟨(⟨#[66, 65, 78, 75, 66]⟩ : ByteArray), 0, (⟨#[67, 65, 83, 72]⟩ : ByteArray)⟩ : S66), (-2500000)⟩ : S68), (⟨(⟨(⟨#[66, 65, 78, 75, 65]⟩ : ByteArray), 0, (⟨#[67, 65, 83, 72]⟩ : ByteArray)⟩ : S66), 2500000⟩ : S68)] : List (S68))) (inner := [.string (⟨#[66, 65, 78, 75, 65]⟩ : ByteArray), .int .i64 0, .string (⟨#[85, 83, 48, 51, 55, 56, 51, 51, 49, 48, 48, 53]⟩ : ByteArray), .int .i64 (-100), .string (⟨#[66, 65, 78, 75, 66]⟩ : ByteArray), .int .i64 0, .string (⟨#[85, 83, 48, 51, 55, 56, 51, 51, 49, 48, 48, 53]⟩ : ByteArray), .int .i64 100, .string (⟨#[66, 65, 78, 75, 66]⟩ : ByteArray), .int .i64 0, .string (⟨#[67, 65, 83, 72]⟩ : ByteArray), .int .i64 (-2500000), .string (⟨#[66, 65, 78, 75, 65]⟩ : ByteArray), .int .i64 0, .string (⟨#[67, 65, 83, 72]⟩ : ByteArray), .int .i64 2500000]) (ok := fun _ => True) (okp := fun _ => True) ?hr ?hp (fun _ hk => hk) trivial (Below.refl _ _) (Nat.le_refl _) (by simp) ?_; (case hd => rfl); (case hg => rfl); (case hr => first | (go_simp; done) | (go_simp; rfl)); (case hp => exact (Reps.c4 (show Kd.M k68 _ _ _ (⟨(⟨(⟨#[66, 65, 78, 75, 65]⟩ : ByteArray), 0, (⟨#[85, 83, 48, 51, 55, 56, 51, 51, 49, 48, 48, 53]⟩ : ByteArray)⟩ : S66), (-100)⟩ : S68) [.string (⟨#[66, 65, 78, 75, 65]⟩ : ByteArray), .int .i64 0, .string (⟨#[85, 83, 48, 51, 55, 56, 51, 51, 49, 48, 48, 53]⟩ : ByteArray), .int .i64 (-100)] from (k68_mkM _ _ _ (⟨(⟨(⟨#[66, 65, 78, 75, 65]⟩ : ByteArray), 0, (⟨#[85, 83, 48, 51, 55, 56, 51, 51, 49, 48, 48, 53]⟩ : ByteArray)⟩ : S66), (-100)⟩ : S68) )) (Reps.c4 (show Kd.M k68 _ _ _ (⟨(⟨(⟨#[66, 65, 78, 75, 66]⟩ : ByteArray), 0, (⟨#[85, 83, 48, 51, 55, 56, 51, 51, 49, 48, 48, 53]⟩ : ByteArray)⟩ : S66), 100⟩ : S68) [.string (⟨#[66, 65, 78, 75, 66]⟩ : ByteArray), .int .i64 0, .string (⟨#[85, 83, 48, 51, 55, 56, 51, 51, 49, 48, 48, 53]⟩ : ByteArray), .int .i64 100] from (k68_mkM _ _ _ (⟨(⟨(⟨#[66, 65, 78, 75, 66]⟩ : ByteArray), 0, (⟨#[85, 83, 48, 51, 55, 56, 51, 51, 49, 48, 48, 53]⟩ : ByteArray)⟩ : S66), 100⟩ : S68) )) (Reps.c4 (show Kd.M k68 _ _ _ (⟨(⟨(⟨#[66, 65, 78, 75, 66]⟩ : ByteArray), 0, (⟨#[67, 65, 83, 72]⟩ : ByteArray)⟩ : S66), (-2500000)⟩ : S68) [.string (⟨#[66, 65, 78, 75, 66]⟩ : ByteArray), .int .i64 0, .string (⟨#[67, 65, 83, 72]⟩ : ByteArray), .int .i64 (-2500000)] from (k68_mkM _ _ _ (⟨(⟨(⟨#[66, 65, 78, 75, 66]⟩ : ByteArray), 0, (⟨#[67, 65, 83, 72]⟩ : ByteArray)⟩ : S66), (-2500000)⟩ : S68) )) (Reps.c4 (show Kd.M k68 _ _ _ (⟨(⟨(⟨#[66, 65, 78, 75, 65]⟩ : ByteArray), 0, (⟨#[67, 65, 83, 72]⟩ : ByteArray)⟩ : S66), 2500000⟩ : S68) [.string (⟨#[66, 65, 78, 75, 65]⟩ : ByteArray), .int .i64 0, .string (⟨#[67, 65, 83, 72]⟩ : ByteArray), .int .i64 2500000] from (k68_mkM _ _ _ (⟨(⟨(⟨#[66, 65, 78, 75, 65]⟩ : ByteArray), 0, (⟨#[67, 65, 83, 72]⟩ : ByteArray)⟩ : S66), 2500000⟩ : S68) )) (Reps.none _ _)))))); intro v119 w34 ho35 hb hg_ hnew_; clear hg_ hnew_; (first | rw [← Ny118.out] at ho35 | (simp only [Int.reduceToNat] at ho35; rw [← Ny118.out] at ho35)); have n0_ := Aside0.mk (Kd.R_elder' (by (with_reducible repeat (first | apply Kd.R_alloc | apply Kd.R_drewN | apply Kd.R_drew)); exact HO116.out) (Kd.R_base ho35) hb); have n1_ := Aside0.mk (Kd.R_lower (Kd.R_new' ho35 (Kd.R_lt (by (with_reducible repeat (first | apply Kd.R_alloc | apply Kd.R_drewN | apply Kd.R_drew)); exact HO116.out))) (below_size (by repeat (first | (with_reducible first | exact HB.out | apply below_alloc | apply pw_below_drewN | apply below_drew1 | refine below_set ?_ GE113.out) | exact HB.out)))); have n2_ := Aside0.mk (blk_below (g := gb113) (o := .cells #[.int .i64 1, .string (⟨#[66, 65, 78, 75, 65]⟩ : ByteArray), .string (⟨#[66, 65, 78, 75, 66]⟩ : ByteArray), .string (⟨#[85, 83, 48, 51, 55, 56, 51, 51, 49, 48, 48, 53]⟩ : ByteArray), .int .i64 100, .int .i64 2500000, .int .i64 9812, .int .i64 9816, .int .i64 0, .bool false, .int .i64 0, .string (⟨#[68, 49]⟩ : ByteArray), .string (⟨#[82, 49]⟩ : ByteArray)] 31 (0, 0)) (by (with_reducible repeat (first | refine blk_drewN ?_ _ | refine blk_drew ?_ | refine blk_alloc ?_ _)); exact BK113.out) hb); have n3_ := Aside0.mk (below_step (by repeat (first | (with_reducible first | exact HB.out | apply below_alloc | apply pw_below_drewN | apply below_drew1 | refine below_set ?_ GE113.out) | exact HB.out)) hb); clear HO116; clear BK113; clear HB; have HO116 := n0_; have HO120 := n1_; have BK113 := n2_; have HB := n3_; clear n0_ n1_ n2_ n3_; clear hb ho35))
  go_ret
  exact ⟨by first | rfl | (simp [errW_none, errW_some] <;> rfl) | (simp [*, errW_none, errW_some] <;> rfl), by repeat (first | (with_reducible first | exact HB.out | apply below_alloc | apply pw_below_drewN | apply below_drew1 | refine below_set ?_ GE113.out) | exact HB.out)⟩
end Go.Proofs.YtpclapnmiacfpaaDoor.Q
end
section
namespace Go.Proofs.YtpclapnmiacfpaaDoor.Q
open Go.RowKit Go.Proofs.YtpclapnmiacfpaaDoorW.PrintWords Go.Proofs.YtpclapnmiacfpaaDoorW.PrintLast Go.Proofs.YtpclapnmiacfpaaDoorW.PrintMore
attribute [local go_sem] max2_int min2_int max_two min_two max_three min_three max_four min_four
set_option linter.unusedVariables false
set_option linter.unusedSimpArgs false
def girolaw39_legs.l0 : Nat → List (S71) → List (S49) → Int → Option (Bool)
 | 0, _, _, _ => none
 | k + 1, x0, x1, x5 => if x5 < (x0.length : Int) then (if 0 ≤ x5 then (if x5 < (x1.length : Int) then (if ((rd_T71 x0 x5).f0).toList = ((rd_T49 x1 x5).f0).toList then (if ((rd_T71 x0 x5).f1).toList = ((rd_T49 x1 x5).f1).toList then (if ((rd_T71 x0 x5).f2).toList = ((rd_T49 x1 x5).f2).toList then (if ((rd_T71 x0 x5).f3) = ((rd_T49 x1 x5).f3) then (girolaw39_legs.l0 k x0 x1 (wrap64 (x5 + 1))) else (some false)) else (some false)) else (some false)) else (some false)) else (none)) else (none)) else (some true)
def girolaw39_legs.f (k : Nat) (l0 : List (S71)) (l1 : List (S49)) : Option (Bool) := if (l0.length : Int) = (l1.length : Int) then (girolaw39_legs.l0 k l0 l1 0) else (some false)
theorem girolaw39_legs.mono_l : ∀ k, (∀ y0 y1 y2, LeO (girolaw39_legs.l0 k y0 y1 y2) (girolaw39_legs.l0 (k + 1) y0 y1 y2))
 | 0 => fun _ _ _ r h => by simp [girolaw39_legs.l0] at h
 | k + 1 => by
  have ih0 := girolaw39_legs.mono_l k
  ·intro y0 y1 y2
   unfold girolaw39_legs.l0
   repeat' first
   | (with_reducible exact ih0 _ _ _)
   | (with_reducible exact LeO.refl _)
   | (with_reducible exact LeO.none _)
   | (with_reducible refine LeO.ite ?_ ?_)
   | (with_reducible refine LeO.bind ?_ (fun _ => ?_))
   | exact ih0 _ _ _
   | exact LeO.none _
   | refine LeO.ite ?_ ?_
   | refine LeO.bind ?_ (fun _ => ?_)
theorem girolaw39_legs.mono : ∀ a0 a1 k, LeO (girolaw39_legs.f k a0 a1) (girolaw39_legs.f (k + 1) a0 a1) := by
 intro a0 a1 k
 have ih0 := girolaw39_legs.mono_l k
 unfold girolaw39_legs.f
 repeat' first
   | (with_reducible exact ih0 _ _ _)
   | (with_reducible exact LeO.refl _)
   | (with_reducible exact LeO.none _)
   | (with_reducible refine LeO.ite ?_ ?_)
   | (with_reducible refine LeO.bind ?_ (fun _ => ?_))
   | exact ih0 _ _ _
   | exact LeO.none _
   | refine LeO.ite ?_ ?_
   | refine LeO.bind ?_ (fun _ => ?_)
set_option maxHeartbeats 8000000 in
set_option maxRecDepth 100000 in
theorem girolaw39_legs.calls (k : Nat) (A0 : Option Addr) (c0 : Nat) (l0 : List (S71)) (A1 : Option Addr) (c1 : Nat) (l1 : List (S49)) (r : Bool) (w : World) (hr0 : Kd.C k71 w A0 l0.length l0) (hc0 : l0.length ≤ c0) (hr1 : Kd.C k49 w A1 l1.length l1) (hc1 : l1.length ≤ c1) (h : girolaw39_legs.f k l0 l1 = some r) :
  Calls Tryd.prog 17 #[.slice A0 l0.length c0, .slice A1 l1.length c1] w fun e w' => e = .returned (.bool r) ∧ Drawn0 w w' := by
 have HR0 := Aside0.mk hr0
 have HC0 := Aside0.mk hc0
 clear hr0 hc0
 have HR1 := Aside0.mk hr1
 have HC1 := Aside0.mk hc1
 clear hr1 hc1
 have H : (if (l0.length : Int) = (l1.length : Int) then (girolaw39_legs.l0 k l0 l1 0) else (some false)) = some r := h
 clear h
 by_cases c3 : (l0.length : Int) = (l1.length : Int)
 ·rw [if_pos c3] at H
  have c3b0 : ((l0.length : Int) == (l1.length : Int)) = true := beq_iff_eq.mpr c3
  have c3b1 : ((l0.length : Int) != (l1.length : Int)) = false := bne_eq_false_iff_eq.mpr c3
  have c3b2 : (l0.length == l1.length) = true := by first | simpa using c3 | (simp at c3 ⊢; omega)
  clear c3
  have H' := Aside0.mk H
  clear H
  go_enter Tryd.func17, Tryd.ntmps17
  go_wp2
  repeat (go_quiet (fail); try go_wp2)
  go_loopg [5] k (fun kq v5 w' => ∃ (x5_1 : Int), v5 = .int .i64 x5_1 ∧ Aside0 (girolaw39_legs.l0 kq l0 l1 x5_1 = some r) ∧ Aside0 (kq ≤ k) ∧ Drawn0 w w')
  case atStart => exact ⟨(0), (by first | rfl | (simp; done) | (simp [*]; done)), H', ⟨Nat.le_refl _⟩, by repeat (first | exact Drawn0.refl _ | apply Drawn0.step)⟩
  case round =>
   clear H'
   try clear c1
   try clear p2
   try clear c3
   try clear c3b0
   try clear c3b1
   try clear c3b2
   obtain ⟨x5_1, rfl, HA, HK1, ⟨m1, rfl⟩⟩ := hrel
   cases gk with
   | zero => exact absurd HA.out (by simp [girolaw39_legs.l0])
   | succ k1 =>
    have H := HA.out
    clear HA
    simp only [girolaw39_legs.l0] at H
    by_cases c4 : x5_1 < (l0.length : Int)
    ·rw [if_pos c4] at H
     have c4b0 : decide (x5_1 < (l0.length : Int)) = true := decide_eq_true c4
     clear c4
     by_cases c5 : 0 ≤ x5_1
     ·rw [if_pos c5] at H
      have c5b0 : decide (0 ≤ x5_1) = true := decide_eq_true c5
      clear c5
      by_cases c6 : x5_1 < (l1.length : Int)
      ·rw [if_pos c6] at H
       have c6b0 : decide (x5_1 < (l1.length : Int)) = true := decide_eq_true c6
       clear c6
       by_cases c7 : ((rd_T71 l0 x5_1).f0).toList = ((rd_T49 l1 x5_1).f0).toList
       ·rw [if_pos c7] at H
        have c7b0 : (((rd_T71 l0 x5_1).f0).toList == ((rd_T49 l1 x5_1).f0).toList) = true := beq_iff_eq.mpr c7
        have c7b1 : (((rd_T71 l0 x5_1).f0).toList != ((rd_T49 l1 x5_1).f0).toList) = false := bne_eq_false_iff_eq.mpr c7
        clear c7
        by_cases c8 : ((rd_T71 l0 x5_1).f1).toList = ((rd_T49 l1 x5_1).f1).toList
        ·rw [if_pos c8] at H
         have c8b0 : (((rd_T71 l0 x5_1).f1).toList == ((rd_T49 l1 x5_1).f1).toList) = true := beq_iff_eq.mpr c8
         have c8b1 : (((rd_T71 l0 x5_1).f1).toList != ((rd_T49 l1 x5_1).f1).toList) = false := bne_eq_false_iff_eq.mpr c8
         clear c8
         by_cases c9 : ((rd_T71 l0 x5_1).f2).toList = ((rd_T49 l1 x5_1).f2).toList
         ·rw [if_pos c9] at H
          have c9b0 : (((rd_T71 l0 x5_1).f2).toList == ((rd_T49 l1 x5_1).f2).toList) = true := beq_iff_eq.mpr c9
          have c9b1 : (((rd_T71 l0 x5_1).f2).toList != ((rd_T49 l1 x5_1).f2).toList) = false := bne_eq_false_iff_eq.mpr c9
          clear c9
          by_cases c10 : ((rd_T71 l0 x5_1).f3) = ((rd_T49 l1 x5_1).f3)
          ·rw [if_pos c10] at H
           have c10b0 : (((rd_T71 l0 x5_1).f3) == ((rd_T49 l1 x5_1).f3)) = true := beq_iff_eq.mpr c10
           have c10b1 : (((rd_T71 l0 x5_1).f3) != ((rd_T49 l1 x5_1).f3)) = false := bne_eq_false_iff_eq.mpr c10
           clear c10
           have H' := Aside0.mk H
           clear H
           have p241 : 0 ≤ (x5_1 : Int) := of_decide_eq_true (by first | (with_reducible assumption) | assumption)
           have q241 : x5_1 < (l0.length : Int) := of_decide_eq_true (by first | (with_reducible assumption) | assumption)
           obtain ⟨ad241, e241, hx241_0, hx241_1, hx241_2, hx241_3⟩ := at_T71 HR0.out x5_1 p241 q241
           cases e241
           replace p241 := eq_true p241
           replace q241 := eq_true q241
           have p242 : 0 ≤ (x5_1 : Int) := of_decide_eq_true (by first | (with_reducible assumption) | assumption)
           have q242 : x5_1 < (l1.length : Int) := of_decide_eq_true (by first | (with_reducible assumption) | assumption)
           obtain ⟨ad242, e242, hx242_0, hx242_1, hx242_2, hx242_3⟩ := at_T49 HR1.out x5_1 p242 q242
           cases e242
           replace p242 := eq_true p242
           replace q242 := eq_true q242
           have p243 : 0 ≤ (x5_1 : Int) := of_decide_eq_true (by first | (with_reducible assumption) | assumption)
           have q243 : x5_1 < (l0.length : Int) := of_decide_eq_true (by first | (with_reducible assumption) | assumption)
           obtain ⟨ad243, e243, hx243_0, hx243_1, hx243_2, hx243_3⟩ := at_T71 HR0.out x5_1 p243 q243
           obtain rfl : ad241 = ad243 := (by injection e243)
           replace p243 := eq_true p243
           replace q243 := eq_true q243
           have p244 : 0 ≤ (x5_1 : Int) := of_decide_eq_true (by first | (with_reducible assumption) | assumption)
           have q244 : x5_1 < (l1.length : Int) := of_decide_eq_true (by first | (with_reducible assumption) | assumption)
           obtain ⟨ad244, e244, hx244_0, hx244_1, hx244_2, hx244_3⟩ := at_T49 HR1.out x5_1 p244 q244
           obtain rfl : ad242 = ad244 := (by injection e244)
           replace p244 := eq_true p244
           replace q244 := eq_true q244
           have p245 : 0 ≤ (x5_1 : Int) := of_decide_eq_true (by first | (with_reducible assumption) | assumption)
           have q245 : x5_1 < (l0.length : Int) := of_decide_eq_true (by first | (with_reducible assumption) | assumption)
           obtain ⟨ad245, e245, hx245_0, hx245_1, hx245_2, hx245_3⟩ := at_T71 HR0.out x5_1 p245 q245
           obtain rfl : ad241 = ad245 := (by injection e245)
           replace p245 := eq_true p245
           replace q245 := eq_true q245
           have p246 : 0 ≤ (x5_1 : Int) := of_decide_eq_true (by first | (with_reducible assumption) | assumption)
           have q246 : x5_1 < (l1.length : Int) := of_decide_eq_true (by first | (with_reducible assumption) | assumption)
           obtain ⟨ad246, e246, hx246_0, hx246_1, hx246_2, hx246_3⟩ := at_T49 HR1.out x5_1 p246 q246
           obtain rfl : ad242 = ad246 := (by injection e246)
           replace p246 := eq_true p246
           replace q246 := eq_true q246
           have p247 : 0 ≤ (x5_1 : Int) := of_decide_eq_true (by first | (with_reducible assumption) | assumption)
           have q247 : x5_1 < (l0.length : Int) := of_decide_eq_true (by first | (with_reducible assumption) | assumption)
           obtain ⟨ad247, e247, hx247_0, hx247_1, hx247_2, hx247_3⟩ := at_T71 HR0.out x5_1 p247 q247
           obtain rfl : ad241 = ad247 := (by injection e247)
           replace p247 := eq_true p247
           replace q247 := eq_true q247
           have p248 : 0 ≤ (x5_1 : Int) := of_decide_eq_true (by first | (with_reducible assumption) | assumption)
           have q248 : x5_1 < (l1.length : Int) := of_decide_eq_true (by first | (with_reducible assumption) | assumption)
           obtain ⟨ad248, e248, hx248_0, hx248_1, hx248_2, hx248_3⟩ := at_T49 HR1.out x5_1 p248 q248
           obtain rfl : ad242 = ad248 := (by injection e248)
           replace p248 := eq_true p248
           replace q248 := eq_true q248
           go_wp2
           repeat (go_quiet (fail); try go_wp2)
           go_roundg k1
           case measure => have := HK1.out; omega
           case rel => exact ⟨(wrap64 (x5_1 + 1)), (by first | rfl | (simp; done) | (simp [*]; done)), H', ⟨by have := HK1.out; omega⟩, by repeat (first | exact Drawn0.refl _ | apply Drawn0.step)⟩
          ·rw [if_neg c10] at H
           have c10b0 : (((rd_T71 l0 x5_1).f3) == ((rd_T49 l1 x5_1).f3)) = false := beq_eq_false_iff_ne.mpr c10
           have c10b1 : (((rd_T71 l0 x5_1).f3) != ((rd_T49 l1 x5_1).f3)) = true := bne_iff_ne.mpr c10
           obtain rfl := Option.some.inj H
           have p241 : 0 ≤ (x5_1 : Int) := of_decide_eq_true (by first | (with_reducible assumption) | assumption)
           have q241 : x5_1 < (l0.length : Int) := of_decide_eq_true (by first | (with_reducible assumption) | assumption)
           obtain ⟨ad241, e241, hx241_0, hx241_1, hx241_2, hx241_3⟩ := at_T71 HR0.out x5_1 p241 q241
           cases e241
           replace p241 := eq_true p241
           replace q241 := eq_true q241
           have p242 : 0 ≤ (x5_1 : Int) := of_decide_eq_true (by first | (with_reducible assumption) | assumption)
           have q242 : x5_1 < (l1.length : Int) := of_decide_eq_true (by first | (with_reducible assumption) | assumption)
           obtain ⟨ad242, e242, hx242_0, hx242_1, hx242_2, hx242_3⟩ := at_T49 HR1.out x5_1 p242 q242
           cases e242
           replace p242 := eq_true p242
           replace q242 := eq_true q242
           have p243 : 0 ≤ (x5_1 : Int) := of_decide_eq_true (by first | (with_reducible assumption) | assumption)
           have q243 : x5_1 < (l0.length : Int) := of_decide_eq_true (by first | (with_reducible assumption) | assumption)
           obtain ⟨ad243, e243, hx243_0, hx243_1, hx243_2, hx243_3⟩ := at_T71 HR0.out x5_1 p243 q243
           obtain rfl : ad241 = ad243 := (by injection e243)
           replace p243 := eq_true p243
           replace q243 := eq_true q243
           have p244 : 0 ≤ (x5_1 : Int) := of_decide_eq_true (by first | (with_reducible assumption) | assumption)
           have q244 : x5_1 < (l1.length : Int) := of_decide_eq_true (by first | (with_reducible assumption) | assumption)
           obtain ⟨ad244, e244, hx244_0, hx244_1, hx244_2, hx244_3⟩ := at_T49 HR1.out x5_1 p244 q244
           obtain rfl : ad242 = ad244 := (by injection e244)
           replace p244 := eq_true p244
           replace q244 := eq_true q244
           have p245 : 0 ≤ (x5_1 : Int) := of_decide_eq_true (by first | (with_reducible assumption) | assumption)
           have q245 : x5_1 < (l0.length : Int) := of_decide_eq_true (by first | (with_reducible assumption) | assumption)
           obtain ⟨ad245, e245, hx245_0, hx245_1, hx245_2, hx245_3⟩ := at_T71 HR0.out x5_1 p245 q245
           obtain rfl : ad241 = ad245 := (by injection e245)
           replace p245 := eq_true p245
           replace q245 := eq_true q245
           have p246 : 0 ≤ (x5_1 : Int) := of_decide_eq_true (by first | (with_reducible assumption) | assumption)
           have q246 : x5_1 < (l1.length : Int) := of_decide_eq_true (by first | (with_reducible assumption) | assumption)
           obtain ⟨ad246, e246, hx246_0, hx246_1, hx246_2, hx246_3⟩ := at_T49 HR1.out x5_1 p246 q246
           obtain rfl : ad242 = ad246 := (by injection e246)
           replace p246 := eq_true p246
           replace q246 := eq_true q246
           have p247 : 0 ≤ (x5_1 : Int) := of_decide_eq_true (by first | (with_reducible assumption) | assumption)
           have q247 : x5_1 < (l0.length : Int) := of_decide_eq_true (by first | (with_reducible assumption) | assumption)
           obtain ⟨ad247, e247, hx247_0, hx247_1, hx247_2, hx247_3⟩ := at_T71 HR0.out x5_1 p247 q247
           obtain rfl : ad241 = ad247 := (by injection e247)
           replace p247 := eq_true p247
           replace q247 := eq_true q247
           have p248 : 0 ≤ (x5_1 : Int) := of_decide_eq_true (by first | (with_reducible assumption) | assumption)
           have q248 : x5_1 < (l1.length : Int) := of_decide_eq_true (by first | (with_reducible assumption) | assumption)
           obtain ⟨ad248, e248, hx248_0, hx248_1, hx248_2, hx248_3⟩ := at_T49 HR1.out x5_1 p248 q248
           obtain rfl : ad242 = ad248 := (by injection e248)
           replace p248 := eq_true p248
           replace q248 := eq_true q248
           go_wp2
           repeat (go_quiet (fail); try go_wp2)
           go_ret
           exact ⟨by first | rfl | (simp; done) | (simp [*]; done), by repeat (first | exact Drawn0.refl _ | apply Drawn0.step)⟩
         ·rw [if_neg c9] at H
          have c9b0 : (((rd_T71 l0 x5_1).f2).toList == ((rd_T49 l1 x5_1).f2).toList) = false := beq_eq_false_iff_ne.mpr c9
          have c9b1 : (((rd_T71 l0 x5_1).f2).toList != ((rd_T49 l1 x5_1).f2).toList) = true := bne_iff_ne.mpr c9
          obtain rfl := Option.some.inj H
          have p241 : 0 ≤ (x5_1 : Int) := of_decide_eq_true (by first | (with_reducible assumption) | assumption)
          have q241 : x5_1 < (l0.length : Int) := of_decide_eq_true (by first | (with_reducible assumption) | assumption)
          obtain ⟨ad241, e241, hx241_0, hx241_1, hx241_2, hx241_3⟩ := at_T71 HR0.out x5_1 p241 q241
          cases e241
          replace p241 := eq_true p241
          replace q241 := eq_true q241
          have p242 : 0 ≤ (x5_1 : Int) := of_decide_eq_true (by first | (with_reducible assumption) | assumption)
          have q242 : x5_1 < (l1.length : Int) := of_decide_eq_true (by first | (with_reducible assumption) | assumption)
          obtain ⟨ad242, e242, hx242_0, hx242_1, hx242_2, hx242_3⟩ := at_T49 HR1.out x5_1 p242 q242
          cases e242
          replace p242 := eq_true p242
          replace q242 := eq_true q242
          have p243 : 0 ≤ (x5_1 : Int) := of_decide_eq_true (by first | (with_reducible assumption) | assumption)
          have q243 : x5_1 < (l0.length : Int) := of_decide_eq_true (by first | (with_reducible assumption) | assumption)
          obtain ⟨ad243, e243, hx243_0, hx243_1, hx243_2, hx243_3⟩ := at_T71 HR0.out x5_1 p243 q243
          obtain rfl : ad241 = ad243 := (by injection e243)
          replace p243 := eq_true p243
          replace q243 := eq_true q243
          have p244 : 0 ≤ (x5_1 : Int) := of_decide_eq_true (by first | (with_reducible assumption) | assumption)
          have q244 : x5_1 < (l1.length : Int) := of_decide_eq_true (by first | (with_reducible assumption) | assumption)
          obtain ⟨ad244, e244, hx244_0, hx244_1, hx244_2, hx244_3⟩ := at_T49 HR1.out x5_1 p244 q244
          obtain rfl : ad242 = ad244 := (by injection e244)
          replace p244 := eq_true p244
          replace q244 := eq_true q244
          have p245 : 0 ≤ (x5_1 : Int) := of_decide_eq_true (by first | (with_reducible assumption) | assumption)
          have q245 : x5_1 < (l0.length : Int) := of_decide_eq_true (by first | (with_reducible assumption) | assumption)
          obtain ⟨ad245, e245, hx245_0, hx245_1, hx245_2, hx245_3⟩ := at_T71 HR0.out x5_1 p245 q245
          obtain rfl : ad241 = ad245 := (by injection e245)
          replace p245 := eq_true p245
          replace q245 := eq_true q245
          have p246 : 0 ≤ (x5_1 : Int) := of_decide_eq_true (by first | (with_reducible assumption) | assumption)
          have q246 : x5_1 < (l1.length : Int) := of_decide_eq_true (by first | (with_reducible assumption) | assumption)
          obtain ⟨ad246, e246, hx246_0, hx246_1, hx246_2, hx246_3⟩ := at_T49 HR1.out x5_1 p246 q246
          obtain rfl : ad242 = ad246 := (by injection e246)
          replace p246 := eq_true p246
          replace q246 := eq_true q246
          go_wp2
          repeat (go_quiet (fail); try go_wp2)
          go_ret
          exact ⟨by first | rfl | (simp; done) | (simp [*]; done), by repeat (first | exact Drawn0.refl _ | apply Drawn0.step)⟩
        ·rw [if_neg c8] at H
         have c8b0 : (((rd_T71 l0 x5_1).f1).toList == ((rd_T49 l1 x5_1).f1).toList) = false := beq_eq_false_iff_ne.mpr c8
         have c8b1 : (((rd_T71 l0 x5_1).f1).toList != ((rd_T49 l1 x5_1).f1).toList) = true := bne_iff_ne.mpr c8
         obtain rfl := Option.some.inj H
         have p241 : 0 ≤ (x5_1 : Int) := of_decide_eq_true (by first | (with_reducible assumption) | assumption)
         have q241 : x5_1 < (l0.length : Int) := of_decide_eq_true (by first | (with_reducible assumption) | assumption)
         obtain ⟨ad241, e241, hx241_0, hx241_1, hx241_2, hx241_3⟩ := at_T71 HR0.out x5_1 p241 q241
         cases e241
         replace p241 := eq_true p241
         replace q241 := eq_true q241
         have p242 : 0 ≤ (x5_1 : Int) := of_decide_eq_true (by first | (with_reducible assumption) | assumption)
         have q242 : x5_1 < (l1.length : Int) := of_decide_eq_true (by first | (with_reducible assumption) | assumption)
         obtain ⟨ad242, e242, hx242_0, hx242_1, hx242_2, hx242_3⟩ := at_T49 HR1.out x5_1 p242 q242
         cases e242
         replace p242 := eq_true p242
         replace q242 := eq_true q242
         have p243 : 0 ≤ (x5_1 : Int) := of_decide_eq_true (by first | (with_reducible assumption) | assumption)
         have q243 : x5_1 < (l0.length : Int) := of_decide_eq_true (by first | (with_reducible assumption) | assumption)
         obtain ⟨ad243, e243, hx243_0, hx243_1, hx243_2, hx243_3⟩ := at_T71 HR0.out x5_1 p243 q243
         obtain rfl : ad241 = ad243 := (by injection e243)
         replace p243 := eq_true p243
         replace q243 := eq_true q243
         have p244 : 0 ≤ (x5_1 : Int) := of_decide_eq_true (by first | (with_reducible assumption) | assumption)
         have q244 : x5_1 < (l1.length : Int) := of_decide_eq_true (by first | (with_reducible assumption) | assumption)
         obtain ⟨ad244, e244, hx244_0, hx244_1, hx244_2, hx244_3⟩ := at_T49 HR1.out x5_1 p244 q244
         obtain rfl : ad242 = ad244 := (by injection e244)
         replace p244 := eq_true p244
         replace q244 := eq_true q244
         go_wp2
         repeat (go_quiet (fail); try go_wp2)
         go_ret
         exact ⟨by first | rfl | (simp; done) | (simp [*]; done), by repeat (first | exact Drawn0.refl _ | apply Drawn0.step)⟩
       ·rw [if_neg c7] at H
        have c7b0 : (((rd_T71 l0 x5_1).f0).toList == ((rd_T49 l1 x5_1).f0).toList) = false := beq_eq_false_iff_ne.mpr c7
        have c7b1 : (((rd_T71 l0 x5_1).f0).toList != ((rd_T49 l1 x5_1).f0).toList) = true := bne_iff_ne.mpr c7
        obtain rfl := Option.some.inj H
        have p241 : 0 ≤ (x5_1 : Int) := of_decide_eq_true (by first | (with_reducible assumption) | assumption)
        have q241 : x5_1 < (l0.length : Int) := of_decide_eq_true (by first | (with_reducible assumption) | assumption)
        obtain ⟨ad241, e241, hx241_0, hx241_1, hx241_2, hx241_3⟩ := at_T71 HR0.out x5_1 p241 q241
        cases e241
        replace p241 := eq_true p241
        replace q241 := eq_true q241
        have p242 : 0 ≤ (x5_1 : Int) := of_decide_eq_true (by first | (with_reducible assumption) | assumption)
        have q242 : x5_1 < (l1.length : Int) := of_decide_eq_true (by first | (with_reducible assumption) | assumption)
        obtain ⟨ad242, e242, hx242_0, hx242_1, hx242_2, hx242_3⟩ := at_T49 HR1.out x5_1 p242 q242
        cases e242
        replace p242 := eq_true p242
        replace q242 := eq_true q242
        go_wp2
        repeat (go_quiet (fail); try go_wp2)
        go_ret
        exact ⟨by first | rfl | (simp; done) | (simp [*]; done), by repeat (first | exact Drawn0.refl _ | apply Drawn0.step)⟩
      ·rw [if_neg c6] at H
       exact absurd H (by simp)
     ·rw [if_neg c5] at H
      exact absurd H (by simp)
    ·rw [if_neg c4] at H
     have c4b0 : decide (x5_1 < (l0.length : Int)) = false := decide_eq_false c4
     clear c4
     obtain rfl := Option.some.inj H
     go_wp2
     repeat (go_quiet (fail); try go_wp2)
     go_ret
     exact ⟨by first | rfl | (simp; done) | (simp [*]; done), by repeat (first | exact Drawn0.refl _ | apply Drawn0.step)⟩
 ·rw [if_neg c3] at H
  have c3b0 : ((l0.length : Int) == (l1.length : Int)) = false := beq_eq_false_iff_ne.mpr c3
  have c3b1 : ((l0.length : Int) != (l1.length : Int)) = true := bne_iff_ne.mpr c3
  have c3b2 : (l0.length == l1.length) = false := by first | simpa using c3 | (simp at c3 ⊢; omega)
  obtain rfl := Option.some.inj H
  go_enter Tryd.func17, Tryd.ntmps17
  go_wp2
  repeat (go_quiet (fail); try go_wp2)
  go_ret
  exact ⟨by first | rfl | (simp; done) | (simp [*]; done), by repeat (first | exact Drawn0.refl _ | apply Drawn0.step)⟩
end Go.Proofs.YtpclapnmiacfpaaDoor.Q
end
section
namespace Go.Proofs.YtpclapnmiacfpaaDoor.Q
open Go.RowKit Go.Proofs.YtpclapnmiacfpaaDoorW.PrintWords Go.Proofs.YtpclapnmiacfpaaDoorW.PrintLast Go.Proofs.YtpclapnmiacfpaaDoorW.PrintMore
attribute [local go_sem] max2_int min2_int max_two min_two max_three min_three max_four min_four
set_option linter.unusedVariables false
set_option linter.unusedSimpArgs false
def giroref39_Legs.f (a0_0 : Int) (a0_1 : ByteArray) (a0_2 : ByteArray) (a0_3 : ByteArray) (a0_4 : Int) (a0_5 : Int) (a0_6 : Int) (a0_7 : Int) (a0_8 : Int) (a0_9 : Bool) (a0_10 : Int) (a0_11 : ByteArray) (a0_12 : ByteArray) : Option ((List (S49))) := (some (([(⟨a0_1, a0_2, a0_3, a0_4⟩ : S49)] : List (S49)) : List (S49))).bind fun y181 => (if a0_0 = 1 then (if y181.length < 2513169434916 then (some (y181 ++ [(⟨a0_2, a0_1, (⟨#[67, 65, 83, 72]⟩ : ByteArray), a0_5⟩ : S49)])) else (none)) else (some y181))
set_option maxHeartbeats 8000000 in
set_option maxRecDepth 100000 in
theorem giroref39_Legs.calls (a0_0 : Int) (a0_1 : ByteArray) (a0_2 : ByteArray) (a0_3 : ByteArray) (a0_4 : Int) (a0_5 : Int) (a0_6 : Int) (a0_7 : Int) (a0_8 : Int) (a0_9 : Bool) (a0_10 : Int) (a0_11 : ByteArray) (a0_12 : ByteArray) (r : List (S49)) (w : World) (h : giroref39_Legs.f a0_0 a0_1 a0_2 a0_3 a0_4 a0_5 a0_6 a0_7 a0_8 a0_9 a0_10 a0_11 a0_12 = some r) :
  Calls Tryd.prog 20 #[.agg #[.int .i64 a0_0, .string a0_1, .string a0_2, .string a0_3, .int .i64 a0_4, .int .i64 a0_5, .int .i64 a0_6, .int .i64 a0_7, .int .i64 a0_8, .bool a0_9, .int .i64 a0_10, .string a0_11, .string a0_12]] w fun e w' => ∃ v0_ : Value, e = .returned (v0_) ∧ Kd.R k49 49 w' w.heap.size (fun _ => True) v0_ r ∧ Below w.heap.size w w' := by
 have hu24 := Tryd.underlying24
 have hu49 := Tryd.underlying49
 have HB := Aside0.mk (Below.refl w.heap.size w)
 have H : ((some (([(⟨a0_1, a0_2, a0_3, a0_4⟩ : S49)] : List (S49)) : List (S49))).bind fun y181 => (if a0_0 = 1 then (if y181.length < 2513169434916 then (some (y181 ++ [(⟨a0_2, a0_1, (⟨#[67, 65, 83, 72]⟩ : ByteArray), a0_5⟩ : S49)])) else (none)) else (some y181))) = some r := h
 clear h
 obtain ⟨y181, hy181⟩ : ∃ y_ : List (S49), y_ = (([(⟨a0_1, a0_2, a0_3, a0_4⟩ : S49)] : List (S49))) := ⟨_, rfl⟩
 replace H : (if a0_0 = 1 then (if y181.length < 2513169434916 then (some (y181 ++ [(⟨a0_2, a0_1, (⟨#[67, 65, 83, 72]⟩ : ByteArray), a0_5⟩ : S49)])) else (none)) else (some y181)) = some r := by first | (rw [hy181]; with_reducible exact H) | (have H2_ := (Option.bind_some _ _).symm.trans H; rw [hy181]; with_reducible exact H2_) | (have H2_ := (Option.bind_some _ _).symm.trans H; with_reducible exact H2_) | with_reducible exact H | (rw [hy181]; exact H) | exact H
 have Ny181 := Aside0.mk hy181
 clear hy181
 by_cases c2 : a0_0 = 1
 ·rw [if_pos c2] at H
  have c2b0 : (a0_0 == 1) = true := beq_iff_eq.mpr c2
  have c2b1 : (a0_0 != 1) = false := bne_eq_false_iff_eq.mpr c2
  clear c2
  by_cases c3 : y181.length < 2513169434916
  ·rw [if_pos c3] at H
   have LMc3 := Aside0.mk c3
   clear c3
   obtain ⟨y184, hy184⟩ : ∃ y_ : List (S49), y_ = (y181 ++ [(⟨a0_2, a0_1, (⟨#[67, 65, 83, 72]⟩ : ByteArray), a0_5⟩ : S49)]) := ⟨_, rfl⟩
   replace H : (some y184) = some r := by first | (rw [hy184]; with_reducible exact H) | (have H2_ := (Option.bind_some _ _).symm.trans H; rw [hy184]; with_reducible exact H2_) | (have H2_ := (Option.bind_some _ _).symm.trans H; with_reducible exact H2_) | with_reducible exact H | (rw [hy184]; exact H) | exact H
   have Ny184 := Aside0.mk hy184
   clear hy184
   obtain rfl := Option.some.inj H
   go_enter Tryd.func20, Tryd.ntmps20
   go_wp2_with (first | ((with_reducible refine gate_dst (N := 1) rfl ?_); refine box_event ?hg (N := 1) ?hd (cs := #[.int .i64 a0_0, .string a0_1, .string a0_2, .string a0_3, .int .i64 a0_4, .int .i64 a0_5, .int .i64 a0_6, .int .i64 a0_7, .int .i64 a0_8, .bool a0_9, .int .i64 a0_10, .string a0_11, .string a0_12]) (t := 24) ?hr ?_; (case hd => rfl); (case hg => rfl); (case hr => first | (go_simp; done) | (go_simp; rfl)); intro gb180 hg w4 hbox hb; have n0_ := Aside0.mk (below_step (by repeat (first | (with_reducible first | exact HB.out | apply below_alloc | apply pw_below_drewN | apply below_drew1) | exact HB.out)) hb); have n1_ := Aside0.mk (hbox); have n2_ := Aside0.mk ((by rw [hg]; exact (below_size (by repeat (first | (with_reducible first | exact HB.out | apply below_alloc | apply pw_below_drewN | apply below_drew1) | exact HB.out))) : w.heap.size ≤ gb180)); have n3_ := Aside0.mk ((by rw [hg]; exact (below_size (by repeat (first | (with_reducible first | exact HB.out | apply below_alloc | apply pw_below_drewN | apply below_drew1) | exact HB.out))) : w.heap.size ≤ gb180)); clear HB; have HB := n0_; have BK180 := n1_; have GW180 := n2_; have GE180 := n3_; clear n0_ n1_ n2_ n3_; clear hb hbox hg; have hcz5_0 : w4.cell? ⟨gb180, 0, none⟩ = some (.int .i64 a0_0) := (blk_cell BK180.out 0).trans rfl; have hcz5_1 : w4.cell? ⟨gb180, 1, none⟩ = some (.string a0_1) := (blk_cell BK180.out 1).trans rfl; have hcz5_2 : w4.cell? ⟨gb180, 2, none⟩ = some (.string a0_2) := (blk_cell BK180.out 2).trans rfl; have hcz5_3 : w4.cell? ⟨gb180, 3, none⟩ = some (.string a0_3) := (blk_cell BK180.out 3).trans rfl; have hcz5_4 : w4.cell? ⟨gb180, 4, none⟩ = some (.int .i64 a0_4) := (blk_cell BK180.out 4).trans rfl; have hcz5_5 : w4.cell? ⟨gb180, 5, none⟩ = some (.int .i64 a0_5) := (blk_cell BK180.out 5).trans rfl; have hcz5_6 : w4.cell? ⟨gb180, 6, none⟩ = some (.int .i64 a0_6) := (blk_cell BK180.out 6).trans rfl; have hcz5_7 : w4.cell? ⟨gb180, 7, none⟩ = some (.int .i64 a0_7) := (blk_cell BK180.out 7).trans rfl; have hcz5_8 : w4.cell? ⟨gb180, 8, none⟩ = some (.int .i64 a0_8) := (blk_cell BK180.out 8).trans rfl; have hcz5_9 : w4.cell? ⟨gb180, 9, none⟩ = some (.bool a0_9) := (blk_cell BK180.out 9).trans rfl; have hcz5_10 : w4.cell? ⟨gb180, 10, none⟩ = some (.int .i64 a0_10) := (blk_cell BK180.out 10).trans rfl; have hcz5_11 : w4.cell? ⟨gb180, 11, none⟩ = some (.string a0_11) := (blk_cell BK180.out 11).trans rfl; have hcz5_12 : w4.cell? ⟨gb180, 12, none⟩ = some (.string a0_12) := (blk_cell BK180.out 12).trans rfl; have hfz5_0 := blk_frozen BK180.out 0; have hfz5_1 := blk_frozen BK180.out 1; have hfz5_2 := blk_frozen BK180.out 2; have hfz5_3 := blk_frozen BK180.out 3; have hfz5_4 := blk_frozen BK180.out 4; have hfz5_5 := blk_frozen BK180.out 5; have hfz5_6 := blk_frozen BK180.out 6; have hfz5_7 := blk_frozen BK180.out 7; have hfz5_8 := blk_frozen BK180.out 8; have hfz5_9 := blk_frozen BK180.out 9; have hfz5_10 := blk_frozen BK180.out 10; have hfz5_11 := blk_frozen BK180.out 11; have hfz5_12 := blk_frozen BK180.out 12) | ((with_reducible refine gate_dst (N := 13) rfl ?_); refine Kd.R_lit k49 _ 49 ?hg (N := 13) ?hd (xs := ([(⟨a0_1, a0_2, a0_3, a0_4⟩ : S49)] : List (S49))) (inner := [.string a0_1, .string a0_2, .string a0_3, .int .i64 a0_4]) (ok := fun _ => True) (okp := fun _ => True) ?hr ?hp (fun _ hk => hk) trivial (Below.refl _ _) (Nat.le_refl _) (by simp) ?_; (case hd => rfl); (case hg => rfl); (case hr => first | (go_simp; done) | (go_simp; rfl)); (case hp => exact (Reps.c4 (show Kd.M k49 _ _ _ (⟨a0_1, a0_2, a0_3, a0_4⟩ : S49) [.string a0_1, .string a0_2, .string a0_3, .int .i64 a0_4] from (k49_mkM _ _ _ (⟨a0_1, a0_2, a0_3, a0_4⟩ : S49) )) (Reps.none _ _))); intro v182 w6 ho7 hb hg_ hnew_; clear hg_ hnew_; (first | rw [← Ny181.out] at ho7 | (simp only [Int.reduceToNat] at ho7; rw [← Ny181.out] at ho7)); have n0_ := Aside0.mk (Kd.R_lower ho7 (below_size (by repeat (first | (with_reducible first | exact HB.out | apply below_alloc | apply pw_below_drewN | apply below_drew1 | refine below_set ?_ GE180.out) | exact HB.out)))); have n1_ := Aside0.mk (blk_below (g := gb180) (o := .cells #[.int .i64 a0_0, .string a0_1, .string a0_2, .string a0_3, .int .i64 a0_4, .int .i64 a0_5, .int .i64 a0_6, .int .i64 a0_7, .int .i64 a0_8, .bool a0_9, .int .i64 a0_10, .string a0_11, .string a0_12] 24 (0, 0)) (by (with_reducible repeat (first | refine blk_drewN ?_ _ | refine blk_drew ?_ | refine blk_alloc ?_ _)); exact BK180.out) hb); have n2_ := Aside0.mk (below_step (by repeat (first | (with_reducible first | exact HB.out | apply below_alloc | apply pw_below_drewN | apply below_drew1 | refine below_set ?_ GE180.out) | exact HB.out)) hb); clear BK180; clear HB; have HO183 := n0_; have BK180 := n1_; have HB := n2_; clear n0_ n1_ n2_; clear hb ho7; have hcz8_0 : w6.cell? ⟨gb180, 0, none⟩ = some (.int .i64 a0_0) := (blk_cell BK180.out 0).trans rfl; have hcz8_1 : w6.cell? ⟨gb180, 1, none⟩ = some (.string a0_1) := (blk_cell BK180.out 1).trans rfl; have hcz8_2 : w6.cell? ⟨gb180, 2, none⟩ = some (.string a0_2) := (blk_cell BK180.out 2).trans rfl; have hcz8_3 : w6.cell? ⟨gb180, 3, none⟩ = some (.string a0_3) := (blk_cell BK180.out 3).trans rfl; have hcz8_4 : w6.cell? ⟨gb180, 4, none⟩ = some (.int .i64 a0_4) := (blk_cell BK180.out 4).trans rfl; have hcz8_5 : w6.cell? ⟨gb180, 5, none⟩ = some (.int .i64 a0_5) := (blk_cell BK180.out 5).trans rfl; have hcz8_6 : w6.cell? ⟨gb180, 6, none⟩ = some (.int .i64 a0_6) := (blk_cell BK180.out 6).trans rfl; have hcz8_7 : w6.cell? ⟨gb180, 7, none⟩ = some (.int .i64 a0_7) := (blk_cell BK180.out 7).trans rfl; have hcz8_8 : w6.cell? ⟨gb180, 8, none⟩ = some (.int .i64 a0_8) := (blk_cell BK180.out 8).trans rfl; have hcz8_9 : w6.cell? ⟨gb180, 9, none⟩ = some (.bool a0_9) := (blk_cell BK180.out 9).trans rfl; have hcz8_10 : w6.cell? ⟨gb180, 10, none⟩ = some (.int .i64 a0_10) := (blk_cell BK180.out 10).trans rfl; have hcz8_11 : w6.cell? ⟨gb180, 11, none⟩ = some (.string a0_11) := (blk_cell BK180.out 11).trans rfl; have hcz8_12 : w6.cell? ⟨gb180, 12, none⟩ = some (.string a0_12) := (blk_cell BK180.out 12).trans rfl; have hfz8_0 := blk_frozen BK180.out 0; have hfz8_1 := blk_frozen BK180.out 1; have hfz8_2 := blk_frozen BK180.out 2; have hfz8_3 := blk_frozen BK180.out 3; have hfz8_4 := blk_frozen BK180.out 4; have hfz8_5 := blk_frozen BK180.out 5; have hfz8_6 := blk_frozen BK180.out 6; have hfz8_7 := blk_frozen BK180.out 7; have hfz8_8 := blk_frozen BK180.out 8; have hfz8_9 := blk_frozen BK180.out 9; have hfz8_10 := blk_frozen BK180.out 10; have hfz8_11 := blk_frozen BK180.out 11; have hfz8_12 := blk_frozen BK180.out 12) | ((with_reducible refine gate_builtin (b := .append) (xs := #[.tmp 17, .tmp 25]) rfl ?_); at_builtin; refine Kd.R_append k49 (w0 := w) w.heap.size rfl (.tmp 17) (.tmp 25) 41 49 (.agg #[(.string ⟨#[]⟩), (.string ⟨#[]⟩), (.string ⟨#[]⟩), (.int .i64 0)]) 56 rfl Tryd.underlying41 info49 rfl (by decide) (by omega) v182 y181 (⟨a0_2, a0_1, (⟨#[67, 65, 83, 72]⟩ : ByteArray), a0_5⟩ : S49) [.string a0_2, .string a0_1, .string (⟨#[67, 65, 83, 72]⟩ : ByteArray), .int .i64 a0_5] (fun _ => True) (fun _ => False) rfl rfl ?aP (fun _ hk => hk.elim) ?aF ?aO ?aB ?aS ?aL ?_; (case aP => exact k49_mkM _ _ _ (⟨a0_2, a0_1, (⟨#[67, 65, 83, 72]⟩ : ByteArray), a0_5⟩ : S49)); (case aB => exact (by repeat (first | (with_reducible first | exact HB.out | apply below_alloc | apply pw_below_drewN | apply below_drew1 | refine below_set ?_ GE180.out) | exact HB.out))); (case aF => exact (fun _ _ => trivial)); (case aO => exact (by (with_reducible repeat (first | apply Kd.R_alloc | apply Kd.R_drewN | apply Kd.R_drew)); exact HO183.out)); (case aS => exact (below_size (by repeat (first | (with_reducible first | exact HB.out | apply below_alloc | apply pw_below_drewN | apply below_drew1 | refine below_set ?_ GE180.out) | exact HB.out)))); (case aL => have := LMc3.out; omega); intro v185 w9 ho hb hg hat; rw [← Ny184.out] at ho; have n0_ := Aside0.mk (blk_grown (g := gb180) (o := .cells #[.int .i64 a0_0, .string a0_1, .string a0_2, .string a0_3, .int .i64 a0_4, .int .i64 a0_5, .int .i64 a0_6, .int .i64 a0_7, .int .i64 a0_8, .bool a0_9, .int .i64 a0_10, .string a0_11, .string a0_12] 24 (0, 0)) (by (with_reducible repeat (first | refine blk_drewN ?_ _ | refine blk_drew ?_ | refine blk_alloc ?_ _)); exact BK180.out) hg (Kd.R_ne HO183.out BK180.out (by decide))); have n1_ := Aside0.mk (hb); have n2_ := Aside0.mk (ho); clear BK180; clear HB; clear HO183; have BK180 := n0_; have HB := n1_; have HO186 := n2_; clear n0_ n1_ n2_; clear ho hb hg hat))
   go_ret
   exact ⟨_, by first | rfl | (simp [errW_none, errW_some] <;> rfl) | (simp [*, errW_none, errW_some] <;> rfl), by (with_reducible repeat (first | apply Kd.R_alloc | apply Kd.R_drewN | apply Kd.R_drew)); exact HO186.out, by repeat (first | (with_reducible first | exact HB.out | apply below_alloc | apply pw_below_drewN | apply below_drew1 | refine below_set ?_ GE180.out) | exact HB.out)⟩
  ·rw [if_neg c3] at H
   exact absurd H (by simp)
 ·rw [if_neg c2] at H
  have c2b0 : (a0_0 == 1) = false := beq_eq_false_iff_ne.mpr c2
  have c2b1 : (a0_0 != 1) = true := bne_iff_ne.mpr c2
  obtain rfl := Option.some.inj H
  go_enter Tryd.func20, Tryd.ntmps20
  go_wp2_with (first | ((with_reducible refine gate_dst (N := 1) rfl ?_); refine box_event ?hg (N := 1) ?hd (cs := #[.int .i64 a0_0, .string a0_1, .string a0_2, .string a0_3, .int .i64 a0_4, .int .i64 a0_5, .int .i64 a0_6, .int .i64 a0_7, .int .i64 a0_8, .bool a0_9, .int .i64 a0_10, .string a0_11, .string a0_12]) (t := 24) ?hr ?_; (case hd => rfl); (case hg => rfl); (case hr => first | (go_simp; done) | (go_simp; rfl)); intro gb180 hg w10 hbox hb; have n0_ := Aside0.mk (below_step (by repeat (first | (with_reducible first | exact HB.out | apply below_alloc | apply pw_below_drewN | apply below_drew1) | exact HB.out)) hb); have n1_ := Aside0.mk (hbox); have n2_ := Aside0.mk ((by rw [hg]; exact (below_size (by repeat (first | (with_reducible first | exact HB.out | apply below_alloc | apply pw_below_drewN | apply below_drew1) | exact HB.out))) : w.heap.size ≤ gb180)); have n3_ := Aside0.mk ((by rw [hg]; exact (below_size (by repeat (first | (with_reducible first | exact HB.out | apply below_alloc | apply pw_below_drewN | apply below_drew1) | exact HB.out))) : w.heap.size ≤ gb180)); clear HB; have HB := n0_; have BK180 := n1_; have GW180 := n2_; have GE180 := n3_; clear n0_ n1_ n2_ n3_; clear hb hbox hg; have hcz11_0 : w10.cell? ⟨gb180, 0, none⟩ = some (.int .i64 a0_0) := (blk_cell BK180.out 0).trans rfl; have hcz11_1 : w10.cell? ⟨gb180, 1, none⟩ = some (.string a0_1) := (blk_cell BK180.out 1).trans rfl; have hcz11_2 : w10.cell? ⟨gb180, 2, none⟩ = some (.string a0_2) := (blk_cell BK180.out 2).trans rfl; have hcz11_3 : w10.cell? ⟨gb180, 3, none⟩ = some (.string a0_3) := (blk_cell BK180.out 3).trans rfl; have hcz11_4 : w10.cell? ⟨gb180, 4, none⟩ = some (.int .i64 a0_4) := (blk_cell BK180.out 4).trans rfl; have hcz11_5 : w10.cell? ⟨gb180, 5, none⟩ = some (.int .i64 a0_5) := (blk_cell BK180.out 5).trans rfl; have hcz11_6 : w10.cell? ⟨gb180, 6, none⟩ = some (.int .i64 a0_6) := (blk_cell BK180.out 6).trans rfl; have hcz11_7 : w10.cell? ⟨gb180, 7, none⟩ = some (.int .i64 a0_7) := (blk_cell BK180.out 7).trans rfl; have hcz11_8 : w10.cell? ⟨gb180, 8, none⟩ = some (.int .i64 a0_8) := (blk_cell BK180.out 8).trans rfl; have hcz11_9 : w10.cell? ⟨gb180, 9, none⟩ = some (.bool a0_9) := (blk_cell BK180.out 9).trans rfl; have hcz11_10 : w10.cell? ⟨gb180, 10, none⟩ = some (.int .i64 a0_10) := (blk_cell BK180.out 10).trans rfl; have hcz11_11 : w10.cell? ⟨gb180, 11, none⟩ = some (.string a0_11) := (blk_cell BK180.out 11).trans rfl; have hcz11_12 : w10.cell? ⟨gb180, 12, none⟩ = some (.string a0_12) := (blk_cell BK180.out 12).trans rfl; have hfz11_0 := blk_frozen BK180.out 0; have hfz11_1 := blk_frozen BK180.out 1; have hfz11_2 := blk_frozen BK180.out 2; have hfz11_3 := blk_frozen BK180.out 3; have hfz11_4 := blk_frozen BK180.out 4; have hfz11_5 := blk_frozen BK180.out 5; have hfz11_6 := blk_frozen BK180.out 6; have hfz11_7 := blk_frozen BK180.out 7; have hfz11_8 := blk_frozen BK180.out 8; have hfz11_9 := blk_frozen BK180.out 9; have hfz11_10 := blk_frozen BK180.out 10; have hfz11_11 := blk_frozen BK180.out 11; have hfz11_12 := blk_frozen BK180.out 12) | ((with_reducible refine gate_dst (N := 13) rfl ?_); refine Kd.R_lit k49 _ 49 ?hg (N := 13) ?hd (xs := ([(⟨a0_1, a0_2, a0_3, a0_4⟩ : S49)] : List (S49))) (inner := [.string a0_1, .string a0_2, .string a0_3, .int .i64 a0_4]) (ok := fun _ => True) (okp := fun _ => True) ?hr ?hp (fun _ hk => hk) trivial (Below.refl _ _) (Nat.le_refl _) (by simp) ?_; (case hd => rfl); (case hg => rfl); (case hr => first | (go_simp; done) | (go_simp; rfl)); (case hp => exact (Reps.c4 (show Kd.M k49 _ _ _ (⟨a0_1, a0_2, a0_3, a0_4⟩ : S49) [.string a0_1, .string a0_2, .string a0_3, .int .i64 a0_4] from (k49_mkM _ _ _ (⟨a0_1, a0_2, a0_3, a0_4⟩ : S49) )) (Reps.none _ _))); intro v182 w12 ho13 hb hg_ hnew_; clear hg_ hnew_; (first | rw [← Ny181.out] at ho13 | (simp only [Int.reduceToNat] at ho13; rw [← Ny181.out] at ho13)); have n0_ := Aside0.mk (Kd.R_lower ho13 (below_size (by repeat (first | (with_reducible first | exact HB.out | apply below_alloc | apply pw_below_drewN | apply below_drew1 | refine below_set ?_ GE180.out) | exact HB.out)))); have n1_ := Aside0.mk (blk_below (g := gb180) (o := .cells #[.int .i64 a0_0, .string a0_1, .string a0_2, .string a0_3, .int .i64 a0_4, .int .i64 a0_5, .int .i64 a0_6, .int .i64 a0_7, .int .i64 a0_8, .bool a0_9, .int .i64 a0_10, .string a0_11, .string a0_12] 24 (0, 0)) (by (with_reducible repeat (first | refine blk_drewN ?_ _ | refine blk_drew ?_ | refine blk_alloc ?_ _)); exact BK180.out) hb); have n2_ := Aside0.mk (below_step (by repeat (first | (with_reducible first | exact HB.out | apply below_alloc | apply pw_below_drewN | apply below_drew1 | refine below_set ?_ GE180.out) | exact HB.out)) hb); clear BK180; clear HB; have HO183 := n0_; have BK180 := n1_; have HB := n2_; clear n0_ n1_ n2_; clear hb ho13; have hcz14_0 : w12.cell? ⟨gb180, 0, none⟩ = some (.int .i64 a0_0) := (blk_cell BK180.out 0).trans rfl; have hcz14_1 : w12.cell? ⟨gb180, 1, none⟩ = some (.string a0_1) := (blk_cell BK180.out 1).trans rfl; have hcz14_2 : w12.cell? ⟨gb180, 2, none⟩ = some (.string a0_2) := (blk_cell BK180.out 2).trans rfl; have hcz14_3 : w12.cell? ⟨gb180, 3, none⟩ = some (.string a0_3) := (blk_cell BK180.out 3).trans rfl; have hcz14_4 : w12.cell? ⟨gb180, 4, none⟩ = some (.int .i64 a0_4) := (blk_cell BK180.out 4).trans rfl; have hcz14_5 : w12.cell? ⟨gb180, 5, none⟩ = some (.int .i64 a0_5) := (blk_cell BK180.out 5).trans rfl; have hcz14_6 : w12.cell? ⟨gb180, 6, none⟩ = some (.int .i64 a0_6) := (blk_cell BK180.out 6).trans rfl; have hcz14_7 : w12.cell? ⟨gb180, 7, none⟩ = some (.int .i64 a0_7) := (blk_cell BK180.out 7).trans rfl; have hcz14_8 : w12.cell? ⟨gb180, 8, none⟩ = some (.int .i64 a0_8) := (blk_cell BK180.out 8).trans rfl; have hcz14_9 : w12.cell? ⟨gb180, 9, none⟩ = some (.bool a0_9) := (blk_cell BK180.out 9).trans rfl; have hcz14_10 : w12.cell? ⟨gb180, 10, none⟩ = some (.int .i64 a0_10) := (blk_cell BK180.out 10).trans rfl; have hcz14_11 : w12.cell? ⟨gb180, 11, none⟩ = some (.string a0_11) := (blk_cell BK180.out 11).trans rfl; have hcz14_12 : w12.cell? ⟨gb180, 12, none⟩ = some (.string a0_12) := (blk_cell BK180.out 12).trans rfl; have hfz14_0 := blk_frozen BK180.out 0; have hfz14_1 := blk_frozen BK180.out 1; have hfz14_2 := blk_frozen BK180.out 2; have hfz14_3 := blk_frozen BK180.out 3; have hfz14_4 := blk_frozen BK180.out 4; have hfz14_5 := blk_frozen BK180.out 5; have hfz14_6 := blk_frozen BK180.out 6; have hfz14_7 := blk_frozen BK180.out 7; have hfz14_8 := blk_frozen BK180.out 8; have hfz14_9 := blk_frozen BK180.out 9; have hfz14_10 := blk_frozen BK180.out 10; have hfz14_11 := blk_frozen BK180.out 11; have hfz14_12 := blk_frozen BK180.out 12))
  go_ret
  exact ⟨_, by first | rfl | (simp [errW_none, errW_some] <;> rfl) | (simp [*, errW_none, errW_some] <;> rfl), by (with_reducible repeat (first | apply Kd.R_alloc | apply Kd.R_drewN | apply Kd.R_drew)); exact HO183.out, by repeat (first | (with_reducible first | exact HB.out | apply below_alloc | apply pw_below_drewN | apply below_drew1 | refine below_set ?_ GE180.out) | exact HB.out)⟩
end Go.Proofs.YtpclapnmiacfpaaDoor.Q
end
section
namespace Go.Proofs.YtpclapnmiacfpaaDoor.Q
open Go.RowKit Go.Proofs.YtpclapnmiacfpaaDoorW.PrintWords Go.Proofs.YtpclapnmiacfpaaDoorW.PrintLast Go.Proofs.YtpclapnmiacfpaaDoorW.PrintMore
attribute [local go_sem] max2_int min2_int max_two min_two max_three min_three max_four min_four
set_option linter.unusedVariables false
set_option linter.unusedSimpArgs false
def giroref05_Lengths.f (a0 : Int) : Option (Int × Int) := if a0 = 0 then (some (12, 12)) else (if a0 = 1 then (some (4, 8)) else (if a0 = 2 then (some (1, 16)) else (some (20, 20))))
set_option maxHeartbeats 8000000 in
set_option maxRecDepth 100000 in
theorem giroref05_Lengths.calls (a0 : Int) (r1 : Int) (r2 : Int) (w : World) (h : giroref05_Lengths.f a0 = some (r1, r2)) :
  Calls Tryd.prog 56 #[.int .i64 a0] w fun e w' => e = .returned (.tuple #[.int .i64 r1, .int .i64 r2]) ∧ Drawn0 w w' := by
 have H : (if a0 = 0 then (some (12, 12)) else (if a0 = 1 then (some (4, 8)) else (if a0 = 2 then (some (1, 16)) else (some (20, 20))))) = some (r1, r2) := h
 clear h
 by_cases c2 : a0 = 0
 ·rw [if_pos c2] at H
  have c2b0 : (a0 == 0) = true := beq_iff_eq.mpr c2
  have c2b1 : (a0 != 0) = false := bne_eq_false_iff_eq.mpr c2
  clear c2
  simp only [Option.some.injEq, Prod.mk.injEq] at H
  obtain ⟨rfl, rfl⟩ := H
  go_enter Tryd.func56, Tryd.ntmps56
  go_wp2
  go_ret2
  exact ⟨by first | rfl | (simp; done) | (simp [*]; done), by repeat (first | exact Drawn0.refl _ | apply Drawn0.step)⟩
 ·rw [if_neg c2] at H
  have c2b0 : (a0 == 0) = false := beq_eq_false_iff_ne.mpr c2
  have c2b1 : (a0 != 0) = true := bne_iff_ne.mpr c2
  by_cases c3 : a0 = 1
  ·rw [if_pos c3] at H
   have c3b0 : (a0 == 1) = true := beq_iff_eq.mpr c3
   have c3b1 : (a0 != 1) = false := bne_eq_false_iff_eq.mpr c3
   clear c3
   simp only [Option.some.injEq, Prod.mk.injEq] at H
   obtain ⟨rfl, rfl⟩ := H
   go_enter Tryd.func56, Tryd.ntmps56
   go_wp2
   go_ret2
   exact ⟨by first | rfl | (simp; done) | (simp [*]; done), by repeat (first | exact Drawn0.refl _ | apply Drawn0.step)⟩
  ·rw [if_neg c3] at H
   have c3b0 : (a0 == 1) = false := beq_eq_false_iff_ne.mpr c3
   have c3b1 : (a0 != 1) = true := bne_iff_ne.mpr c3
   by_cases c4 : a0 = 2
   ·rw [if_pos c4] at H
    have c4b0 : (a0 == 2) = true := beq_iff_eq.mpr c4
    have c4b1 : (a0 != 2) = false := bne_eq_false_iff_eq.mpr c4
    clear c4
    simp only [Option.some.injEq, Prod.mk.injEq] at H
    obtain ⟨rfl, rfl⟩ := H
    go_enter Tryd.func56, Tryd.ntmps56
    go_wp2
    go_ret2
    exact ⟨by first | rfl | (simp; done) | (simp [*]; done), by repeat (first | exact Drawn0.refl _ | apply Drawn0.step)⟩
   ·rw [if_neg c4] at H
    have c4b0 : (a0 == 2) = false := beq_eq_false_iff_ne.mpr c4
    have c4b1 : (a0 != 2) = true := bne_iff_ne.mpr c4
    simp only [Option.some.injEq, Prod.mk.injEq] at H
    obtain ⟨rfl, rfl⟩ := H
    go_enter Tryd.func56, Tryd.ntmps56
    go_wp2
    go_ret2
    exact ⟨by first | rfl | (simp; done) | (simp [*]; done), by repeat (first | exact Drawn0.refl _ | apply Drawn0.step)⟩
end Go.Proofs.YtpclapnmiacfpaaDoor.Q
end
section
namespace Go.Proofs.YtpclapnmiacfpaaDoor.Q
open Go.RowKit Go.Proofs.YtpclapnmiacfpaaDoorW.PrintWords Go.Proofs.YtpclapnmiacfpaaDoorW.PrintLast Go.Proofs.YtpclapnmiacfpaaDoorW.PrintMore
attribute [local go_sem] max2_int min2_int max_two min_two max_three min_three max_four min_four
set_option linter.unusedVariables false
set_option linter.unusedSimpArgs false
def giroref05_letter.f (a0 : Int) : Option (Bool) := if a0 ≥ 65 then (some (decide (a0 ≤ 90))) else (some false)
set_option maxHeartbeats 8000000 in
set_option maxRecDepth 100000 in
theorem giroref05_letter.calls (a0 : Int) (r : Bool) (w : World) (h : giroref05_letter.f a0 = some r) :
  Calls Tryd.prog 66 #[.int .u8 a0] w fun e w' => e = .returned (.bool r) ∧ Drawn0 w w' := by
 have H : (if a0 ≥ 65 then (some (decide (a0 ≤ 90))) else (some false)) = some r := h
 clear h
 by_cases c2 : a0 ≥ 65
 ·rw [if_pos c2] at H
  have c2b0 : decide (65 ≤ a0) = true := decide_eq_true c2
  clear c2
  obtain rfl := Option.some.inj H
  go_enter Tryd.func66, Tryd.ntmps66
  go_wp2
  go_ret
  exact ⟨by first | rfl | (simp; done) | (simp [*]; done), by repeat (first | exact Drawn0.refl _ | apply Drawn0.step)⟩
 ·rw [if_neg c2] at H
  have c2b0 : decide (65 ≤ a0) = false := decide_eq_false c2
  clear c2
  obtain rfl := Option.some.inj H
  go_enter Tryd.func66, Tryd.ntmps66
  go_wp2
  go_ret
  exact ⟨by first | rfl | (simp; done) | (simp [*]; done), by repeat (first | exact Drawn0.refl _ | apply Drawn0.step)⟩
end Go.Proofs.YtpclapnmiacfpaaDoor.Q
end
section
namespace Go.Proofs.YtpclapnmiacfpaaDoor.Q
open Go.RowKit Go.Proofs.YtpclapnmiacfpaaDoorW.PrintWords Go.Proofs.YtpclapnmiacfpaaDoorW.PrintLast Go.Proofs.YtpclapnmiacfpaaDoorW.PrintMore
attribute [local go_sem] max2_int min2_int max_two min_two max_three min_three max_four min_four
set_option linter.unusedVariables false
set_option linter.unusedSimpArgs false
def giroref05_digit.f (a0 : Int) : Option (Bool) := if a0 ≥ 48 then (some (decide (a0 ≤ 57))) else (some false)
set_option maxHeartbeats 8000000 in
set_option maxRecDepth 100000 in
theorem giroref05_digit.calls (a0 : Int) (r : Bool) (w : World) (h : giroref05_digit.f a0 = some r) :
  Calls Tryd.prog 67 #[.int .u8 a0] w fun e w' => e = .returned (.bool r) ∧ Drawn0 w w' := by
 have H : (if a0 ≥ 48 then (some (decide (a0 ≤ 57))) else (some false)) = some r := h
 clear h
 by_cases c2 : a0 ≥ 48
 ·rw [if_pos c2] at H
  have c2b0 : decide (48 ≤ a0) = true := decide_eq_true c2
  clear c2
  obtain rfl := Option.some.inj H
  go_enter Tryd.func67, Tryd.ntmps67
  go_wp2
  go_ret
  exact ⟨by first | rfl | (simp; done) | (simp [*]; done), by repeat (first | exact Drawn0.refl _ | apply Drawn0.step)⟩
 ·rw [if_neg c2] at H
  have c2b0 : decide (48 ≤ a0) = false := decide_eq_false c2
  clear c2
  obtain rfl := Option.some.inj H
  go_enter Tryd.func67, Tryd.ntmps67
  go_wp2
  go_ret
  exact ⟨by first | rfl | (simp; done) | (simp [*]; done), by repeat (first | exact Drawn0.refl _ | apply Drawn0.step)⟩
end Go.Proofs.YtpclapnmiacfpaaDoor.Q
end
section
namespace Go.Proofs.YtpclapnmiacfpaaDoor.Q
open Go.RowKit Go.Proofs.YtpclapnmiacfpaaDoorW.PrintWords Go.Proofs.YtpclapnmiacfpaaDoorW.PrintLast Go.Proofs.YtpclapnmiacfpaaDoorW.PrintMore
attribute [local go_sem] max2_int min2_int max_two min_two max_three min_three max_four min_four
set_option linter.unusedVariables false
set_option linter.unusedSimpArgs false
def giroref05_may.f (a0 : Int) (a1 : Int) (a2 : Int) : Option (Bool) := if a0 = 0 then (if a1 < 2 then ((giroref05_letter.f a2).bind fun t129 => (if t129 = true then (some true) else (if a1 ≥ 2 then (if a1 < 11 then ((giroref05_digit.f a2).bind fun t130 => (if t130 = true then (some true) else (if a1 = 11 then (some t130) else (some false)))) else (if a1 = 11 then ((giroref05_digit.f a2).bind fun t131 => (some t131)) else (some false))) else (if a1 = 11 then ((giroref05_digit.f a2).bind fun t132 => (some t132)) else (some false))))) else (if a1 ≥ 2 then (if a1 < 11 then ((giroref05_letter.f a2).bind fun t133 => (if t133 = true then (some true) else ((giroref05_digit.f a2).bind fun t134 => (if t134 = true then (some true) else (if a1 = 11 then (some t134) else (some false)))))) else (if a1 = 11 then ((giroref05_digit.f a2).bind fun t135 => (some t135)) else (some false))) else (if a1 = 11 then ((giroref05_digit.f a2).bind fun t136 => (some t136)) else (some false)))) else (if a0 = 1 then ((giroref05_letter.f a2).bind fun t137 => (if t137 = true then (some true) else (if a1 > 0 then ((giroref05_digit.f a2).bind fun t138 => (some t138)) else (some false)))) else (if a0 = 2 then ((giroref05_letter.f a2).bind fun t139 => (if t139 = true then (some true) else ((giroref05_digit.f a2).bind fun t140 => (if t140 = true then (some true) else (some (a2 == 45)))))) else ((giroref05_digit.f a2).bind fun t141 => (if t141 = true then (some true) else (if a1 < 18 then ((giroref05_letter.f a2).bind fun t142 => (some t142)) else (some false))))))
set_option maxHeartbeats 8000000 in
set_option maxRecDepth 100000 in
theorem giroref05_may.calls (a0 : Int) (a1 : Int) (a2 : Int) (r : Bool) (w : World) (h : giroref05_may.f a0 a1 a2 = some r) :
  Calls Tryd.prog 57 #[.int .i64 a0, .int .i64 a1, .int .u8 a2] w fun e w' => e = .returned (.bool r) ∧ Drawn0 w w' := by
 have H : (if a0 = 0 then (if a1 < 2 then ((giroref05_letter.f a2).bind fun t129 => (if t129 = true then (some true) else (if a1 ≥ 2 then (if a1 < 11 then ((giroref05_digit.f a2).bind fun t130 => (if t130 = true then (some true) else (if a1 = 11 then (some t130) else (some false)))) else (if a1 = 11 then ((giroref05_digit.f a2).bind fun t131 => (some t131)) else (some false))) else (if a1 = 11 then ((giroref05_digit.f a2).bind fun t132 => (some t132)) else (some false))))) else (if a1 ≥ 2 then (if a1 < 11 then ((giroref05_letter.f a2).bind fun t133 => (if t133 = true then (some true) else ((giroref05_digit.f a2).bind fun t134 => (if t134 = true then (some true) else (if a1 = 11 then (some t134) else (some false)))))) else (if a1 = 11 then ((giroref05_digit.f a2).bind fun t135 => (some t135)) else (some false))) else (if a1 = 11 then ((giroref05_digit.f a2).bind fun t136 => (some t136)) else (some false)))) else (if a0 = 1 then ((giroref05_letter.f a2).bind fun t137 => (if t137 = true then (some true) else (if a1 > 0 then ((giroref05_digit.f a2).bind fun t138 => (some t138)) else (some false)))) else (if a0 = 2 then ((giroref05_letter.f a2).bind fun t139 => (if t139 = true then (some true) else ((giroref05_digit.f a2).bind fun t140 => (if t140 = true then (some true) else (some (a2 == 45)))))) else ((giroref05_digit.f a2).bind fun t141 => (if t141 = true then (some true) else (if a1 < 18 then ((giroref05_letter.f a2).bind fun t142 => (some t142)) else (some false))))))) = some r := h
 clear h
 by_cases c4 : a0 = 0
 ·rw [if_pos c4] at H
  have c4b0 : (a0 == 0) = true := beq_iff_eq.mpr c4
  have c4b1 : (a0 != 0) = false := bne_eq_false_iff_eq.mpr c4
  clear c4
  by_cases c5 : a1 < 2
  ·rw [if_pos c5] at H
   have c5b0 : decide (a1 < 2) = true := decide_eq_true c5
   clear c5
   replace H := Option.bind_eq_some_iff.mp H
   obtain ⟨t129, A60, H⟩ := H
   replace H : (if t129 = true then (some true) else (if a1 ≥ 2 then (if a1 < 11 then ((giroref05_digit.f a2).bind fun t130 => (if t130 = true then (some true) else (if a1 = 11 then (some t130) else (some false)))) else (if a1 = 11 then ((giroref05_digit.f a2).bind fun t131 => (some t131)) else (some false))) else (if a1 = 11 then ((giroref05_digit.f a2).bind fun t132 => (some t132)) else (some false)))) = some r := H
   have A6 := Aside0.mk A60
   clear A60
   by_cases c7 : t129 = true
   ·subst c7
    have H1 : (some true) = some r := by rw [if_pos rfl] at H; exact H
    clear H
    have H := H1
    clear H1
    obtain rfl := Option.some.inj H
    go_enter Tryd.func57, Tryd.ntmps57
    go_wp2_with (first | (go_at_call 66; (with_reducible refine (giroref05_letter.calls a2 true _ A6.out).mono ?_); rintro e w' ⟨rfl, ⟨nd, rfl⟩⟩))
    go_ret
    exact ⟨by first | rfl | (simp; done) | (simp [*]; done), by repeat (first | exact Drawn0.refl _ | apply Drawn0.step)⟩
   ·replace c7 := Bool.eq_false_iff.mpr c7
    subst c7
    have H1 : (if a1 ≥ 2 then (if a1 < 11 then ((giroref05_digit.f a2).bind fun t130 => (if t130 = true then (some true) else (if a1 = 11 then (some t130) else (some false)))) else (if a1 = 11 then ((giroref05_digit.f a2).bind fun t131 => (some t131)) else (some false))) else (if a1 = 11 then ((giroref05_digit.f a2).bind fun t132 => (some t132)) else (some false))) = some r := by rw [if_neg (show ¬ (false = true) by decide)] at H; exact H
    clear H
    have H := H1
    clear H1
    by_cases c8 : a1 ≥ 2
    ·rw [if_pos c8] at H
     have c8b0 : decide (2 ≤ a1) = true := decide_eq_true c8
     clear c8
     by_cases c9 : a1 < 11
     ·rw [if_pos c9] at H
      have c9b0 : decide (a1 < 11) = true := decide_eq_true c9
      clear c9
      replace H := Option.bind_eq_some_iff.mp H
      obtain ⟨t130, A100, H⟩ := H
      replace H : (if t130 = true then (some true) else (if a1 = 11 then (some t130) else (some false))) = some r := H
      have A10 := Aside0.mk A100
      clear A100
      by_cases c11 : t130 = true
      ·subst c11
       have H1 : (some true) = some r := by rw [if_pos rfl] at H; exact H
       clear H
       have H := H1
       clear H1
       obtain rfl := Option.some.inj H
       go_enter Tryd.func57, Tryd.ntmps57
       go_wp2_with (first | (go_at_call 66; (with_reducible refine (giroref05_letter.calls a2 false _ A6.out).mono ?_); rintro e w' ⟨rfl, ⟨nd, rfl⟩⟩) | (go_at_call 67; (with_reducible refine (giroref05_digit.calls a2 true _ A10.out).mono ?_); rintro e w' ⟨rfl, ⟨nd, rfl⟩⟩))
       go_ret
       exact ⟨by first | rfl | (simp; done) | (simp [*]; done), by repeat (first | exact Drawn0.refl _ | apply Drawn0.step)⟩
      ·replace c11 := Bool.eq_false_iff.mpr c11
       subst c11
       have H1 : (if a1 = 11 then (some false) else (some false)) = some r := by rw [if_neg (show ¬ (false = true) by decide)] at H; exact H
       clear H
       have H := H1
       clear H1
       by_cases c12 : a1 = 11
       ·rw [if_pos c12] at H
        have c12b0 : (a1 == 11) = true := beq_iff_eq.mpr c12
        have c12b1 : (a1 != 11) = false := bne_eq_false_iff_eq.mpr c12
        clear c12
        obtain rfl := Option.some.inj H
        go_enter Tryd.func57, Tryd.ntmps57
        go_wp2_with (first | (go_at_call 66; (with_reducible refine (giroref05_letter.calls a2 false _ A6.out).mono ?_); rintro e w' ⟨rfl, ⟨nd, rfl⟩⟩) | (go_at_call 67; (with_reducible refine (giroref05_digit.calls a2 false _ A10.out).mono ?_); rintro e w' ⟨rfl, ⟨nd, rfl⟩⟩))
        go_ret
        exact ⟨by first | rfl | (simp; done) | (simp [*]; done), by repeat (first | exact Drawn0.refl _ | apply Drawn0.step)⟩
       ·rw [if_neg c12] at H
        have c12b0 : (a1 == 11) = false := beq_eq_false_iff_ne.mpr c12
        have c12b1 : (a1 != 11) = true := bne_iff_ne.mpr c12
        obtain rfl := Option.some.inj H
        go_enter Tryd.func57, Tryd.ntmps57
        go_wp2_with (first | (go_at_call 66; (with_reducible refine (giroref05_letter.calls a2 false _ A6.out).mono ?_); rintro e w' ⟨rfl, ⟨nd, rfl⟩⟩) | (go_at_call 67; (with_reducible refine (giroref05_digit.calls a2 false _ A10.out).mono ?_); rintro e w' ⟨rfl, ⟨nd, rfl⟩⟩))
        go_ret
        exact ⟨by first | rfl | (simp; done) | (simp [*]; done), by repeat (first | exact Drawn0.refl _ | apply Drawn0.step)⟩
     ·rw [if_neg c9] at H
      have c9b0 : decide (a1 < 11) = false := decide_eq_false c9
      clear c9
      by_cases c13 : a1 = 11
      ·rw [if_pos c13] at H
       have c13b0 : (a1 == 11) = true := beq_iff_eq.mpr c13
       have c13b1 : (a1 != 11) = false := bne_eq_false_iff_eq.mpr c13
       clear c13
       replace H := Option.bind_eq_some_iff.mp H
       obtain ⟨t131, A140, H⟩ := H
       replace H : (some t131) = some r := H
       have A14 := Aside0.mk A140
       clear A140
       obtain rfl := Option.some.inj H
       go_enter Tryd.func57, Tryd.ntmps57
       go_wp2_with (first | (go_at_call 66; (with_reducible refine (giroref05_letter.calls a2 false _ A6.out).mono ?_); rintro e w' ⟨rfl, ⟨nd, rfl⟩⟩) | (go_at_call 67; (with_reducible refine (giroref05_digit.calls a2 t131 _ A14.out).mono ?_); rintro e w' ⟨rfl, ⟨nd, rfl⟩⟩))
       go_ret
       exact ⟨by first | rfl | (simp; done) | (simp [*]; done), by repeat (first | exact Drawn0.refl _ | apply Drawn0.step)⟩
      ·rw [if_neg c13] at H
       have c13b0 : (a1 == 11) = false := beq_eq_false_iff_ne.mpr c13
       have c13b1 : (a1 != 11) = true := bne_iff_ne.mpr c13
       obtain rfl := Option.some.inj H
       go_enter Tryd.func57, Tryd.ntmps57
       go_wp2_with (first | (go_at_call 66; (with_reducible refine (giroref05_letter.calls a2 false _ A6.out).mono ?_); rintro e w' ⟨rfl, ⟨nd, rfl⟩⟩))
       go_ret
       exact ⟨by first | rfl | (simp; done) | (simp [*]; done), by repeat (first | exact Drawn0.refl _ | apply Drawn0.step)⟩
    ·rw [if_neg c8] at H
     have c8b0 : decide (2 ≤ a1) = false := decide_eq_false c8
     clear c8
     by_cases c15 : a1 = 11
     ·rw [if_pos c15] at H
      have c15b0 : (a1 == 11) = true := beq_iff_eq.mpr c15
      have c15b1 : (a1 != 11) = false := bne_eq_false_iff_eq.mpr c15
      clear c15
      replace H := Option.bind_eq_some_iff.mp H
      obtain ⟨t132, A160, H⟩ := H
      replace H : (some t132) = some r := H
      have A16 := Aside0.mk A160
      clear A160
      obtain rfl := Option.some.inj H
      go_enter Tryd.func57, Tryd.ntmps57
      go_wp2_with (first | (go_at_call 66; (with_reducible refine (giroref05_letter.calls a2 false _ A6.out).mono ?_); rintro e w' ⟨rfl, ⟨nd, rfl⟩⟩) | (go_at_call 67; (with_reducible refine (giroref05_digit.calls a2 t132 _ A16.out).mono ?_); rintro e w' ⟨rfl, ⟨nd, rfl⟩⟩))
      go_ret
      exact ⟨by first | rfl | (simp; done) | (simp [*]; done), by repeat (first | exact Drawn0.refl _ | apply Drawn0.step)⟩
     ·rw [if_neg c15] at H
      have c15b0 : (a1 == 11) = false := beq_eq_false_iff_ne.mpr c15
      have c15b1 : (a1 != 11) = true := bne_iff_ne.mpr c15
      obtain rfl := Option.some.inj H
      go_enter Tryd.func57, Tryd.ntmps57
      go_wp2_with (first | (go_at_call 66; (with_reducible refine (giroref05_letter.calls a2 false _ A6.out).mono ?_); rintro e w' ⟨rfl, ⟨nd, rfl⟩⟩))
      go_ret
      exact ⟨by first | rfl | (simp; done) | (simp [*]; done), by repeat (first | exact Drawn0.refl _ | apply Drawn0.step)⟩
  ·rw [if_neg c5] at H
   have c5b0 : decide (a1 < 2) = false := decide_eq_false c5
   clear c5
   by_cases c17 : a1 ≥ 2
   ·rw [if_pos c17] at H
    have c17b0 : decide (2 ≤ a1) = true := decide_eq_true c17
    clear c17
    by_cases c18 : a1 < 11
    ·rw [if_pos c18] at H
     have c18b0 : decide (a1 < 11) = true := decide_eq_true c18
     clear c18
     replace H := Option.bind_eq_some_iff.mp H
     obtain ⟨t133, A190, H⟩ := H
     replace H : (if t133 = true then (some true) else ((giroref05_digit.f a2).bind fun t134 => (if t134 = true then (some true) else (if a1 = 11 then (some t134) else (some false))))) = some r := H
     have A19 := Aside0.mk A190
     clear A190
     by_cases c20 : t133 = true
     ·subst c20
      have H1 : (some true) = some r := by rw [if_pos rfl] at H; exact H
      clear H
      have H := H1
      clear H1
      obtain rfl := Option.some.inj H
      go_enter Tryd.func57, Tryd.ntmps57
      go_wp2_with (first | (go_at_call 66; (with_reducible refine (giroref05_letter.calls a2 true _ A19.out).mono ?_); rintro e w' ⟨rfl, ⟨nd, rfl⟩⟩))
      go_ret
      exact ⟨by first | rfl | (simp; done) | (simp [*]; done), by repeat (first | exact Drawn0.refl _ | apply Drawn0.step)⟩
     ·replace c20 := Bool.eq_false_iff.mpr c20
      subst c20
      have H1 : ((giroref05_digit.f a2).bind fun t134 => (if t134 = true then (some true) else (if a1 = 11 then (some t134) else (some false)))) = some r := by rw [if_neg (show ¬ (false = true) by decide)] at H; exact H
      clear H
      have H := H1
      clear H1
      replace H := Option.bind_eq_some_iff.mp H
      obtain ⟨t134, A210, H⟩ := H
      replace H : (if t134 = true then (some true) else (if a1 = 11 then (some t134) else (some false))) = some r := H
      have A21 := Aside0.mk A210
      clear A210
      by_cases c22 : t134 = true
      ·subst c22
       have H1 : (some true) = some r := by rw [if_pos rfl] at H; exact H
       clear H
       have H := H1
       clear H1
       obtain rfl := Option.some.inj H
       go_enter Tryd.func57, Tryd.ntmps57
       go_wp2_with (first | (go_at_call 66; (with_reducible refine (giroref05_letter.calls a2 false _ A19.out).mono ?_); rintro e w' ⟨rfl, ⟨nd, rfl⟩⟩) | (go_at_call 67; (with_reducible refine (giroref05_digit.calls a2 true _ A21.out).mono ?_); rintro e w' ⟨rfl, ⟨nd, rfl⟩⟩))
       go_ret
       exact ⟨by first | rfl | (simp; done) | (simp [*]; done), by repeat (first | exact Drawn0.refl _ | apply Drawn0.step)⟩
      ·replace c22 := Bool.eq_false_iff.mpr c22
       subst c22
       have H1 : (if a1 = 11 then (some false) else (some false)) = some r := by rw [if_neg (show ¬ (false = true) by decide)] at H; exact H
       clear H
       have H := H1
       clear H1
       by_cases c23 : a1 = 11
       ·rw [if_pos c23] at H
        have c23b0 : (a1 == 11) = true := beq_iff_eq.mpr c23
        have c23b1 : (a1 != 11) = false := bne_eq_false_iff_eq.mpr c23
        clear c23
        obtain rfl := Option.some.inj H
        go_enter Tryd.func57, Tryd.ntmps57
        go_wp2_with (first | (go_at_call 66; (with_reducible refine (giroref05_letter.calls a2 false _ A19.out).mono ?_); rintro e w' ⟨rfl, ⟨nd, rfl⟩⟩) | (go_at_call 67; (with_reducible refine (giroref05_digit.calls a2 false _ A21.out).mono ?_); rintro e w' ⟨rfl, ⟨nd, rfl⟩⟩))
        go_ret
        exact ⟨by first | rfl | (simp; done) | (simp [*]; done), by repeat (first | exact Drawn0.refl _ | apply Drawn0.step)⟩
       ·rw [if_neg c23] at H
        have c23b0 : (a1 == 11) = false := beq_eq_false_iff_ne.mpr c23
        have c23b1 : (a1 != 11) = true := bne_iff_ne.mpr c23
        obtain rfl := Option.some.inj H
        go_enter Tryd.func57, Tryd.ntmps57
        go_wp2_with (first | (go_at_call 66; (with_reducible refine (giroref05_letter.calls a2 false _ A19.out).mono ?_); rintro e w' ⟨rfl, ⟨nd, rfl⟩⟩) | (go_at_call 67; (with_reducible refine (giroref05_digit.calls a2 false _ A21.out).mono ?_); rintro e w' ⟨rfl, ⟨nd, rfl⟩⟩))
        go_ret
        exact ⟨by first | rfl | (simp; done) | (simp [*]; done), by repeat (first | exact Drawn0.refl _ | apply Drawn0.step)⟩
    ·rw [if_neg c18] at H
     have c18b0 : decide (a1 < 11) = false := decide_eq_false c18
     clear c18
     by_cases c24 : a1 = 11
     ·rw [if_pos c24] at H
      have c24b0 : (a1 == 11) = true := beq_iff_eq.mpr c24
      have c24b1 : (a1 != 11) = false := bne_eq_false_iff_eq.mpr c24
      clear c24
      replace H := Option.bind_eq_some_iff.mp H
      obtain ⟨t135, A250, H⟩ := H
      replace H : (some t135) = some r := H
      have A25 := Aside0.mk A250
      clear A250
      obtain rfl := Option.some.inj H
      go_enter Tryd.func57, Tryd.ntmps57
      go_wp2_with (first | (go_at_call 67; (with_reducible refine (giroref05_digit.calls a2 t135 _ A25.out).mono ?_); rintro e w' ⟨rfl, ⟨nd, rfl⟩⟩))
      go_ret
      exact ⟨by first | rfl | (simp; done) | (simp [*]; done), by repeat (first | exact Drawn0.refl _ | apply Drawn0.step)⟩
     ·rw [if_neg c24] at H
      have c24b0 : (a1 == 11) = false := beq_eq_false_iff_ne.mpr c24
      have c24b1 : (a1 != 11) = true := bne_iff_ne.mpr c24
      obtain rfl := Option.some.inj H
      go_enter Tryd.func57, Tryd.ntmps57
      go_wp2
      go_ret
      exact ⟨by first | rfl | (simp; done) | (simp [*]; done), by repeat (first | exact Drawn0.refl _ | apply Drawn0.step)⟩
   ·rw [if_neg c17] at H
    have c17b0 : decide (2 ≤ a1) = false := decide_eq_false c17
    clear c17
    by_cases c26 : a1 = 11
    ·rw [if_pos c26] at H
     have c26b0 : (a1 == 11) = true := beq_iff_eq.mpr c26
     have c26b1 : (a1 != 11) = false := bne_eq_false_iff_eq.mpr c26
     clear c26
     replace H := Option.bind_eq_some_iff.mp H
     obtain ⟨t136, A270, H⟩ := H
     replace H : (some t136) = some r := H
     have A27 := Aside0.mk A270
     clear A270
     obtain rfl := Option.some.inj H
     go_enter Tryd.func57, Tryd.ntmps57
     go_wp2_with (first | (go_at_call 67; (with_reducible refine (giroref05_digit.calls a2 t136 _ A27.out).mono ?_); rintro e w' ⟨rfl, ⟨nd, rfl⟩⟩))
     go_ret
     exact ⟨by first | rfl | (simp; done) | (simp [*]; done), by repeat (first | exact Drawn0.refl _ | apply Drawn0.step)⟩
    ·rw [if_neg c26] at H
     have c26b0 : (a1 == 11) = false := beq_eq_false_iff_ne.mpr c26
     have c26b1 : (a1 != 11) = true := bne_iff_ne.mpr c26
     obtain rfl := Option.some.inj H
     go_enter Tryd.func57, Tryd.ntmps57
     go_wp2
     go_ret
     exact ⟨by first | rfl | (simp; done) | (simp [*]; done), by repeat (first | exact Drawn0.refl _ | apply Drawn0.step)⟩
 ·rw [if_neg c4] at H
  have c4b0 : (a0 == 0) = false := beq_eq_false_iff_ne.mpr c4
  have c4b1 : (a0 != 0) = true := bne_iff_ne.mpr c4
  by_cases c28 : a0 = 1
  ·rw [if_pos c28] at H
   have c28b0 : (a0 == 1) = true := beq_iff_eq.mpr c28
   have c28b1 : (a0 != 1) = false := bne_eq_false_iff_eq.mpr c28
   clear c28
   replace H := Option.bind_eq_some_iff.mp H
   obtain ⟨t137, A290, H⟩ := H
   replace H : (if t137 = true then (some true) else (if a1 > 0 then ((giroref05_digit.f a2).bind fun t138 => (some t138)) else (some false))) = some r := H
   have A29 := Aside0.mk A290
   clear A290
   by_cases c30 : t137 = true
   ·subst c30
    have H1 : (some true) = some r := by rw [if_pos rfl] at H; exact H
    clear H
    have H := H1
    clear H1
    obtain rfl := Option.some.inj H
    go_enter Tryd.func57, Tryd.ntmps57
    go_wp2_with (first | ((with_reducible refine gate_callee (f := 66) rfl ?_); refine goesL_ (some 43) rfl rfl Tryd.func66 (by kernel_rfl) rfl #[.int .u8 a2] rfl (by (try simp only [List.map_toArray, List.map_cons, List.map_nil]); first | done | rfl | (simp only [List.length_drop, List.length_take]; rfl)) ?_; (with_reducible refine (giroref05_letter.calls a2 true _ A29.out).mono ?_); rintro e w' ⟨rfl, ⟨nd, rfl⟩⟩; refine ⟨_, rfl, ?_⟩))
    go_ret
    exact ⟨by first | rfl | (simp; done) | (simp [*]; done), by repeat (first | exact Drawn0.refl _ | apply Drawn0.step)⟩
   ·replace c30 := Bool.eq_false_iff.mpr c30
    subst c30
    have H1 : (if a1 > 0 then ((giroref05_digit.f a2).bind fun t138 => (some t138)) else (some false)) = some r := by rw [if_neg (show ¬ (false = true) by decide)] at H; exact H
    clear H
    have H := H1
    clear H1
    by_cases c31 : a1 > 0
    ·rw [if_pos c31] at H
     have c31b0 : decide (0 < a1) = true := decide_eq_true c31
     clear c31
     replace H := Option.bind_eq_some_iff.mp H
     obtain ⟨t138, A320, H⟩ := H
     replace H : (some t138) = some r := H
     have A32 := Aside0.mk A320
     clear A320
     obtain rfl := Option.some.inj H
     go_enter Tryd.func57, Tryd.ntmps57
     go_wp2_with (first | ((with_reducible refine gate_callee (f := 66) rfl ?_); refine goesL_ (some 43) rfl rfl Tryd.func66 (by kernel_rfl) rfl #[.int .u8 a2] rfl (by (try simp only [List.map_toArray, List.map_cons, List.map_nil]); first | done | rfl | (simp only [List.length_drop, List.length_take]; rfl)) ?_; (with_reducible refine (giroref05_letter.calls a2 false _ A29.out).mono ?_); rintro e w' ⟨rfl, ⟨nd, rfl⟩⟩; refine ⟨_, rfl, ?_⟩) | (go_at_call 67; (with_reducible refine (giroref05_digit.calls a2 t138 _ A32.out).mono ?_); rintro e w' ⟨rfl, ⟨nd, rfl⟩⟩))
     go_ret
     exact ⟨by first | rfl | (simp; done) | (simp [*]; done), by repeat (first | exact Drawn0.refl _ | apply Drawn0.step)⟩
    ·rw [if_neg c31] at H
     have c31b0 : decide (0 < a1) = false := decide_eq_false c31
     clear c31
     obtain rfl := Option.some.inj H
     go_enter Tryd.func57, Tryd.ntmps57
     go_wp2_with (first | ((with_reducible refine gate_callee (f := 66) rfl ?_); refine goesL_ (some 43) rfl rfl Tryd.func66 (by kernel_rfl) rfl #[.int .u8 a2] rfl (by (try simp only [List.map_toArray, List.map_cons, List.map_nil]); first | done | rfl | (simp only [List.length_drop, List.length_take]; rfl)) ?_; (with_reducible refine (giroref05_letter.calls a2 false _ A29.out).mono ?_); rintro e w' ⟨rfl, ⟨nd, rfl⟩⟩; refine ⟨_, rfl, ?_⟩))
     go_ret
     exact ⟨by first | rfl | (simp; done) | (simp [*]; done), by repeat (first | exact Drawn0.refl _ | apply Drawn0.step)⟩
  ·rw [if_neg c28] at H
   have c28b0 : (a0 == 1) = false := beq_eq_false_iff_ne.mpr c28
   have c28b1 : (a0 != 1) = true := bne_iff_ne.mpr c28
   by_cases c33 : a0 = 2
   ·rw [if_pos c33] at H
    have c33b0 : (a0 == 2) = true := beq_iff_eq.mpr c33
    have c33b1 : (a0 != 2) = false := bne_eq_false_iff_eq.mpr c33
    clear c33
    replace H := Option.bind_eq_some_iff.mp H
    obtain ⟨t139, A340, H⟩ := H
    replace H : (if t139 = true then (some true) else ((giroref05_digit.f a2).bind fun t140 => (if t140 = true then (some true) else (some (a2 == 45))))) = some r := H
    have A34 := Aside0.mk A340
    clear A340
    by_cases c35 : t139 = true
    ·subst c35
     have H1 : (some true) = some r := by rw [if_pos rfl] at H; exact H
     clear H
     have H := H1
     clear H1
     obtain rfl := Option.some.inj H
     go_enter Tryd.func57, Tryd.ntmps57
     go_wp2_with (first | ((with_reducible refine gate_callee (f := 66) rfl ?_); refine goesL_ (some 55) rfl rfl Tryd.func66 (by kernel_rfl) rfl #[.int .u8 a2] rfl (by (try simp only [List.map_toArray, List.map_cons, List.map_nil]); first | done | rfl | (simp only [List.length_drop, List.length_take]; rfl)) ?_; (with_reducible refine (giroref05_letter.calls a2 true _ A34.out).mono ?_); rintro e w' ⟨rfl, ⟨nd, rfl⟩⟩; refine ⟨_, rfl, ?_⟩))
     go_ret
     exact ⟨by first | rfl | (simp; done) | (simp [*]; done), by repeat (first | exact Drawn0.refl _ | apply Drawn0.step)⟩
    ·replace c35 := Bool.eq_false_iff.mpr c35
     subst c35
     have H1 : ((giroref05_digit.f a2).bind fun t140 => (if t140 = true then (some true) else (some (a2 == 45)))) = some r := by rw [if_neg (show ¬ (false = true) by decide)] at H; exact H
     clear H
     have H := H1
     clear H1
     replace H := Option.bind_eq_some_iff.mp H
     obtain ⟨t140, A360, H⟩ := H
     replace H : (if t140 = true then (some true) else (some (a2 == 45))) = some r := H
     have A36 := Aside0.mk A360
     clear A360
     by_cases c37 : t140 = true
     ·subst c37
      have H1 : (some true) = some r := by rw [if_pos rfl] at H; exact H
      clear H
      have H := H1
      clear H1
      obtain rfl := Option.some.inj H
      go_enter Tryd.func57, Tryd.ntmps57
      go_wp2_with (first | ((with_reducible refine gate_callee (f := 66) rfl ?_); refine goesL_ (some 55) rfl rfl Tryd.func66 (by kernel_rfl) rfl #[.int .u8 a2] rfl (by (try simp only [List.map_toArray, List.map_cons, List.map_nil]); first | done | rfl | (simp only [List.length_drop, List.length_take]; rfl)) ?_; (with_reducible refine (giroref05_letter.calls a2 false _ A34.out).mono ?_); rintro e w' ⟨rfl, ⟨nd, rfl⟩⟩; refine ⟨_, rfl, ?_⟩) | (go_at_call 67; (with_reducible refine (giroref05_digit.calls a2 true _ A36.out).mono ?_); rintro e w' ⟨rfl, ⟨nd, rfl⟩⟩))
      go_ret
      exact ⟨by first | rfl | (simp; done) | (simp [*]; done), by repeat (first | exact Drawn0.refl _ | apply Drawn0.step)⟩
     ·replace c37 := Bool.eq_false_iff.mpr c37
      subst c37
      have H1 : (some (a2 == 45)) = some r := by rw [if_neg (show ¬ (false = true) by decide)] at H; exact H
      clear H
      have H := H1
      clear H1
      obtain rfl := Option.some.inj H
      go_enter Tryd.func57, Tryd.ntmps57
      go_wp2_with (first | ((with_reducible refine gate_callee (f := 66) rfl ?_); refine goesL_ (some 55) rfl rfl Tryd.func66 (by kernel_rfl) rfl #[.int .u8 a2] rfl (by (try simp only [List.map_toArray, List.map_cons, List.map_nil]); first | done | rfl | (simp only [List.length_drop, List.length_take]; rfl)) ?_; (with_reducible refine (giroref05_letter.calls a2 false _ A34.out).mono ?_); rintro e w' ⟨rfl, ⟨nd, rfl⟩⟩; refine ⟨_, rfl, ?_⟩) | (go_at_call 67; (with_reducible refine (giroref05_digit.calls a2 false _ A36.out).mono ?_); rintro e w' ⟨rfl, ⟨nd, rfl⟩⟩))
      go_ret
      exact ⟨by first | rfl | (simp; done) | (simp [*]; done), by repeat (first | exact Drawn0.refl _ | apply Drawn0.step)⟩
   ·rw [if_neg c33] at H
    have c33b0 : (a0 == 2) = false := beq_eq_false_iff_ne.mpr c33
    have c33b1 : (a0 != 2) = true := bne_iff_ne.mpr c33
    replace H := Option.bind_eq_some_iff.mp H
    obtain ⟨t141, A380, H⟩ := H
    replace H : (if t141 = true then (some true) else (if a1 < 18 then ((giroref05_letter.f a2).bind fun t142 => (some t142)) else (some false))) = some r := H
    have A38 := Aside0.mk A380
    clear A380
    by_cases c39 : t141 = true
    ·subst c39
     have H1 : (some true) = some r := by rw [if_pos rfl] at H; exact H
     clear H
     have H := H1
     clear H1
     obtain rfl := Option.some.inj H
     go_enter Tryd.func57, Tryd.ntmps57
     go_wp2_with (first | ((with_reducible refine gate_callee (f := 67) rfl ?_); refine goesL_ (some 65) rfl rfl Tryd.func67 (by kernel_rfl) rfl #[.int .u8 a2] rfl (by (try simp only [List.map_toArray, List.map_cons, List.map_nil]); first | done | rfl | (simp only [List.length_drop, List.length_take]; rfl)) ?_; (with_reducible refine (giroref05_digit.calls a2 true _ A38.out).mono ?_); rintro e w' ⟨rfl, ⟨nd, rfl⟩⟩; refine ⟨_, rfl, ?_⟩))
     go_ret
     exact ⟨by first | rfl | (simp; done) | (simp [*]; done), by repeat (first | exact Drawn0.refl _ | apply Drawn0.step)⟩
    ·replace c39 := Bool.eq_false_iff.mpr c39
     subst c39
     have H1 : (if a1 < 18 then ((giroref05_letter.f a2).bind fun t142 => (some t142)) else (some false)) = some r := by rw [if_neg (show ¬ (false = true) by decide)] at H; exact H
     clear H
     have H := H1
     clear H1
     by_cases c40 : a1 < 18
     ·rw [if_pos c40] at H
      have c40b0 : decide (a1 < 18) = true := decide_eq_true c40
      clear c40
      replace H := Option.bind_eq_some_iff.mp H
      obtain ⟨t142, A410, H⟩ := H
      replace H : (some t142) = some r := H
      have A41 := Aside0.mk A410
      clear A410
      obtain rfl := Option.some.inj H
      go_enter Tryd.func57, Tryd.ntmps57
      go_wp2_with (first | ((with_reducible refine gate_callee (f := 67) rfl ?_); refine goesL_ (some 65) rfl rfl Tryd.func67 (by kernel_rfl) rfl #[.int .u8 a2] rfl (by (try simp only [List.map_toArray, List.map_cons, List.map_nil]); first | done | rfl | (simp only [List.length_drop, List.length_take]; rfl)) ?_; (with_reducible refine (giroref05_digit.calls a2 false _ A38.out).mono ?_); rintro e w' ⟨rfl, ⟨nd, rfl⟩⟩; refine ⟨_, rfl, ?_⟩) | (go_at_call 66; (with_reducible refine (giroref05_letter.calls a2 t142 _ A41.out).mono ?_); rintro e w' ⟨rfl, ⟨nd, rfl⟩⟩))
      go_ret
      exact ⟨by first | rfl | (simp; done) | (simp [*]; done), by repeat (first | exact Drawn0.refl _ | apply Drawn0.step)⟩
     ·rw [if_neg c40] at H
      have c40b0 : decide (a1 < 18) = false := decide_eq_false c40
      clear c40
      obtain rfl := Option.some.inj H
      go_enter Tryd.func57, Tryd.ntmps57
      go_wp2_with (first | ((with_reducible refine gate_callee (f := 67) rfl ?_); refine goesL_ (some 65) rfl rfl Tryd.func67 (by kernel_rfl) rfl #[.int .u8 a2] rfl (by (try simp only [List.map_toArray, List.map_cons, List.map_nil]); first | done | rfl | (simp only [List.length_drop, List.length_take]; rfl)) ?_; (with_reducible refine (giroref05_digit.calls a2 false _ A38.out).mono ?_); rintro e w' ⟨rfl, ⟨nd, rfl⟩⟩; refine ⟨_, rfl, ?_⟩))
      go_ret
      exact ⟨by first | rfl | (simp; done) | (simp [*]; done), by repeat (first | exact Drawn0.refl _ | apply Drawn0.step)⟩
end Go.Proofs.YtpclapnmiacfpaaDoor.Q
end
section
namespace Go.Proofs.YtpclapnmiacfpaaDoor.Q
open Go.RowKit Go.Proofs.YtpclapnmiacfpaaDoorW.PrintWords Go.Proofs.YtpclapnmiacfpaaDoorW.PrintLast Go.Proofs.YtpclapnmiacfpaaDoorW.PrintMore
attribute [local go_sem] max2_int min2_int max_two min_two max_three min_three max_four min_four
set_option linter.unusedVariables false
set_option linter.unusedSimpArgs false
def giroref05_Expand.l0 : Nat → ByteArray → List Int → Int → Option (List Int)
 | 0, _, _, _ => none
 | k + 1, x0, x3, x4 => if x4 < (x0.size : Int) then (if 0 ≤ x4 then ((giroref05_digit.f (bt x0 x4)).bind fun t143 => (if t143 = true then (if x3.length < 17592186044416 then (giroref05_Expand.l0 k x0 (x3 ++ [((bt x0 x4) - 48) % 256]) (wrap64 (x4 + 1))) else (none)) else ((some (([((((bt x0 x4) - 65) % 256) + 10) / 10, ((((bt x0 x4) - 65) % 256) + 10) % 10] : List Int) : List Int)).bind fun y147 => (if x3.length + y147.length < 17592186044416 then (giroref05_Expand.l0 k x0 (x3 ++ y147) (wrap64 (x4 + 1))) else (none))))) else (none)) else (some x3)
def giroref05_Expand.f (k : Nat) (a0 : ByteArray) : Option (List Int) := giroref05_Expand.l0 k a0 ([] : List Int) 0
theorem giroref05_Expand.mono_l : ∀ k, (∀ y0 y1 y2, LeO (giroref05_Expand.l0 k y0 y1 y2) (giroref05_Expand.l0 (k + 1) y0 y1 y2))
 | 0 => fun _ _ _ r h => by simp [giroref05_Expand.l0] at h
 | k + 1 => by
  have ih0 := giroref05_Expand.mono_l k
  ·intro y0 y1 y2
   unfold giroref05_Expand.l0
   repeat' first
   | (with_reducible exact ih0 _ _ _)
   | (with_reducible exact LeO.refl _)
   | (with_reducible exact LeO.none _)
   | (with_reducible refine LeO.ite ?_ ?_)
   | (with_reducible refine LeO.bind ?_ (fun _ => ?_))
   | exact ih0 _ _ _
   | exact LeO.none _
   | refine LeO.ite ?_ ?_
   | refine LeO.bind ?_ (fun _ => ?_)
theorem giroref05_Expand.mono : ∀ a0 k, LeO (giroref05_Expand.f k a0) (giroref05_Expand.f (k + 1) a0) := by
 intro a0 k
 have ih0 := giroref05_Expand.mono_l k
 unfold giroref05_Expand.f
 repeat' first
   | (with_reducible exact ih0 _ _ _)
   | (with_reducible exact LeO.refl _)
   | (with_reducible exact LeO.none _)
   | (with_reducible refine LeO.ite ?_ ?_)
   | (with_reducible refine LeO.bind ?_ (fun _ => ?_))
   | exact ih0 _ _ _
   | exact LeO.none _
   | refine LeO.ite ?_ ?_
   | refine LeO.bind ?_ (fun _ => ?_)
set_option maxHeartbeats 8000000 in
set_option maxRecDepth 100000 in
theorem giroref05_Expand.calls (k : Nat) (a0 : ByteArray) (r : List Int) (w : World) (h : giroref05_Expand.f k a0 = some r) :
  Calls Tryd.prog 68 #[.string a0] w fun e w' => ∃ v0_ : Value, e = .returned (v0_) ∧ Kd.R (Kd.int .i64) 3 w' w.heap.size (fun _ => True) v0_ r ∧ Below w.heap.size w w' := by
 have HB := Aside0.mk (Below.refl w.heap.size w)
 have H : (giroref05_Expand.l0 k a0 ([] : List Int) 0) = some r := h
 clear h
 have H' := Aside0.mk H
 clear H
 go_enter Tryd.func68, Tryd.ntmps68
 go_wp2
 go_loopg [3, 4] k (fun kq v3 v4 w' => ∃ (x3_1 : List Int) (x4_1 : Int), v4 = .int .i64 x4_1 ∧ Aside0 (giroref05_Expand.l0 kq a0 x3_1 x4_1 = some r) ∧ Aside0 (kq ≤ k) ∧ Aside0 (Kd.R (Kd.int .i64) 3 w' w.heap.size (fun _ => True) v3 x3_1) ∧ Aside0 (Below w.heap.size w w'))
 case atStart => exact ⟨(([] : List Int)), (0), (by first | rfl | (simp; done) | (simp [*]; done)), H', ⟨Nat.le_refl _⟩, ⟨by first | exact Kd.R_nil _ _ _ _ _ | exact Kd.N_nil _ _ _ _ _ | exact Kd.V_nil _ _ _ _ _ | exact Kd.Q_nil _ _ _ _ _ | exact Kd.S_nil _ _ _ _ _⟩, ⟨by repeat (first | (with_reducible first | exact HB.out | apply below_alloc | apply pw_below_drewN | apply below_drew1) | exact HB.out)⟩⟩
 case round =>
  clear H'
  obtain ⟨x3_1, x4_1, rfl, HA, HK1, HO_3, HB⟩ := hrel
  cases gk with
  | zero => exact absurd HA.out (by simp [giroref05_Expand.l0])
  | succ k1 =>
   have H := HA.out
   clear HA
   simp only [giroref05_Expand.l0] at H
   by_cases c2 : x4_1 < (a0.size : Int)
   ·rw [if_pos c2] at H
    have c2b0 : decide (x4_1 < (a0.size : Int)) = true := decide_eq_true c2
    clear c2
    by_cases c3 : 0 ≤ x4_1
    ·rw [if_pos c3] at H
     have c3b0 : decide (0 ≤ x4_1) = true := decide_eq_true c3
     clear c3
     replace H := Option.bind_eq_some_iff.mp H
     obtain ⟨t143, A50, H⟩ := H
     replace H : (if t143 = true then (if x3_1.length < 17592186044416 then (giroref05_Expand.l0 k1 a0 (x3_1 ++ [((bt a0 x4_1) - 48) % 256]) (wrap64 (x4_1 + 1))) else (none)) else ((some (([((((bt a0 x4_1) - 65) % 256) + 10) / 10, ((((bt a0 x4_1) - 65) % 256) + 10) % 10] : List Int) : List Int)).bind fun y147 => (if x3_1.length + y147.length < 17592186044416 then (giroref05_Expand.l0 k1 a0 (x3_1 ++ y147) (wrap64 (x4_1 + 1))) else (none)))) = some r := H
     have A5 := Aside0.mk A50
     clear A50
     by_cases c6 : t143 = true
     ·subst c6
      have H1 : (if x3_1.length < 17592186044416 then (giroref05_Expand.l0 k1 a0 (x3_1 ++ [((bt a0 x4_1) - 48) % 256]) (wrap64 (x4_1 + 1))) else (none)) = some r := by rw [if_pos rfl] at H; exact H
      clear H
      have H := H1
      clear H1
      by_cases c8 : x3_1.length < 17592186044416
      ·rw [if_pos c8] at H
       have LMc8 := Aside0.mk c8
       clear c8
       obtain ⟨y144, hy144⟩ : ∃ y_ : List Int, y_ = (x3_1 ++ [((bt a0 x4_1) - 48) % 256]) := ⟨_, rfl⟩
       replace H : (giroref05_Expand.l0 k1 a0 y144 (wrap64 (x4_1 + 1))) = some r := by first | (rw [hy144]; with_reducible exact H) | (have H2_ := (Option.bind_some _ _).symm.trans H; rw [hy144]; with_reducible exact H2_) | (have H2_ := (Option.bind_some _ _).symm.trans H; with_reducible exact H2_) | with_reducible exact H | (rw [hy144]; exact H) | exact H
       have Ny144 := Aside0.mk hy144
       clear hy144
       have H' := Aside0.mk H
       clear H
       have p4 : 0 ≤ (x4_1 : Int) := of_decide_eq_true (by first | (with_reducible assumption) | assumption)
       have q4 : x4_1 < (a0.size : Int) := of_decide_eq_true (by first | (with_reducible assumption) | assumption)
       have hx4 := bt_at a0 x4_1
       replace p4 := eq_true p4
       replace q4 := eq_true q4
       go_wp2_with (first | ((with_reducible refine gate_callee (f := 67) rfl ?_); refine goesL_ (some 15) rfl rfl Tryd.func67 (by kernel_rfl) rfl #[.int .u8 (bt a0 x4_1)] rfl (by (try simp only [List.map_toArray, List.map_cons, List.map_nil]); first | done | rfl | (simp only [List.length_drop, List.length_take]; rfl)) ?_; (with_reducible refine (giroref05_digit.calls (bt a0 x4_1) true _ A5.out).mono ?_); rintro e w' ⟨rfl, ⟨nd, rfl⟩⟩; refine ⟨_, rfl, ?_⟩; have p7 : 0 ≤ (x4_1 : Int) := of_decide_eq_true (by first | (with_reducible assumption) | assumption); have q7 : x4_1 < (a0.size : Int) := of_decide_eq_true (by first | (with_reducible assumption) | assumption); have hx7 := bt_at a0 x4_1; replace p7 := eq_true p7; replace q7 := eq_true q7) | ((with_reducible refine gate_builtin (b := .append) (xs := #[.tmp 16, .tmp 22]) rfl ?_); at_builtin; refine Kd.R_append (Kd.int .i64) (w0 := w) w.heap.size rfl (.tmp 16) (.tmp 22) 58 3 (.int .i64 0) 8 rfl Tryd.underlying58 info3 rfl (by decide) (by omega) u3 x3_1 (((bt a0 x4_1) - 48) % 256) [.int .i64 (((bt a0 x4_1) - 48) % 256)] (fun _ => True) (fun _ => False) rfl rfl ?aP (fun _ hk => hk.elim) ?aF ?aO ?aB ?aS ?aL ?_; (case aP => exact rfl); (case aB => exact (by repeat (first | (with_reducible first | exact HB.out | apply below_alloc | apply pw_below_drewN | apply below_drew1) | exact HB.out))); (case aF => exact (fun _ _ => trivial)); (case aO => exact (by (with_reducible repeat (first | apply Kd.R_alloc | apply Kd.R_drewN | apply Kd.R_drew)); exact HO_3.out)); (case aS => exact (below_size (by repeat (first | (with_reducible first | exact HB.out | apply below_alloc | apply pw_below_drewN | apply below_drew1) | exact HB.out)))); (case aL => have := LMc8.out; omega); intro v145 w9 ho hb hg hat; rw [← Ny144.out] at ho; have n0_ := Aside0.mk (hb); have n1_ := Aside0.mk (ho); clear HB; clear HO_3; have HB := n0_; have HO146 := n1_; clear n0_ n1_; clear ho hb hg hat))
       go_roundg k1
       case measure => have := HK1.out; omega
       case rel => exact ⟨(y144), (wrap64 (x4_1 + 1)), (by first | rfl | (simp; done) | (simp [*]; done)), H', ⟨by have := HK1.out; omega⟩, ⟨by (with_reducible repeat (first | apply Kd.R_alloc | apply Kd.R_drewN | apply Kd.R_drew)); exact HO146.out⟩, ⟨by repeat (first | (with_reducible first | exact HB.out | apply below_alloc | apply pw_below_drewN | apply below_drew1) | exact HB.out)⟩⟩
      ·rw [if_neg c8] at H
       exact absurd H (by simp)
     ·replace c6 := Bool.eq_false_iff.mpr c6
      subst c6
      have H1 : ((some (([((((bt a0 x4_1) - 65) % 256) + 10) / 10, ((((bt a0 x4_1) - 65) % 256) + 10) % 10] : List Int) : List Int)).bind fun y147 => (if x3_1.length + y147.length < 17592186044416 then (giroref05_Expand.l0 k1 a0 (x3_1 ++ y147) (wrap64 (x4_1 + 1))) else (none))) = some r := by rw [if_neg (show ¬ (false = true) by decide)] at H; exact H
      clear H
      have H := H1
      clear H1
      obtain ⟨y147, hy147⟩ : ∃ y_ : List Int, y_ = (([((((bt a0 x4_1) - 65) % 256) + 10) / 10, ((((bt a0 x4_1) - 65) % 256) + 10) % 10] : List Int)) := ⟨_, rfl⟩
      replace H : (if x3_1.length + y147.length < 17592186044416 then (giroref05_Expand.l0 k1 a0 (x3_1 ++ y147) (wrap64 (x4_1 + 1))) else (none)) = some r := by first | (rw [hy147]; with_reducible exact H) | (have H2_ := (Option.bind_some _ _).symm.trans H; rw [hy147]; with_reducible exact H2_) | (have H2_ := (Option.bind_some _ _).symm.trans H; with_reducible exact H2_) | with_reducible exact H | (rw [hy147]; exact H) | exact H
      have Ny147 := Aside0.mk hy147
      clear hy147
      by_cases c11 : x3_1.length + y147.length < 17592186044416
      ·rw [if_pos c11] at H
       have LMc11 := Aside0.mk c11
       clear c11
       obtain ⟨y150, hy150⟩ : ∃ y_ : List Int, y_ = (x3_1 ++ y147) := ⟨_, rfl⟩
       replace H : (giroref05_Expand.l0 k1 a0 y150 (wrap64 (x4_1 + 1))) = some r := by first | (rw [hy150]; with_reducible exact H) | (have H2_ := (Option.bind_some _ _).symm.trans H; rw [hy150]; with_reducible exact H2_) | (have H2_ := (Option.bind_some _ _).symm.trans H; with_reducible exact H2_) | with_reducible exact H | (rw [hy150]; exact H) | exact H
       have Ny150 := Aside0.mk hy150
       clear hy150
       have H' := Aside0.mk H
       clear H
       have p4 : 0 ≤ (x4_1 : Int) := of_decide_eq_true (by first | (with_reducible assumption) | assumption)
       have q4 : x4_1 < (a0.size : Int) := of_decide_eq_true (by first | (with_reducible assumption) | assumption)
       have hx4 := bt_at a0 x4_1
       replace p4 := eq_true p4
       replace q4 := eq_true q4
       go_wp2_with (first | ((with_reducible refine gate_callee (f := 67) rfl ?_); refine goesL_ (some 15) rfl rfl Tryd.func67 (by kernel_rfl) rfl #[.int .u8 (bt a0 x4_1)] rfl (by (try simp only [List.map_toArray, List.map_cons, List.map_nil]); first | done | rfl | (simp only [List.length_drop, List.length_take]; rfl)) ?_; (with_reducible refine (giroref05_digit.calls (bt a0 x4_1) false _ A5.out).mono ?_); rintro e w' ⟨rfl, ⟨nd, rfl⟩⟩; refine ⟨_, rfl, ?_⟩; have p10 : 0 ≤ (x4_1 : Int) := of_decide_eq_true (by first | (with_reducible assumption) | assumption); have q10 : x4_1 < (a0.size : Int) := of_decide_eq_true (by first | (with_reducible assumption) | assumption); have hx10 := bt_at a0 x4_1; replace p10 := eq_true p10; replace q10 := eq_true q10) | ((with_reducible refine gate_dst (N := 35) rfl ?_); refine Kd.R_lit (Kd.int .i64) _ 3 ?hg (N := 35) ?hd (xs := ([((((bt a0 x4_1) - 65) % 256) + 10) / 10, ((((bt a0 x4_1) - 65) % 256) + 10) % 10] : List Int)) (inner := [.int .i64 (((((bt a0 x4_1) - 65) % 256) + 10) / 10), .int .i64 (((((bt a0 x4_1) - 65) % 256) + 10) % 10)]) (ok := fun _ => True) (okp := fun _ => True) ?hr ?hp (fun _ hk => hk) trivial (Below.refl _ _) (Nat.le_refl _) (by simp) ?_; (case hd => rfl); (case hg => rfl); (case hr => first | (go_simp; done) | (go_simp; rfl)); (case hp => exact (Reps.one (show Kd.M (Kd.int .i64) _ _ _ (((((bt a0 x4_1) - 65) % 256) + 10) / 10) [.int .i64 (((((bt a0 x4_1) - 65) % 256) + 10) / 10)] from rfl) (Reps.one (show Kd.M (Kd.int .i64) _ _ _ (((((bt a0 x4_1) - 65) % 256) + 10) % 10) [.int .i64 (((((bt a0 x4_1) - 65) % 256) + 10) % 10)] from rfl) (Reps.none _ _)))); intro v148 w12 ho13 hb hg_ hnew_; clear hg_ hnew_; (first | rw [← Ny147.out] at ho13 | (simp only [Int.reduceToNat] at ho13; rw [← Ny147.out] at ho13)); have n0_ := Aside0.mk (Kd.R_elder' (by (with_reducible repeat (first | apply Kd.R_alloc | apply Kd.R_drewN | apply Kd.R_drew)); exact HO_3.out) (Kd.R_base ho13) hb); have n1_ := Aside0.mk (Kd.R_lower (Kd.R_new' ho13 (Kd.R_lt (by (with_reducible repeat (first | apply Kd.R_alloc | apply Kd.R_drewN | apply Kd.R_drew)); exact HO_3.out))) (below_size (by repeat (first | (with_reducible first | exact HB.out | apply below_alloc | apply pw_below_drewN | apply below_drew1) | exact HB.out)))); have n2_ := Aside0.mk (below_step (by repeat (first | (with_reducible first | exact HB.out | apply below_alloc | apply pw_below_drewN | apply below_drew1) | exact HB.out)) hb); clear HO_3; clear HB; have HO_3 := n0_; have HO149 := n1_; have HB := n2_; clear n0_ n1_ n2_; clear hb ho13; obtain ⟨Ao15, co15, eo15⟩ := Kd.R_slice HO149.out; subst eo15) | ((with_reducible refine gate_builtin (b := .append) (xs := #[.tmp 30, .tmp 35]) rfl ?_); at_builtin; refine Kd.R_append_rows (Kd.int .i64) (w0 := w) w.heap.size rfl (.tmp 30) (.tmp 35) 58 3 (.int .i64 0) 8 rfl Tryd.underlying58 info3 rfl (by decide) (by omega) u3 x3_1 y147 _ _ _ (fun k_ => some k_ ≠ (.slice Ao15 y147.length co15 : Value).ownBlock) (fun _ => False) rfl rfl ?aO ?aR (fun _ _ h => h) (fun _ h => h.elim) ?aF ?aB ?aS ?aL ?_; (case aR => repeat (first | exact (Kd.R_reads' HO149.out).2.2 | (with_reducible refine Kd.C_alloc ?_ _) | (with_reducible refine Kd.C_drewN ?_ _) | (with_reducible refine Kd.C_drew ?_))); (case aB => exact (by repeat (first | (with_reducible first | exact HB.out | apply below_alloc | apply pw_below_drewN | apply below_drew1) | exact HB.out))); (case aF => exact (fun k_ hk => Kd.fresh' (Kd.R_lt (by (with_reducible repeat (first | apply Kd.R_alloc | apply Kd.R_drewN | apply Kd.R_drew)); exact HO149.out)) k_ hk)); (case aO => exact (by (with_reducible repeat (first | apply Kd.R_alloc | apply Kd.R_drewN | apply Kd.R_drew)); exact Kd.R_mono HO_3.out (fun _ hk => hk.2))); (case aS => exact (below_size (by repeat (first | (with_reducible first | exact HB.out | apply below_alloc | apply pw_below_drewN | apply below_drew1) | exact HB.out)))); (case aL => have := LMc11.out; omega); intro v151 w14 ho hb hg hat; rw [← Ny150.out] at ho; have n0_ := Aside0.mk (Kd.R_after (ok := (fun _ => True)) (by (with_reducible repeat (first | apply Kd.R_alloc | apply Kd.R_drewN | apply Kd.R_drew)); exact HO149.out) hg hat); have n1_ := Aside0.mk (hb); have n2_ := Aside0.mk (ho); clear HO149; clear HB; clear HO_3; have HO149 := n0_; have HB := n1_; have HO152 := n2_; clear n0_ n1_ n2_; clear ho hb hg hat))
       go_roundg k1
       case measure => have := HK1.out; omega
       case rel => exact ⟨(y150), (wrap64 (x4_1 + 1)), (by first | rfl | (simp; done) | (simp [*]; done)), H', ⟨by have := HK1.out; omega⟩, ⟨by (with_reducible repeat (first | apply Kd.R_alloc | apply Kd.R_drewN | apply Kd.R_drew)); exact Kd.R_mono HO152.out (fun _ hk => trivial)⟩, ⟨by repeat (first | (with_reducible first | exact HB.out | apply below_alloc | apply pw_below_drewN | apply below_drew1) | exact HB.out)⟩⟩
      ·rw [if_neg c11] at H
       exact absurd H (by simp)
    ·rw [if_neg c3] at H
     exact absurd H (by simp)
   ·rw [if_neg c2] at H
    have c2b0 : decide (x4_1 < (a0.size : Int)) = false := decide_eq_false c2
    clear c2
    obtain rfl := Option.some.inj H
    go_wp2
    go_ret
    exact ⟨_, by first | rfl | (simp [errW_none, errW_some] <;> rfl) | (simp [*, errW_none, errW_some] <;> rfl), by (with_reducible repeat (first | apply Kd.R_alloc | apply Kd.R_drewN | apply Kd.R_drew)); exact HO_3.out, by repeat (first | (with_reducible first | exact HB.out | apply below_alloc | apply pw_below_drewN | apply below_drew1) | exact HB.out)⟩
end Go.Proofs.YtpclapnmiacfpaaDoor.Q
end
