/- Lemmas for the statement StemmaLetters of the given program, for every input that its row lets in. Conditions: none beyond those that each lemma tells. -/
import Derived.BigQuiet
import Derived.Deep.CutBlock
import Derived.Deep.Slices
import Derived.Deep.Strs
import Derived.ChangeArms
import Derived.WideShapes
import Derived.SizedLaws
import Derived.ChangeSlices
import Derived.Test.YtegjollhajgcdaaMStemmaLetters6
set_option linter.unusedVariables false
set_option linter.unusedSimpArgs false
namespace Go.Proofs.Ytegjollhajgcdaa.P.OwnSt
open Go.RowKit Go.Proofs.YtegjollhajgcdaaW.PrintWords Go.Proofs.YtegjollhajgcdaaW.PrintLast Go.Proofs.YtegjollhajgcdaaW.PrintMore
set_option linter.unusedVariables false
set_option linter.unusedSimpArgs false
theorem strOfNums_app (a b : List Int) : strOfNums (a ++ b) = strOfNums a ++ strOfNums b := by
  refine btR_ext _ _ (by rw [ByteArray.size_append, strOfNums_size, strOfNums_size, strOfNums_size, List.length_append]) (fun p hp => ?_)
  have e : (strOfNums (a ++ b)) = strOfNums a ++ strOfNums b := by
    simp [strOfNums, List.map_append]
    rfl
  rw [e]
theorem hasB_app (a b : ByteArray) (c : Int) : hasB (a ++ b) c = true ↔ hasB a c = true ∨ hasB b c = true := by
  rw [hasB_iff, hasB_iff, hasB_iff]
  constructor
  · rintro ⟨q, hq, h⟩
    rw [ByteArray.size_append] at hq
    by_cases e : q < a.size
    · rw [btR_left _ _ q e] at h
      exact .inl ⟨q, e, h⟩
    · rw [show q = a.size + (q - a.size) by omega, btR_right _ _ _ (by omega)] at h
      exact .inr ⟨q - a.size, by omega, h⟩
  · rintro (⟨q, hq, h⟩ | ⟨q, hq, h⟩)
    · exact ⟨q, by rw [ByteArray.size_append]; omega, by rw [btR_left _ _ q hq]; exact h⟩
    · exact ⟨a.size + q, by rw [ByteArray.size_append]; omega, by rw [btR_right _ _ _ hq]; exact h⟩
theorem hasB_one (x c : Int) (h : 0 ≤ x ∧ x ≤ 255) : hasB (strOfNums [x]) c = true ↔ x = c := by
  have h0 : bt (strOfNums [x]) ((0 : Nat) : Int) = x := by
    rw [bt_str [x] 0 (fun z hz => by rw [List.mem_singleton] at hz; rw [hz]; exact h) (by simp)]
    rfl
  rw [hasB_iff]
  constructor
  · rintro ⟨q, hq, e⟩
    rw [strOfNums_size] at hq
    have hq : q < 1 := hq
    rw [show q = 0 by omega, h0] at e
    exact e
  · intro e
    exact ⟨0, by rw [strOfNums_size]; exact Nat.zero_lt_one, by rw [h0]; exact e⟩
theorem mask_snoc (M : Nat → Bool) (j : Nat) : maskLetters M (j + 1) = maskLetters M j ++ (if M j = true then [65 + (j : Int)] else []) := by
  unfold maskLetters
  rw [List.range_succ, List.filter_append, List.map_append]
  congr 1
  by_cases hm : M j = true <;> simp [hm]
theorem mask_len (M : Nat → Bool) (j : Nat) : (maskLetters M j).length ≤ j := by unfold maskLetters; rw [List.length_map]; exact Nat.le_trans (List.length_filter_le _ _) (by simp)
def mineS (l : List S24) (p : Nat) : Nat → ByteArray
  | 0 => ⟨#[]⟩
  | i + 1 => mineS l p i ++ (rd_T24 l (i : Int)).f0.extract p (p + 1)
section
variable {l : List S24}
theorem mineS_size (hv : Valid l) (p : Nat) (hp : p < (rd_T24 l 0).f0.size) : ∀ i, i ≤ l.length → (mineS l p i).size = i := by
  intro i
  induction i with
  | zero => intro _; rfl
  | succ i ih =>
    intro hi
    rw [mineS, ByteArray.size_append, ih (by omega), cut_size _ _ (by rw [hv.size i (by omega)]; exact hp)]
theorem mineS_has (hv : Valid l) (p : Nat) (hp : p < (rd_T24 l 0).f0.size) (c : Int) : ∀ i, i ≤ l.length → (hasB (mineS l p i) c = true ↔ ∃ k, k < i ∧ bt (rd_T24 l (k : Int)).f0 (p : Int) = c) := by
  intro i
  induction i with
  | zero =>
    intro _
    rw [hasB_iff]
    exact ⟨fun ⟨q, hq, _⟩ => absurd hq (Nat.not_lt_zero q), fun ⟨k, hk, _⟩ => by omega⟩
  | succ i ih =>
    intro hi
    have hsz := cut_size (rd_T24 l (i : Int)).f0 p (by rw [hv.size i (by omega)]; exact hp)
    have hcut : bt ((rd_T24 l (i : Int)).f0.extract p (p + 1)) ((0 : Nat) : Int) = bt (rd_T24 l (i : Int)).f0 (p : Int) := by
      rw [btR_cut _ p (p + 1) 0 (by omega) (by rw [hv.size i (by omega)]; omega)]; rfl
    rw [mineS, hasB_app, ih (by omega), hasB_iff]
    constructor
    · rintro (⟨k, hk, h⟩ | ⟨q, hq, h⟩)
      · exact ⟨k, by omega, h⟩
      · rw [show q = 0 by omega, hcut] at h
        exact ⟨i, by omega, h⟩
    · rintro ⟨k, hk, h⟩
      by_cases e : k = i
      · subst e
        exact .inr ⟨0, by omega, by rw [hcut]; exact h⟩
      · exact .inl ⟨k, by omega, h⟩
theorem may_stones (hv : Valid l) (p j : Nat) (hp : p < (rd_T24 l 0).f0.size) (hj : j < 26) : mayAt l p j = true ↔
    (∃ s ∈ knownV l, ∃ x ∈ stonesV l s (rd_T24 l 0).f0.size ⟨#[]⟩, bt x (p : Int) = 65 + (j : Int)) ∨ ((¬ ∃ k, k < l.length ∧ bt (rd_T24 l (k : Int)).f0 (p : Int) = 65 + (j : Int)) ∧ ∃ s ∈ knownV l, ∃ x ∈ stonesV l s (rd_T24 l 0).f0.size ⟨#[]⟩, bt x (p : Int) = 42) := by
  rw [mayAt_iff hv p j hp]
  constructor
  · rintro ⟨s, t, hs, ht, e⟩
    have hsk := (known_iff hv s).2 ⟨hs, t, ht⟩
    have hx := stone_of_fit hv ht
    have hb := stX_at hv ht.1 p hp
    have hm := mayS_has hv p hp (t p) l.length (Nat.le_refl _)
    by_cases e2 : hasB (mayS l p l.length) (t p) = true
    · rw [if_pos e2, e] at hb
      exact .inl ⟨s, hsk, _, hx, hb⟩
    · rw [if_neg e2] at hb
      refine .inr ⟨fun ⟨k, hk, h⟩ => e2 (hm.2 (.inr ⟨k, hk, by rw [h, e]⟩)), s, hsk, _, hx, hb⟩
  · rintro (⟨s, hs, x, hx, e⟩ | ⟨hno, s, hs, x, hx, e⟩)
    · obtain ⟨fr, hf⟩ := free_ex hv
      refine ⟨s, _, ((known_iff hv s).1 hs).1, fit_of_stone hv hx hf, ?_⟩
      unfold stT
      rw [if_pos hp, if_neg (by omega)]
      exact e
    · obtain ⟨fr, hf⟩ := free_ex hv
      have hf2 : FreeF l (fun q => if q = p then 65 + (j : Int) else fr q) := fun q => by
        by_cases eq : q = p
        · subst eq
          show (65 ≤ (if q = q then 65 + (j : Int) else fr q) ∧ (if q = q then 65 + (j : Int) else fr q) ≤ 90) ∧ ∀ i : Nat, i < l.length → bt (rd_T24 l (i : Int)).f0 (q : Int) ≠ (if q = q then 65 + (j : Int) else fr q)
          rw [if_pos rfl]
          exact ⟨by omega, fun i hi h => hno ⟨i, hi, h⟩⟩
        · show (65 ≤ (if q = p then 65 + (j : Int) else fr q) ∧ (if q = p then 65 + (j : Int) else fr q) ≤ 90) ∧ ∀ i : Nat, i < l.length → bt (rd_T24 l (i : Int)).f0 (q : Int) ≠ (if q = p then 65 + (j : Int) else fr q)
          rw [if_neg eq]
          exact hf q
      refine ⟨s, _, ((known_iff hv s).1 hs).1, fit_of_stone hv hx hf2, ?_⟩
      unfold stT
      rw [if_pos hp, if_pos e]
      show (if p = p then 65 + (j : Int) else fr p) = 65 + (j : Int)
      rw [if_pos rfl]
def SeenAt (l : List S24) (p q j : Nat) (c : Int) : Prop := (∃ s ∈ (knownV l).take q, ∃ x ∈ stonesV l s (rd_T24 l 0).f0.size ⟨#[]⟩, bt x (p : Int) = c) ∨ (∃ s, (knownV l)[q]? = some s ∧ ∃ x ∈ (stonesV l s (rd_T24 l 0).f0.size ⟨#[]⟩).take j, bt x (p : Int) = c)
theorem seen_next (p q : Nat) (s : Nat → Int) (hs : (knownV l)[q]? = some s) (c : Int) : SeenAt l p (q + 1) 0 c ↔ SeenAt l p q (stonesV l s (rd_T24 l 0).f0.size ⟨#[]⟩).length c := by
  unfold SeenAt
  rw [List.take_add_one, hs]
  constructor
  · rintro (⟨s', h1, h2⟩ | ⟨_, _, x, hx, _⟩)
    · rw [List.mem_append] at h1
      rcases h1 with h1 | h1
      · exact .inl ⟨s', h1, h2⟩
      · have e : s' = s := by simpa using h1
        rw [e] at h2
        exact .inr ⟨s, rfl, by rw [List.take_length]; exact h2⟩
    · simp at hx
  · rintro (⟨s', h1, h2⟩ | ⟨s', h1, h2⟩)
    · exact .inl ⟨s', List.mem_append.2 (.inl h1), h2⟩
    · have e : s = s' := Option.some.inj h1
      subst e
      rw [List.take_length] at h2
      exact .inl ⟨s, List.mem_append.2 (.inr (by simp)), h2⟩
theorem seen_step (p q j : Nat) (s : Nat → Int) (hs : (knownV l)[q]? = some s) (x : ByteArray) (hx : (stonesV l s (rd_T24 l 0).f0.size ⟨#[]⟩)[j]? = some x) (c : Int) : SeenAt l p q (j + 1) c ↔ SeenAt l p q j c ∨ bt x (p : Int) = c := by
  unfold SeenAt
  constructor
  · rintro (h | ⟨s', h1, y, hy, e⟩)
    · exact .inl (.inl h)
    · have e2 : s = s' := Option.some.inj (hs.symm.trans h1)
      subst e2
      rw [List.take_add_one, hx, List.mem_append] at hy
      rcases hy with hy | hy
      · exact .inl (.inr ⟨s, hs, y, hy, e⟩)
      · have : y = x := by simpa using hy
        rw [this] at e
        exact .inr e
  · rintro ((h | ⟨s', h1, y, hy, e⟩) | e)
    · exact .inl h
    · have e2 : s = s' := Option.some.inj (hs.symm.trans h1)
      subst e2
      exact .inr ⟨s, hs, y, by rw [List.take_add_one]; exact List.mem_append.2 (.inl hy), e⟩
    · exact .inr ⟨s, hs, x, by rw [List.take_add_one, hx]; exact List.mem_append.2 (.inr (by simp)), e⟩
theorem stonesV_len8 (hv : Valid l) (s : Nat → Int) : (stonesV l s (rd_T24 l 0).f0.size ⟨#[]⟩).length ≤ 1679616 := by
  have h1 := stonesV_len hv s (rd_T24 l 0).f0.size ⟨#[]⟩ (by show 0 + _ = _; omega)
  have h6 : 6 ^ (rd_T24 l 0).f0.size ≤ 6 ^ 8 := Nat.pow_le_pow_right (by decide) hv.high
  have h7 : (6 : Nat) ^ 8 = 1679616 := by decide
  rw [h7] at h6
  exact Nat.le_trans h1 h6
theorem rletters_l4 (hv : Valid l) (p : Nat) (hp : p < (rd_T24 l 0).f0.size) (may : ByteArray) (hm : may.size ≤ 100000000000) (hc : ∀ c, hasB may c = true ↔ ∃ s ∈ knownV l, ∃ x ∈ stonesV l s (rd_T24 l 0).f0.size ⟨#[]⟩, bt x (p : Int) = c) (out : List ByteArray) (R : List ByteArray × Int) (ho : out.length = p)
    (hR : Ev (fun k => cippusref07_Letters.l0 k l (truthsV l) (out ++ [letterRow l p]) ((p + 1 : Nat) : Int)) R) : ∀ r j, j + r = 26 →
    Ev (fun k => cippusref07_Letters.l4 k l (truthsV l) out (p : Int) (mineS l p l.length) may (strOfNums (maskLetters (mayAt l p) j)) (65 + (j : Int))) R := by
  intro r
  have h8 := hv.high
  have h5 := hv.five
  induction r with
  | zero =>
    intro j hj
    refine Ev.step (fun k => by rw [cippusref07_Letters.l4]) ?_
    refine Ev.if_neg' (by omega) (Ev.if_pos' (by omega) ?_)
    rw [show j = 26 by omega, next64 p (by omega)]
    exact hR
  | succ r ih =>
    intro j hj
    have h1 := ih (j + 1) (by omega)
    have hln := mask_len (mayAt l p) j
    have hms := may_stones hv p j hp (by omega)
    have hsz : (strOfNums (maskLetters (mayAt l p) j)).size + (strOfNums [65 + (j : Int)]).size ≤ 9223372036854775807 := by
      rw [strOfNums_size, strOfNums_size, List.length_singleton]; omega
    have hmine := mineS_size hv p hp l.length (Nat.le_refl _)
    have hmh := mineS_has hv p hp (65 + (j : Int)) l.length (Nat.le_refl _)
    refine Ev.step (fun k => by rw [cippusref07_Letters.l4]) ?_
    rw [show ((65 + (j : Int) + 1) % 256) = 65 + ((j + 1 : Nat) : Int) by omega]
    rw [mask_snoc] at h1
    refine Ev.if_pos' (by omega) (Ev.bind (rhas_ev _ _ (by omega)) ?_)
    by_cases e1 : hasB may (65 + (j : Int)) = true
    · rw [if_pos (hms.2 (.inl ((hc _).1 e1))), strOfNums_app] at h1
      refine Ev.if_pos' e1 ?_
      simp only [Option.bind_some]
      exact Ev.if_pos' hsz h1
    · refine Ev.if_neg' e1 (Ev.bind (rhas_ev _ _ (by omega)) ?_)
      by_cases e2 : hasB (mineS l p l.length) (65 + (j : Int)) = true
      · rw [if_neg (fun h => by
          rcases hms.1 h with h | h
          · exact e1 ((hc _).2 h)
          · exact h.1 (hmh.1 e2)), List.append_nil] at h1
        exact Ev.if_pos' e2 h1
      · refine Ev.if_neg' e2 (Ev.bind (rhas_ev _ _ (by omega)) ?_)
        by_cases e3 : hasB may 42 = true
        · rw [if_pos (hms.2 (.inr ⟨fun h => e2 (hmh.2 h), (hc _).1 e3⟩)), strOfNums_app] at h1
          refine Ev.if_pos' e3 ?_
          simp only [Option.bind_some]
          exact Ev.if_pos' hsz h1
        · rw [if_neg (fun h => by
            rcases hms.1 h with h | h
            · exact e1 ((hc _).2 h)
            · exact e3 ((hc _).2 h.2)), List.append_nil] at h1
          exact Ev.if_neg' e3 h1
theorem rletters_l3 (hv : Valid l) (p : Nat) (hp : p < (rd_T24 l 0).f0.size) (out : List ByteArray) (R : List ByteArray × Int) (q : Nat) (s : Nat → Int) (hs : (knownV l)[q]? = some s)
    (hR : ∀ may : ByteArray, may.size ≤ (q + 1) * 1679616 → (∀ c, hasB may c = true ↔ SeenAt l p (q + 1) 0 c) → Ev (fun k => cippusref07_Letters.l2 k l (truthsV l) out (p : Int) (mineS l p l.length) may ((q + 1 : Nat) : Int)) R) : ∀ r j may, j + r = (stonesV l s (rd_T24 l 0).f0.size ⟨#[]⟩).length → may.size ≤ q * 1679616 + j → (∀ c, hasB may c = true ↔ SeenAt l p q j c) →
    Ev (fun k => cippusref07_Letters.l3 k l (truthsV l) out (p : Int) (mineS l p l.length) may (q : Int) (j : Int)) R := by
  intro r
  have h8 := hv.high
  have h5 := hv.five
  have hn := known_len l h5
  have htl := truthsV_len l
  have hq : q < (knownV l).length := by
    rw [List.getElem?_eq_some_iff] at hs
    exact hs.1
  have hln := stonesV_len8 hv s
  have ht := truthsV_at l q s hs
  induction r with
  | zero =>
    intro j may hj hm hc
    refine Ev.step (fun k => by rw [cippusref07_Letters.l3]) ?_
    rw [ht]
    refine Ev.if_pos' (by omega) (Ev.if_pos' (by omega) (Ev.if_neg' (by show ¬ (j : Int) < ((stonesV l s (rd_T24 l 0).f0.size ⟨#[]⟩).length : Int); omega) ?_))
    rw [next64 q (by omega)]
    exact hR may (by omega) (fun c => by rw [hc, seen_next p q s hs, show j = (stonesV l s (rd_T24 l 0).f0.size ⟨#[]⟩).length by omega])
  | succ r ih =>
    intro j may hj hm hc
    have hj2 : j < (stonesV l s (rd_T24 l 0).f0.size ⟨#[]⟩).length := by omega
    have hget : (stonesV l s (rd_T24 l 0).f0.size ⟨#[]⟩)[j]? = some (stonesV l s (rd_T24 l 0).f0.size ⟨#[]⟩)[j] := List.getElem?_eq_getElem hj2
    have hmem := List.getElem_mem hj2
    have hrd : rdOf ByteArray.empty (stonesV l s (rd_T24 l 0).f0.size ⟨#[]⟩) (j : Int) = (stonesV l s (rd_T24 l 0).f0.size ⟨#[]⟩)[j] := by
      unfold rdOf
      rw [List.getD_eq_getElem?_getD, Int.toNat_natCast, hget]
      rfl
    generalize (stonesV l s (rd_T24 l 0).f0.size ⟨#[]⟩)[j] = x at hget hmem hrd
    have hxs := ((stones_iff hv s x).1 hmem).1
    have hstep := seen_step p q j s hs x hget
    refine Ev.step (fun k => by rw [cippusref07_Letters.l3]) ?_
    rw [ht]
    show Ev (fun k => if 0 ≤ (q : Int) then (if (q : Int) < ((truthsV l).length : Int) then (if (j : Int) < ((stonesV l s (rd_T24 l 0).f0.size ⟨#[]⟩).length : Int) then (if 0 ≤ (j : Int) then (if 0 ≤ (p : Int) then (if (p : Int) < ((rdOf ByteArray.empty (stonesV l s (rd_T24 l 0).f0.size ⟨#[]⟩) (j : Int)).size : Int) then _ else _) else _) else _) else _) else _) else _) R
    rw [hrd]
    refine Ev.if_pos' (by omega) (Ev.if_pos' (by omega) (Ev.if_pos' (by omega) (Ev.if_pos' (by omega) (Ev.if_pos' (by omega) (Ev.if_pos' (by omega) ?_)))))
    refine Ev.bind (rhas_ev _ _ (by omega)) ?_
    have hbr := bt_range x (p : Int)
    by_cases e : hasB may (bt x (p : Int)) = true
    · refine Ev.if_pos' e ?_
      rw [wrap64_small (by omega) (by omega), show ((j : Int) + 1) = ((j + 1 : Nat) : Int) by omega]
      refine ih (j + 1) may (by omega) (by omega) (fun c => ?_)
      rw [hstep, hc]
      exact ⟨.inl, fun h => h.elim id (fun h => by rw [← h]; exact (hc _).1 e)⟩
    · refine Ev.if_neg' e ?_
      simp only [Option.bind_some]
      have hone : (strOfNums [bt x (p : Int)]).size = 1 := by rw [strOfNums_size]; rfl
      refine Ev.if_pos' (by omega) ?_
      rw [wrap64_small (by omega) (by omega), show ((j : Int) + 1) = ((j + 1 : Nat) : Int) by omega]
      refine ih (j + 1) _ (by omega) (by rw [ByteArray.size_append, hone]; omega) (fun c => ?_)
      rw [hasB_app, hstep, hc, hasB_one _ _ hbr]
theorem rletters_l2 (hv : Valid l) (p : Nat) (hp : p < (rd_T24 l 0).f0.size) (out : List ByteArray) (R : List ByteArray × Int) (ho : out.length = p)
    (hR : Ev (fun k => cippusref07_Letters.l0 k l (truthsV l) (out ++ [letterRow l p]) ((p + 1 : Nat) : Int)) R) : ∀ r q may, q + r = (knownV l).length → may.size ≤ q * 1679616 → (∀ c, hasB may c = true ↔ SeenAt l p q 0 c) →
    Ev (fun k => cippusref07_Letters.l2 k l (truthsV l) out (p : Int) (mineS l p l.length) may (q : Int)) R := by
  intro r
  have h5 := hv.five
  have hn := known_len l h5
  have htl := truthsV_len l
  induction r with
  | zero =>
    intro q may hq hm hc
    refine Ev.step (fun k => by rw [cippusref07_Letters.l2]) ?_
    refine Ev.if_neg' (by omega) ?_
    have h1 := rletters_l4 hv p hp may (by omega) (fun c => by
      rw [hc]
      unfold SeenAt
      rw [show q = (knownV l).length by omega, List.take_length]
      refine ⟨fun h => h.elim id (fun ⟨s, hs, _⟩ => by simp at hs), .inl⟩) out R ho hR 26 0 (by omega)
    have e : strOfNums (maskLetters (mayAt l p) 0) = (⟨#[]⟩ : ByteArray) := rfl
    rw [e] at h1
    exact h1
  | succ r ih =>
    intro q may hq hm hc
    have hq2 : q < (knownV l).length := by omega
    have hget : (knownV l)[q]? = some (knownV l)[q] := List.getElem?_eq_getElem hq2
    refine Ev.step (fun k => by rw [cippusref07_Letters.l2]) ?_
    refine Ev.if_pos' (by omega) ?_
    exact rletters_l3 hv p hp out R q _ hget (fun may' hm' hc' => ih (q + 1) may' (by omega) hm' hc') (stonesV l (knownV l)[q] (rd_T24 l 0).f0.size ⟨#[]⟩).length 0 may (Nat.zero_add _) (by rw [Nat.add_zero]; exact hm) hc
theorem rletters_l1 (hv : Valid l) (p : Nat) (hp : p < (rd_T24 l 0).f0.size) (out : List ByteArray) (R : List ByteArray × Int) (ho : out.length = p)
    (hR : Ev (fun k => cippusref07_Letters.l0 k l (truthsV l) (out ++ [letterRow l p]) ((p + 1 : Nat) : Int)) R) : ∀ r i, i + r = l.length →
    Ev (fun k => cippusref07_Letters.l1 k l (truthsV l) out (p : Int) (mineS l p i) (⟨#[]⟩ : ByteArray) (i : Int)) R := by
  intro r
  have h5 := hv.five
  have h8 := hv.high
  induction r with
  | zero =>
    intro i hi
    refine Ev.step (fun k => by rw [cippusref07_Letters.l1]) ?_
    refine Ev.if_neg' (by omega) ?_
    rw [show i = l.length by omega]
    exact rletters_l2 hv p hp out R ho hR (knownV l).length 0 ⟨#[]⟩ (by omega) (Nat.zero_le _) (fun c => by
      unfold SeenAt
      rw [hasB_iff]
      exact ⟨fun ⟨q, hq, _⟩ => absurd hq (Nat.not_lt_zero q), fun h => h.elim (fun ⟨s, hs, _⟩ => by simp at hs) (fun ⟨s, _, x, hx, _⟩ => by simp at hx)⟩)
  | succ r ih =>
    intro i hi
    have hs := hv.size i (by omega)
    have hc := cut_size (rd_T24 l (i : Int)).f0 p (by omega)
    have hm := mineS_size hv p hp i (by omega)
    refine Ev.step (fun k => by rw [cippusref07_Letters.l1]) ?_
    rw [next64 p (by omega), next64 i (by omega)]
    simp only [Int.toNat_natCast]
    refine Ev.if_pos' (by omega) (Ev.if_pos' (by omega) (Ev.if_pos' (by omega) (Ev.if_pos' (by omega) (Ev.if_pos' (by omega) (Ev.if_pos' (by omega) ?_)))))
    exact ih (i + 1) (by omega)
end
theorem rletters_ev (l : List S24) : Ev (fun k => cippusref07_Letters.f k l) (lettersV l) := by
  unfold cippusref07_Letters.f lettersV
  refine Ev.bind (rknown_ev l) ?_
  by_cases hk : knownE l = 0
  · rw [if_pos (show knownE l = 0 from hk), if_pos (show knownE l = 0 from hk)]
    refine Ev.if_pos' rfl ?_
    have hv := valid_of_known hk
    have h8 := hv.high
    have h1 := hv.one
    have : ∀ r p, p + r = (rd_T24 l 0).f0.size → Ev (fun k => cippusref07_Letters.l0 k l (truthsV l) ((List.range p).map (letterRow l)) (p : Int)) ((List.range (rd_T24 l 0).f0.size).map (letterRow l), 0) := by
      intro r
      induction r with
      | zero =>
        intro p hp
        refine Ev.step (fun k => by rw [cippusref07_Letters.l0]) ?_
        rw [show p = (rd_T24 l 0).f0.size by omega]
        exact Ev.if_pos' (by omega) (Ev.if_neg' (by omega) (Ev.now _))
      | succ r ih =>
        intro p hp
        have h2 := ih (p + 1) (by omega)
        rw [List.range_succ, List.map_append] at h2
        refine Ev.step (fun k => by rw [cippusref07_Letters.l0]) ?_
        refine Ev.if_pos' (by omega) (Ev.if_pos' (by omega) ?_)
        exact rletters_l1 hv p (by omega) _ _ (by simp) h2 l.length 0 (by omega)
    simpa using this (rd_T24 l 0).f0.size 0 (by omega)
  · rw [if_neg (show ¬ knownE l = 0 from hk), if_neg (show ¬ knownE l = 0 from hk)]
    exact Ev.if_neg' hk (Ev.now _)
def printTo (rows : List ByteArray) : Nat → ByteArray
  | 0 => ⟨#[]⟩
  | i + 1 => printTo rows i ++ (if (rdOf ByteArray.empty rows (i : Int)).size = 1 then rdOf ByteArray.empty rows (i : Int) else ⟨#[45]⟩)
def printV (l : List S24) : ByteArray × Int := if knownE l = 0 then (printTo (lettersV l).1 (lettersV l).1.length, 0) else (⟨#[]⟩, knownE l)
theorem printTo_size (rows : List ByteArray) : ∀ i, (printTo rows i).size = i := by
  intro i
  induction i with
  | zero => rfl
  | succ i ih =>
    unfold printTo
    rw [ByteArray.size_append, ih]
    split
    · omega
    · rfl
theorem rprint_ev (l : List S24) : Ev (fun k => cippusref07_Print.f k l) (printV l) := by
  unfold cippusref07_Print.f printV
  refine Ev.bind (rletters_ev l) ?_
  by_cases hk : knownE l = 0
  · have e : (lettersV l).2 = 0 := by unfold lettersV; rw [if_pos hk]
    rw [if_pos (show knownE l = 0 from hk)]
    refine Ev.if_pos' e ?_
    have hlen : (lettersV l).1.length = (rd_T24 l 0).f0.size := by unfold lettersV; rw [if_pos hk]; simp
    have h8 := (valid_of_known hk).high
    generalize (lettersV l).1 = rows at hlen ⊢
    have : ∀ r i, i + r = rows.length → Ev (fun k => cippusref07_Print.l0 k rows (printTo rows i) (i : Int)) (printTo rows rows.length, 0) := by
      intro r
      induction r with
      | zero =>
        intro i hi
        refine Ev.step (fun k => by rw [cippusref07_Print.l0]) ?_
        rw [show i = rows.length by omega]
        exact Ev.if_neg' (by omega) (Ev.now _)
      | succ r ih =>
        intro i hi
        have h1 := ih (i + 1) (by omega)
        have hs := printTo_size rows i
        rw [show printTo rows (i + 1) = printTo rows i ++ (if (rdOf ByteArray.empty rows (i : Int)).size = 1 then rdOf ByteArray.empty rows (i : Int) else ⟨#[45]⟩) from rfl] at h1
        refine Ev.step (fun k => by rw [cippusref07_Print.l0]) ?_
        rw [next64 i (by omega)]
        refine Ev.if_pos' (by omega) (Ev.if_pos' (by omega) ?_)
        by_cases e2 : (rdOf ByteArray.empty rows (i : Int)).size = 1
        · rw [if_pos e2] at h1
          exact Ev.if_pos' (by omega) (Ev.if_pos' (by omega) h1)
        · rw [if_neg e2] at h1
          exact Ev.if_neg' (by omega) (Ev.if_pos' (by omega) h1)
    simpa [printTo] using this rows.length 0 (by omega)
  · have e : (lettersV l).2 = knownE l := by unfold lettersV; rw [if_neg hk]
    rw [if_neg (show ¬ knownE l = 0 from hk), e]
    exact Ev.if_neg' hk (Ev.now _)
theorem letterRow_pos {l : List S24} (hk : knownE l = 0) (p : Nat) (hp : p < (rd_T24 l 0).f0.size) : 1 ≤ (letterRow l p).size := by
  have hv := valid_of_known hk
  have hne := (knownE_zero hk).2
  obtain ⟨s, hs⟩ := List.exists_mem_of_length_pos (List.length_pos_iff.2 hne)
  obtain ⟨h1, t, h2⟩ := (known_iff hv s).1 hs
  have ht := h2.1 p
  have hm : mayAt l p (t p - 65).toNat = true := (mayAt_iff hv p _ hp).2 ⟨s, t, h1, h2, by omega⟩
  have h3 := hasB_row (mayAt l p) (t p - 65).toNat (by omega)
  rw [hm, hasB_iff] at h3
  obtain ⟨q, hq, _⟩ := h3
  have hq : q < (letterRow l p).size := hq
  omega
theorem print_ev (l : List S24) : Ev (fun k => stemma_Print.f k l) (printV l) := by
  unfold stemma_Print.f printV stemma_Letters.f
  simp only [Option.bind_some]
  by_cases hk : knownE l = 0
  · have e : (lettersV l).2 = 0 := by unfold lettersV; rw [if_pos hk]
    rw [if_pos (show knownE l = 0 from hk)]
    refine Ev.if_pos' e ?_
    have hlen : (lettersV l).1.length = (rd_T24 l 0).f0.size := by unfold lettersV; rw [if_pos hk]; simp
    have h8 := (valid_of_known hk).high
    have hpos : ∀ i : Nat, i < (lettersV l).1.length → 1 ≤ (rdOf ByteArray.empty (lettersV l).1 (i : Int)).size := fun i hi => by
      rw [textsV l hk i (by omega)]
      exact letterRow_pos hk i (by omega)
    generalize (lettersV l).1 = rows at hlen hpos ⊢
    have : ∀ r i, i + r = rows.length → Ev (fun k => stemma_Print.l0 k (printTo rows i) rows (rows.length : Int) (i : Int)) (printTo rows rows.length, 0) := by
      intro r
      induction r with
      | zero =>
        intro i hi
        refine Ev.step (fun k => by rw [stemma_Print.l0]) ?_
        rw [show i = rows.length by omega]
        exact Ev.if_neg' (by omega) (Ev.now _)
      | succ r ih =>
        intro i hi
        have h1 := ih (i + 1) (by omega)
        have hs := printTo_size rows i
        have hp := hpos i (by omega)
        rw [show printTo rows (i + 1) = printTo rows i ++ (if (rdOf ByteArray.empty rows (i : Int)).size = 1 then rdOf ByteArray.empty rows (i : Int) else ⟨#[45]⟩) from rfl] at h1
        refine Ev.step (fun k => by rw [stemma_Print.l0]) ?_
        rw [next64 i (by omega)]
        refine Ev.if_pos' (by omega) (Ev.if_pos' (by omega) (Ev.if_pos' (by omega) ?_))
        by_cases e2 : (rdOf ByteArray.empty rows (i : Int)).size = 1
        · rw [if_pos e2] at h1
          exact Ev.if_neg' (by omega) (Ev.if_pos' (by omega) h1)
        · rw [if_neg e2] at h1
          exact Ev.if_pos' (by omega) (Ev.if_pos' (by omega) h1)
    simpa [printTo] using this rows.length 0 (by omega)
  · have e : (lettersV l).2 = knownE l := by unfold lettersV; rw [if_neg hk]
    rw [if_neg (show ¬ knownE l = 0 from hk), e]
    exact Ev.if_neg' hk (Ev.now _)
section
variable {l : List S24}
end
end Go.Proofs.Ytegjollhajgcdaa.P.OwnSt
namespace Go.Proofs.Ytegjollhajgcdaa.P.OwnSt
open Go.RowKit Go.Proofs.YtegjollhajgcdaaW.PrintWords Go.Proofs.YtegjollhajgcdaaW.PrintLast Go.Proofs.YtegjollhajgcdaaW.PrintMore
set_option linter.unusedVariables false
set_option linter.unusedSimpArgs false
theorem sameCopies_ev (a : List S24) (h8 : a.length < 1000000) : Ev (fun k => cippuskit_SameCopies.f k a a) true := by
  have : ∀ rem i, i + rem = a.length → Ev (fun k => cippuskit_SameCopies.l0 k a a true (i : Int)) true := by
    intro rem
    induction rem with
    | zero =>
      intro i hi
      refine Ev.step (fun k => by rw [cippuskit_SameCopies.l0]) ?_
      exact Ev.if_pos' rfl (Ev.if_neg' (by omega) (Ev.now _))
    | succ rem ih =>
      intro i hi
      refine Ev.step (fun k => by rw [cippuskit_SameCopies.l0]) ?_
      refine Ev.if_pos' rfl (Ev.if_pos' (by omega) (Ev.if_pos' (by omega) (Ev.if_pos' (by omega) ?_)))
      simp only [beq_self_eq_true, Bool.and_self]
      rw [next64 i (by omega)]
      exact ih (i + 1) (by omega)
  have h := this a.length 0 (by omega)
  unfold cippuskit_SameCopies.f
  rw [beq_self_eq_true]
  exact h
theorem sameTexts_ev (a : List ByteArray) (h8 : a.length < 1000000) : Ev (fun k => cippuskit_SameTexts.f k a a) true := by
  have : ∀ rem i, i + rem = a.length → Ev (fun k => cippuskit_SameTexts.l0 k a a true (i : Int)) true := by
    intro rem
    induction rem with
    | zero =>
      intro i hi
      refine Ev.step (fun k => by rw [cippuskit_SameTexts.l0]) ?_
      exact Ev.if_pos' rfl (Ev.if_neg' (by omega) (Ev.now _))
    | succ rem ih =>
      intro i hi
      refine Ev.step (fun k => by rw [cippuskit_SameTexts.l0]) ?_
      refine Ev.if_pos' rfl (Ev.if_pos' (by omega) (Ev.if_pos' (by omega) (Ev.if_pos' (by omega) ?_)))
      simp only [beq_self_eq_true]
      rw [next64 i (by omega)]
      exact ih (i + 1) (by omega)
  have h := this a.length 0 (by omega)
  unfold cippuskit_SameTexts.f
  rw [beq_self_eq_true]
  exact h
theorem large_end (l : List S24) (s : Int) (i : Int) : ∃ b, Ev (fun k => cippuslaw07_large.j1 k l s i false) b ∧ (b = false → l.length ≤ 20) := by
  by_cases h : (l.length : Int) > 20
  · refine ⟨true, Ev.step (fun k => by rw [cippuslaw07_large.j1]) (Ev.if_neg' (by decide) (Ev.if_pos' h (Ev.now _))), by simp⟩
  · by_cases h2 : s > 5
    · exact ⟨_, Ev.step (fun k => by rw [cippuslaw07_large.j1]) (Ev.if_neg' (by decide) (Ev.if_neg' h (Ev.if_pos' h2 (Ev.bind (rcheck_ev l) (Ev.now _))))), fun _ => by omega⟩
    · exact ⟨_, Ev.step (fun k => by rw [cippuslaw07_large.j1]) (Ev.if_neg' (by decide) (Ev.if_neg' h (Ev.if_neg' h2 (Ev.now _)))), fun _ => by omega⟩
theorem large_ev (l : List S24) : ∃ b, Ev (fun k => cippuslaw07_large.f k l) b ∧ (b = false → l.length ≤ 20) := by
  have : ∀ r i s, i + r = min l.length 20 → 0 ≤ s → s ≤ 9 * (i : Int) → ∃ b, Ev (fun k => cippuslaw07_large.l0 k l s (i : Int)) b ∧ (b = false → l.length ≤ 20) := by
    intro r
    induction r with
    | zero =>
      intro i s hi h0 h9
      obtain ⟨b, hb, h⟩ := large_end l s (i : Int)
      refine ⟨b, Ev.step (fun k => by rw [cippuslaw07_large.l0]) ?_, h⟩
      by_cases e : (i : Int) < (l.length : Int)
      · refine Ev.if_pos' e ?_
        rw [decide_eq_false (by omega)]
        exact hb
      · exact Ev.if_neg' e hb
    | succ r ih =>
      intro i s hi h0 h9
      have hm : 0 ≤ mx 0 (mn 9 (rd_T24 l (i : Int)).f1) ∧ mx 0 (mn 9 (rd_T24 l (i : Int)).f1) ≤ 9 := by
        unfold mx mn
        split <;> split <;> omega
      by_cases e : ((rd_T24 l (i : Int)).f0.size : Int) > 40
      · refine ⟨true, Ev.step (fun k => by rw [cippuslaw07_large.l0]) (Ev.if_pos' (by omega) ?_), by simp⟩
        rw [decide_eq_true (by omega)]
        exact Ev.step (fun k => by rw [cippuslaw07_large.j1]) (Ev.if_pos' rfl (Ev.if_pos' (by omega) (Ev.if_pos' (by omega) (Ev.if_pos' e (Ev.now _)))))
      · obtain ⟨b, hb, h⟩ := ih (i + 1) (s + mx 0 (mn 9 (rd_T24 l (i : Int)).f1)) (by omega) (by omega) (by omega)
        refine ⟨b, Ev.step (fun k => by rw [cippuslaw07_large.l0]) (Ev.if_pos' (by omega) ?_), h⟩
        rw [decide_eq_true (by omega)]
        refine Ev.step (fun k => by rw [cippuslaw07_large.j1]) (Ev.if_pos' rfl (Ev.if_pos' (by omega) (Ev.if_pos' (by omega) (Ev.if_neg' e ?_))))
        rw [next64 i (by omega), wrap64_small (by omega) (by omega)]
        exact hb
  unfold cippuslaw07_large.f
  exact this (min l.length 20) 0 0 (by omega) (by omega) (by omega)
end Go.Proofs.Ytegjollhajgcdaa.P.OwnSt
namespace Go.Proofs.Ytegjollhajgcdaa.Pure
open Go.RowKit Go.Proofs.Ytegjollhajgcdaa.P Go.Proofs.Ytegjollhajgcdaa.P.OwnSt Go.Proofs.YtegjollhajgcdaaW.PrintWords Go.Proofs.YtegjollhajgcdaaW.PrintLast
set_option linter.unusedVariables false
set_option linter.unusedSimpArgs false
theorem every3_some {l0 l1 l2 : List S24} {r : Bool} (h : cippuslaw07_every3.f l0 l1 l2 = some r) : l0.length ≤ 20 ∧ l1.length ≤ 20 ∧ l2.length ≤ 20 := by
  unfold cippuslaw07_every3.f at h
  by_cases e : l0.length ≤ 20 ∧ l1.length ≤ 20 ∧ l2.length ≤ 20
  · exact e
  · rw [if_neg e] at h
    cases h
theorem loop3_ev (ls : List (List S24)) (hl : ls.length ≤ 10) (h : ∀ j : Nat, j < ls.length → (rd_L8 ls (j : Int)).length ≤ 20) : Ev (fun k => cippuslaw07_loop3.f k ls) true := by
  have : ∀ r j, j + r = ls.length → Ev (fun k => cippuslaw07_loop3.l0 k ls (j : Int)) true := by
    intro r
    induction r with
    | zero =>
      intro j hj
      refine Ev.step (fun k => by rw [cippuslaw07_loop3.l0]) ?_
      exact Ev.if_neg' (by omega) (Ev.now _)
    | succ r ih =>
      intro j hj
      have h20 := h j (by omega)
      refine Ev.step (fun k => by rw [cippuslaw07_loop3.l0]) ?_
      refine Ev.if_pos' (by omega) (Ev.if_pos' (by omega) ?_)
      rw [copyCopies_eq _ (by omega), next64 j (by omega)]
      unfold stemma_Letters.f
      simp only [Option.bind_some]
      refine Ev.bind (rletters_ev _) (Ev.bind (print_ev _) (Ev.bind (rprint_ev _) (Ev.if_pos' rfl (Ev.if_pos' rfl (Ev.if_pos' rfl (Ev.bind (sameTexts_ev _ ?_) (Ev.if_pos' rfl (Ev.bind (sameCopies_ev _ (by omega)) (Ev.if_pos' rfl ?_)))))))))
      · unfold lettersV
        split
        · rename_i hk
          have := (valid_of_known hk).high
          simp
          omega
        · exact Nat.zero_lt_succ _
      exact ih (j + 1) (by omega)
  unfold cippuslaw07_loop3.f
  exact this ls.length 0 (by omega)
theorem letters_pure (l0 : List S24) (b : ByteArray) (e : Int) (s : Bool) (l2 : List Int) (hl : l2.length < 4611686018427387904) : ∃ k, cippuslaw07_StemmaLetters.f k l0 b e s l2 = some true := by
  obtain ⟨a1, b1, e1⟩ := newUrn_ok l2 (by have : maxLen = 9223372036854775807 := rfl; omega)
  obtain ⟨l, st, src, a2, b2, e2, h, hn, hp⟩ := copiesOf_made a1 b1 4 5 1 (by omega) (by omega) (by omega) (by omega) (by omega) (by omega)
  refine Ev.rounds ?_
  unfold cippuslaw07_StemmaLetters.f cippuskit_NewUrn.f cippuskit_CopiesOf.f
  rw [e1]
  simp only [Option.bind_some, e2]
  have h5 := h.five
  rw [copyCopies_eq _ (by omega)]
  simp only [Option.bind_some]
  refine Ev.if_pos' (by rw [List.length_singleton]; omega) ?_
  obtain ⟨x, hx, hx2⟩ := large_ev l0
  obtain ⟨y, hy, hy2⟩ := large_ev (l ++ [(⟨b, e, s⟩ : S24)])
  have hj : ∀ z : Bool, (z = false → l0.length ≤ 20) → Ev (fun k => cippuslaw07_StemmaLetters.j0 k l0 l (l ++ [(⟨b, e, s⟩ : S24)]) z) true := by
    intro z hz
    refine Ev.step (fun k => by rw [cippuslaw07_StemmaLetters.j0]) ?_
    cases z with
    | true => exact Ev.if_pos' rfl (Ev.bind found_ev (Ev.now _))
    | false =>
      refine Ev.if_neg' (by decide) ?_
      unfold cippuslaw07_every3.f
      rw [if_pos ⟨hz rfl, by omega, by rw [List.length_append, List.length_singleton]; omega⟩]
      simp only [Option.bind_some]
      exact Ev.bind found_ev (Ev.now _)
  refine Ev.bind hx ?_
  cases x with
  | true => exact Ev.if_pos' rfl (hj true (by simp))
  | false => exact Ev.if_neg' (by decide) (Ev.bind hy (hj y (fun _ => hx2 rfl)))
end Go.Proofs.Ytegjollhajgcdaa.Pure
namespace Go.Proofs.Ytegjollhajgcdaa.P
open Go.RowKit Go.Proofs.YtegjollhajgcdaaW.PrintWords Go.Proofs.YtegjollhajgcdaaW.PrintLast Go.Proofs.YtegjollhajgcdaaW.PrintMore
attribute [local go_sem] max2_int min2_int max_two min_two max_three min_three max_four min_four   -- for this text's walks alone
open OwnSt
set_option linter.unusedVariables false
set_option linter.unusedSimpArgs false
set_option maxHeartbeats 8000000 in
set_option maxRecDepth 100000 in
theorem cippuslaw07_StemmaLetters.calls (k : Nat) (A0 : Option Addr) (c0 : Nat) (l0 : List (S24)) (a1_0 : ByteArray) (a1_1 : Int) (a1_2 : Bool) (A2 : Option Addr) (c2 : Nat) (l2 : List Int) (r : Bool) (w : World) (hr0 : Kd.C k24 w A0 l0.length l0) (hc0 : l0.length ≤ c0) (hr2 : Kd.C (Kd.int .i64) w A2 l2.length l2) (hc2 : l2.length ≤ c2) (h : cippuslaw07_StemmaLetters.f k l0 a1_0 a1_1 a1_2 l2 = some r) :
    Calls Try.prog 3 #[.slice A0 l0.length c0, .agg #[.string a1_0, .int .i64 a1_1, .bool a1_2], .slice A2 l2.length c2] w fun e w' => e = .returned (.bool r) ∧ Below w.heap.size w w' := by
  have hu24 := Try.underlying24
  have hu27 := Try.underlying27
  have HR0 := Aside0.mk hr0
  have HC0 := Aside0.mk hc0
  clear hr0 hc0
  have HR2 := Aside0.mk hr2
  have HC2 := Aside0.mk hc2
  clear hr2 hc2
  have HB := Aside0.mk (Below.refl w.heap.size w)
  have H : ((cippuskit_NewUrn.f l2).bind fun bt369 => ((cippuskit_CopiesOf.f bt369.1 bt369.2 4 5 1).bind fun bt372 => ((cippuskit_CopyCopies.f bt372.1).bind fun t382 => ((some (([(⟨a1_0, a1_1, a1_2⟩ : S24)] : List (S24)) : List (S24))).bind fun y385 => (if t382.length + y385.length < 4398046511104 then ((some (t382 ++ y385 : List (S24))).bind fun y388 => ((cippuslaw07_large.f k l0).bind fun t391 => (if t391 = true then (cippuslaw07_StemmaLetters.j0 k l0 bt372.1 y388 true) else ((cippuslaw07_large.f k y388).bind fun t392 => (cippuslaw07_StemmaLetters.j0 k l0 bt372.1 y388 t392))))) else (none)))))) = some r := h
  clear h
  replace H := Option.bind_eq_some_iff.mp H
  obtain ⟨⟨t369, t370⟩, A40, H⟩ := H
  replace H : ((cippuskit_CopiesOf.f t369 t370 4 5 1).bind fun bt372 => ((cippuskit_CopyCopies.f bt372.1).bind fun t382 => ((some (([(⟨a1_0, a1_1, a1_2⟩ : S24)] : List (S24)) : List (S24))).bind fun y385 => (if t382.length + y385.length < 4398046511104 then ((some (t382 ++ y385 : List (S24))).bind fun y388 => ((cippuslaw07_large.f k l0).bind fun t391 => (if t391 = true then (cippuslaw07_StemmaLetters.j0 k l0 bt372.1 y388 true) else ((cippuslaw07_large.f k y388).bind fun t392 => (cippuslaw07_StemmaLetters.j0 k l0 bt372.1 y388 t392))))) else (none))))) = some r := H
  have A4 := Aside0.mk A40
  clear A40
  replace H := Option.bind_eq_some_iff.mp H
  obtain ⟨⟨t372, t375, t376, t379, t380⟩, A50, H⟩ := H
  replace H : ((cippuskit_CopyCopies.f t372).bind fun t382 => ((some (([(⟨a1_0, a1_1, a1_2⟩ : S24)] : List (S24)) : List (S24))).bind fun y385 => (if t382.length + y385.length < 4398046511104 then ((some (t382 ++ y385 : List (S24))).bind fun y388 => ((cippuslaw07_large.f k l0).bind fun t391 => (if t391 = true then (cippuslaw07_StemmaLetters.j0 k l0 t372 y388 true) else ((cippuslaw07_large.f k y388).bind fun t392 => (cippuslaw07_StemmaLetters.j0 k l0 t372 y388 t392))))) else (none)))) = some r := H
  have A5 := Aside0.mk A50
  clear A50
  replace H := Option.bind_eq_some_iff.mp H
  obtain ⟨t382, A60, H⟩ := H
  replace H : ((some (([(⟨a1_0, a1_1, a1_2⟩ : S24)] : List (S24)) : List (S24))).bind fun y385 => (if t382.length + y385.length < 4398046511104 then ((some (t382 ++ y385 : List (S24))).bind fun y388 => ((cippuslaw07_large.f k l0).bind fun t391 => (if t391 = true then (cippuslaw07_StemmaLetters.j0 k l0 t372 y388 true) else ((cippuslaw07_large.f k y388).bind fun t392 => (cippuslaw07_StemmaLetters.j0 k l0 t372 y388 t392))))) else (none))) = some r := H
  have A6 := Aside0.mk A60
  clear A60
  obtain ⟨y385, hy385⟩ : ∃ y_ : List (S24), y_ = (([(⟨a1_0, a1_1, a1_2⟩ : S24)] : List (S24))) := ⟨_, rfl⟩
  replace H : (if t382.length + y385.length < 4398046511104 then ((some (t382 ++ y385 : List (S24))).bind fun y388 => ((cippuslaw07_large.f k l0).bind fun t391 => (if t391 = true then (cippuslaw07_StemmaLetters.j0 k l0 t372 y388 true) else ((cippuslaw07_large.f k y388).bind fun t392 => (cippuslaw07_StemmaLetters.j0 k l0 t372 y388 t392))))) else (none)) = some r := by first | (rw [hy385]; with_reducible exact H) | (have H2_ := (Option.bind_some _ _).symm.trans H; rw [hy385]; with_reducible exact H2_) | (have H2_ := (Option.bind_some _ _).symm.trans H; with_reducible exact H2_) | with_reducible exact H | (rw [hy385]; exact H) | exact H
  have Ny385 := Aside0.mk hy385
  clear hy385
  by_cases c7 : t382.length + y385.length < 4398046511104
  · rw [if_pos c7] at H
    have LMc7 := Aside0.mk c7
    clear c7
    obtain ⟨y388, hy388⟩ : ∃ y_ : List (S24), y_ = (t382 ++ y385) := ⟨_, rfl⟩
    replace H : ((cippuslaw07_large.f k l0).bind fun t391 => (if t391 = true then (cippuslaw07_StemmaLetters.j0 k l0 t372 y388 true) else ((cippuslaw07_large.f k y388).bind fun t392 => (cippuslaw07_StemmaLetters.j0 k l0 t372 y388 t392)))) = some r := by first | (rw [hy388]; with_reducible exact H) | (have H2_ := (Option.bind_some _ _).symm.trans H; rw [hy388]; with_reducible exact H2_) | (have H2_ := (Option.bind_some _ _).symm.trans H; with_reducible exact H2_) | with_reducible exact H | (rw [hy388]; exact H) | exact H
    have Ny388 := Aside0.mk hy388
    clear hy388
    have HC8 := Aside0.mk H
    clear H
    go_enter Try.func3, Try.ntmps3
    try go_wp2_with (first | ((with_reducible refine gate_dst (N := 4) rfl ?_); refine box_event ?hg (N := 4) ?hd (cs := #[.string a1_0, .int .i64 a1_1, .bool a1_2]) (t := 24) ?hr ?_; (case hd => rfl); (case hg => rfl); (case hr => first | (go_simp; done) | (go_simp; rfl)); intro gb368 hg w9 hbox hb; have n0_ := Aside0.mk (below_step (by repeat (first | (with_reducible first | exact HB.out | apply below_alloc | apply pw_below_drewN | apply below_drew1) | exact HB.out)) hb); have n1_ := Aside0.mk (hbox); have n2_ := Aside0.mk ((by rw [hg]; exact (below_size (by repeat (first | (with_reducible first | exact HB.out | apply below_alloc | apply pw_below_drewN | apply below_drew1) | exact HB.out))) : w.heap.size ≤ gb368)); have n3_ := Aside0.mk ((by rw [hg]; exact (below_size (by repeat (first | (with_reducible first | exact HB.out | apply below_alloc | apply pw_below_drewN | apply below_drew1) | exact HB.out))) : w.heap.size ≤ gb368)); clear HB; have HB := n0_; have BK368 := n1_; have GW368 := n2_; have GE368 := n3_; clear n0_ n1_ n2_ n3_; clear hb hbox hg) | ((with_reducible refine gate_callee (f := 14) rfl ?_); refine goesL_ (some 23) rfl rfl Try.func14 (by kernel_rfl) rfl #[.slice A2 l2.length c2] rfl (by (try simp only [List.map_toArray, List.map_cons, List.map_nil]); first | done | rfl | (simp only [List.length_drop, List.length_take]; rfl)) ?_; (with_reducible refine (cippuskit_NewUrn.calls _ _ l2 t369 t370 w _ ?side1 ?side2 ?side3 A4.out).mono ?_); (case side1 => repeat (first | (with_reducible first | exact HB.out | apply below_alloc | apply pw_below_drewN | apply below_drew1 | refine below_set ?_ GE368.out) | exact HB.out)); (case side2 => exact HR2.out); (case side3 => exact HC2.out); rintro e w10 ⟨g371, rfl, hi, hb, hb2⟩; refine ⟨_, rfl, ?_⟩; have n0_ := Aside0.mk (blk_below (g := gb368) (o := .cells #[.string a1_0, .int .i64 a1_1, .bool a1_2] 24 (0, 0)) (by (with_reducible repeat (first | refine blk_drewN ?_ _ | refine blk_drew ?_ | refine blk_alloc ?_ _)); exact BK368.out) hb2); have n1_ := Aside0.mk (hb); have n2_ := Aside0.mk (hi); have n3_ := Aside0.mk (IsS72.ne_blk hi (blk_below (g := gb368) (o := .cells #[.string a1_0, .int .i64 a1_1, .bool a1_2] 24 (0, 0)) (by (with_reducible repeat (first | refine blk_drewN ?_ _ | refine blk_drew ?_ | refine blk_alloc ?_ _)); exact BK368.out) hb2) (by decide)); have n4_ := Aside0.mk (Ne.symm (IsS72.ne_blk hi (blk_below (g := gb368) (o := .cells #[.string a1_0, .int .i64 a1_1, .bool a1_2] 24 (0, 0)) (by (with_reducible repeat (first | refine blk_drewN ?_ _ | refine blk_drew ?_ | refine blk_alloc ?_ _)); exact BK368.out) hb2) (by decide))); clear BK368; clear HB; have BK368 := n0_; have HB := n1_; have HI371 := n2_; have NB371_368 := n3_; have NB368_371 := n4_; clear n0_ n1_ n2_ n3_ n4_; (try clear hb); (try clear hb2); (try clear hk); (try clear hi)) | ((with_reducible refine gate_callee (f := 13) rfl ?_); refine goesL_ (some 24) rfl rfl Try.func13 (by kernel_rfl) rfl #[.pointer (some ⟨g371, 0, none⟩), .int .i64 4, .int .i64 5, .int .i64 1] rfl (by (try simp only [List.map_toArray, List.map_cons, List.map_nil]); first | done | rfl | (simp only [List.length_drop, List.length_take]; rfl)) ?_; (with_reducible refine (cippuskit_CopiesOf.calls g371 t369 t370 4 5 1 t372 t375 t376 t379 t380 w _ ?side1 ?side2 A5.out).mono ?_); (case side1 => repeat (first | (with_reducible first | exact HI371.out | apply IsS72.alloc | apply IsS72.drewN | apply IsS72.drew | apply IsS72.set_0 | apply IsS72.set_1 | refine IsS72.far ?_ NB371_368.out _) | exact HI371.out)); (case side2 => repeat (first | (with_reducible first | exact HB.out | apply below_alloc | apply pw_below_drewN | apply below_drew1 | refine below_set ?_ (IsS72.ge HI371.out) | refine below_set ?_ GE368.out) | exact HB.out)); rintro e w11 ⟨v373, v377, rfl, ho0, ho1, hi, hb, hk⟩; refine ⟨_, rfl, ?_⟩; have n0_ := Aside0.mk (KeepBut.blk hk (g' := gb368) (o := .cells #[.string a1_0, .int .i64 a1_1, .bool a1_2] 24 (0, 0)) (by (with_reducible repeat (first | refine blk_drewN ?_ _ | refine blk_drew ?_ | refine blk_alloc ?_ _)); exact BK368.out) NB368_371.out (by simp)); have n1_ := Aside0.mk (Kd.R_lower (Kd.R_newB ho0 (g := gb368) (o := .cells #[.string a1_0, .int .i64 a1_1, .bool a1_2] 24 (0, 0)) (by (with_reducible repeat (first | refine blk_drewN ?_ _ | refine blk_drew ?_ | refine blk_alloc ?_ _)); exact BK368.out)) (below_size (by repeat (first | (with_reducible first | exact HB.out | apply below_alloc | apply pw_below_drewN | apply below_drew1 | refine below_set ?_ (IsS72.ge HI371.out) | refine below_set ?_ GE368.out) | exact HB.out)))); have n2_ := Aside0.mk (Kd.R_lower ho1 (below_size (by repeat (first | (with_reducible first | exact HB.out | apply below_alloc | apply pw_below_drewN | apply below_drew1 | refine below_set ?_ (IsS72.ge HI371.out) | refine below_set ?_ GE368.out) | exact HB.out)))); have n3_ := Aside0.mk (hb); have n4_ := Aside0.mk (hi); clear BK368; clear HB; clear HI371; have BK368 := n0_; have HO374 := n1_; have HO378 := n2_; have HB := n3_; have HI371 := n4_; clear n0_ n1_ n2_ n3_ n4_; (try clear hb); (try clear hb2); (try clear hk); (try clear hi); (try clear ho0); (try clear ho1)) | ((with_reducible refine gate_dst (N := 8) rfl ?_); refine box_event ?hg (N := 8) ?hd (cs := #[.string (⟨#[]⟩ : ByteArray), .slice none 0 0]) (t := 27) ?hr ?_; (case hd => rfl); (case hg => rfl); (case hr => first | (go_simp; done) | (go_simp; rfl)); intro gb381 hg w12 hbox hb; have n0_ := Aside0.mk (Kd.R_below (by (with_reducible repeat (first | apply Kd.R_alloc | apply Kd.R_drewN | apply Kd.R_drew)); exact HO374.out) hb); have n1_ := Aside0.mk (Kd.R_below (by (with_reducible repeat (first | apply Kd.R_alloc | apply Kd.R_drewN | apply Kd.R_drew)); exact HO378.out) hb); have n2_ := Aside0.mk (blk_below (g := gb368) (o := .cells #[.string a1_0, .int .i64 a1_1, .bool a1_2] 24 (0, 0)) (by (with_reducible repeat (first | refine blk_drewN ?_ _ | refine blk_drew ?_ | refine blk_alloc ?_ _)); exact BK368.out) hb); have n3_ := Aside0.mk (IsS72.below (by repeat (first | (with_reducible first | exact HI371.out | apply IsS72.alloc | apply IsS72.drewN | apply IsS72.drew | apply IsS72.set_0 | apply IsS72.set_1 | refine IsS72.far ?_ NB371_368.out _) | exact HI371.out)) hb); have n4_ := Aside0.mk (below_step (by repeat (first | (with_reducible first | exact HB.out | apply below_alloc | apply pw_below_drewN | apply below_drew1 | refine below_set ?_ (IsS72.ge HI371.out) | refine below_set ?_ GE368.out) | exact HB.out)) hb); have n5_ := Aside0.mk (hbox); have n6_ := Aside0.mk ((by rw [hg]; exact (below_size (by repeat (first | (with_reducible first | exact HB.out | apply below_alloc | apply pw_below_drewN | apply below_drew1 | refine below_set ?_ (IsS72.ge HI371.out) | refine below_set ?_ GE368.out) | exact HB.out))) : w.heap.size ≤ gb381)); have n7_ := Aside0.mk ((by rw [hg]; exact (below_size (by repeat (first | (with_reducible first | exact HB.out | apply below_alloc | apply pw_below_drewN | apply below_drew1 | refine below_set ?_ (IsS72.ge HI371.out) | refine below_set ?_ GE368.out) | exact HB.out))) : w.heap.size ≤ gb381)); have n8_ := Aside0.mk ((by rw [hg]; exact Nat.ne_of_lt (blk_lt (g := gb368) (o := .cells #[.string a1_0, .int .i64 a1_1, .bool a1_2] 24 (0, 0)) (by (with_reducible repeat (first | refine blk_drewN ?_ _ | refine blk_drew ?_ | refine blk_alloc ?_ _)); exact BK368.out)) : gb368 ≠ gb381)); have n9_ := Aside0.mk ((by rw [hg]; exact Nat.ne_of_gt (blk_lt (g := gb368) (o := .cells #[.string a1_0, .int .i64 a1_1, .bool a1_2] 24 (0, 0)) (by (with_reducible repeat (first | refine blk_drewN ?_ _ | refine blk_drew ?_ | refine blk_alloc ?_ _)); exact BK368.out)) : gb381 ≠ gb368)); have n10_ := Aside0.mk ((by rw [hg]; exact Nat.ne_of_lt (IsS72.lt (show IsS72 w _ g371 t379 t380 from by repeat (first | (with_reducible first | exact HI371.out | apply IsS72.alloc | apply IsS72.drewN | apply IsS72.drew | apply IsS72.set_0 | apply IsS72.set_1 | refine IsS72.far ?_ NB371_368.out _) | exact HI371.out))) : g371 ≠ gb381)); have n11_ := Aside0.mk ((by rw [hg]; exact Nat.ne_of_gt (IsS72.lt (show IsS72 w _ g371 t379 t380 from by repeat (first | (with_reducible first | exact HI371.out | apply IsS72.alloc | apply IsS72.drewN | apply IsS72.drew | apply IsS72.set_0 | apply IsS72.set_1 | refine IsS72.far ?_ NB371_368.out _) | exact HI371.out))) : gb381 ≠ g371)); clear HO374; clear HO378; clear BK368; clear HI371; clear HB; have HO374 := n0_; have HO378 := n1_; have BK368 := n2_; have HI371 := n3_; have HB := n4_; have BK381 := n5_; have GW381 := n6_; have GE381 := n7_; have NB368_381 := n8_; have NB381_368 := n9_; have NB371_381 := n10_; have NB381_371 := n11_; clear n0_ n1_ n2_ n3_ n4_ n5_ n6_ n7_ n8_ n9_ n10_ n11_; clear hb hbox hg; have hnb13 := NB381_368.out; have hnc13 := NB368_381.out; have hnb14 := NB381_371.out; have hnc14 := NB371_381.out; have hcz15_0 : w12.cell? ⟨gb381, 0, none⟩ = some (.string (⟨#[]⟩ : ByteArray)) := (blk_cell BK381.out 0).trans rfl; have hcz15_1 : w12.cell? ⟨gb381, 1, none⟩ = some (.slice none 0 0) := (blk_cell BK381.out 1).trans rfl; have hfz15_0 := blk_frozen BK381.out 0; have hfz15_1 := blk_frozen BK381.out 1; obtain ⟨Ao16, co16, eo16⟩ := Kd.R_slice HO378.out; subst eo16; obtain ⟨Ao17, co17, eo17⟩ := Kd.R_slice HO374.out; subst eo17))
    have n0_ : Aside0 (Kd.R k24 24 ((w12.setCell ⟨gb381, 0, none⟩ (.string t375)).setCell ⟨gb381, 1, none⟩ (.slice Ao16 t376.length co16)) w.heap.size (fun k_ => k_ ≠ gb368) (.slice Ao17 t372.length co17) t372) := ⟨by (with_reducible repeat (first | apply Kd.R_alloc | apply Kd.R_drewN | apply Kd.R_drew)); exact Kd.R_mono (Kd.R_far (p := ⟨gb381, 1, none⟩) (Kd.R_far (p := ⟨gb381, 0, none⟩) (Kd.R_types HO374.out BK381.out (by decide)) (fun _ hk => hk.2) (.string t375)) (fun _ hk => hk.2) (.slice Ao16 t376.length co16)) (fun _ hk => hk.1.2)⟩
    have n1_ : Aside0 (Kd.R (Kd.int .i64) 3 ((w12.setCell ⟨gb381, 0, none⟩ (.string t375)).setCell ⟨gb381, 1, none⟩ (.slice Ao16 t376.length co16)) w.heap.size (fun _ => True) (.slice Ao16 t376.length co16) t376) := ⟨by (with_reducible repeat (first | apply Kd.R_alloc | apply Kd.R_drewN | apply Kd.R_drew)); exact Kd.R_mono (Kd.R_far (p := ⟨gb381, 1, none⟩) (Kd.R_far (p := ⟨gb381, 0, none⟩) (Kd.R_types HO378.out BK381.out (by decide)) (fun _ hk => hk.2) (.string t375)) (fun _ hk => hk.2) (.slice Ao16 t376.length co16)) (fun _ hk => trivial)⟩
    have n2_ : Aside0 (((w12.setCell ⟨gb381, 0, none⟩ (.string t375)).setCell ⟨gb381, 1, none⟩ (.slice Ao16 t376.length co16)).heap[gb368]? = some (.cells #[.string a1_0, .int .i64 a1_1, .bool a1_2] 24 (0, 0))) := ⟨by (with_reducible repeat (first | refine blk_drewN ?_ _ | refine blk_drew ?_ | refine blk_alloc ?_ _)); refine blk_far ?_ NB368_381.out _; (with_reducible repeat (first | refine blk_drewN ?_ _ | refine blk_drew ?_ | refine blk_alloc ?_ _)); refine blk_far ?_ NB368_381.out _; (with_reducible repeat (first | refine blk_drewN ?_ _ | refine blk_drew ?_ | refine blk_alloc ?_ _)); exact BK368.out⟩
    have n3_ : Aside0 (((w12.setCell ⟨gb381, 0, none⟩ (.string t375)).setCell ⟨gb381, 1, none⟩ (.slice Ao16 t376.length co16)).heap[gb381]? = some (.cells #[.string t375, .slice Ao16 t376.length co16] 27 (0, 0))) := ⟨by (with_reducible repeat (first | refine blk_drewN ?_ _ | refine blk_drew ?_ | refine blk_alloc ?_ _)); refine blk_put (cs := #[.string t375, .slice none 0 0]) ?_ 1 _ rfl; (with_reducible repeat (first | refine blk_drewN ?_ _ | refine blk_drew ?_ | refine blk_alloc ?_ _)); refine blk_put (cs := #[.string (⟨#[]⟩ : ByteArray), .slice none 0 0]) ?_ 0 _ rfl; (with_reducible repeat (first | refine blk_drewN ?_ _ | refine blk_drew ?_ | refine blk_alloc ?_ _)); exact BK381.out⟩
    have n4_ : Aside0 (IsS72 w ((w12.setCell ⟨gb381, 0, none⟩ (.string t375)).setCell ⟨gb381, 1, none⟩ (.slice Ao16 t376.length co16)) g371 t379 t380) := ⟨by repeat (first | (with_reducible first | exact HI371.out | apply IsS72.alloc | apply IsS72.drewN | apply IsS72.drew | apply IsS72.set_0 | apply IsS72.set_1 | refine IsS72.far ?_ NB371_368.out _ | refine IsS72.far ?_ NB371_381.out _) | exact HI371.out)⟩
    have n5_ : Aside0 (Below w.heap.size w ((w12.setCell ⟨gb381, 0, none⟩ (.string t375)).setCell ⟨gb381, 1, none⟩ (.slice Ao16 t376.length co16))) := ⟨by repeat (first | (with_reducible first | exact HB.out | apply below_alloc | apply pw_below_drewN | apply below_drew1 | refine below_set ?_ (IsS72.ge HI371.out) | refine below_set ?_ GE368.out | refine below_set ?_ GE381.out) | exact HB.out)⟩
    (try clear HO374)
    (try clear HO378)
    (try clear BK368)
    (try clear BK381)
    (try clear HI371)
    (try clear HB)
    generalize ((w12.setCell ⟨gb381, 0, none⟩ (.string t375)).setCell ⟨gb381, 1, none⟩ (.slice Ao16 t376.length co16)) = w18 at n0_ n1_ n2_ n3_ n4_ n5_ ⊢
    have HO374 := n0_
    have HO378 := n1_
    have BK368 := n2_
    have BK381 := n3_
    have HI371 := n4_
    have HB := n5_
    clear n0_ n1_ n2_ n3_ n4_ n5_
    have n0_ := Aside0.mk (Kd.R_drew HO374.out)
    have n1_ := Aside0.mk (Kd.R_drew HO378.out)
    have n2_ := Aside0.mk (blk_drew BK368.out)
    have n3_ := Aside0.mk (blk_drew BK381.out)
    have n4_ := Aside0.mk (IsS72.drew HI371.out)
    have n5_ := Aside0.mk (below_drew1 HB.out)
    clear HO374
    clear HO378
    clear BK368
    clear BK381
    clear HI371
    clear HB
    have HO374 := n0_
    have HO378 := n1_
    have BK368 := n2_
    have BK381 := n3_
    have HI371 := n4_
    have HB := n5_
    clear n0_ n1_ n2_ n3_ n4_ n5_
    refine start_ (n := 6) (S := fun w' => w'.cell? ⟨gb368, 0, none⟩ = some (.string a1_0) ∧ w'.cell? ⟨gb368, 1, none⟩ = some (.int .i64 a1_1) ∧ w'.cell? ⟨gb368, 2, none⟩ = some (.bool a1_2)) (ds := []) #[false, false, false, false, false, false] (by kernel_rfl) rfl rfl ⟨(blk_cell BK368.out 0).trans rfl, (blk_cell BK368.out 1).trans rfl, (blk_cell BK368.out 2).trans rfl⟩ (fun hHeld => ?_)
    generalize w18.drew = w19 at HO374 HO378 BK368 BK381 HI371 HB hHeld ⊢
    refine pure_ (i := 0) (N := some 27) (v := ?_) (a' := ?_) #[true, false, false, false, false, false] rfl rfl (by kernel_rfl) (fun _ _ _ h => h) (Or.inl ⟨by rfl, ?_⟩) ?_ ?_
    rotate_left
    · intro w'
      go_simp
      with_reducible rfl
    rotate_left
    · simp only [Act.put, List.setIfInBounds_toArray, List.set_cons_zero, List.set_cons_succ, i64_w, i32_w]
      rfl
    refine take_ (i := 2) (N := some 29) (v := ?_) (a' := ?_) #[true, false, true, false, false, false] rfl rfl (by kernel_rfl) (fun _ _ _ h => h) (Or.inl ⟨by rfl, ?_⟩) hHeld ?_ ?_
    rotate_left
    · rintro w' ⟨s0, s1, s2⟩
      go_simp
      with_reducible rfl
    rotate_left
    · simp only [Act.put, List.setIfInBounds_toArray, List.set_cons_zero, List.set_cons_succ, i64_w, i32_w]
      rfl
    refine join_ (σ := Value × Value) 2 #[true, true, true, true, false, false] (fun s_ => [(28, s_.1), (30, s_.2)]) (fun s_ w' => (w'.cell? ⟨gb368, 0, none⟩ = some (.string a1_0) ∧ w'.cell? ⟨gb368, 1, none⟩ = some (.int .i64 a1_1) ∧ w'.cell? ⟨gb368, 2, none⟩ = some (.bool a1_2)) ∧ (Kd.R k24 24 w' w.heap.size (fun k_ => some k_ ≠ (s_.1 : Value).ownBlock ∧ some k_ ≠ (s_.2 : Value).ownBlock ∧ k_ ≠ gb368) (.slice Ao17 t372.length co17) t372) ∧ (Kd.R (Kd.int .i64) 3 w' w.heap.size (fun _ => True) (.slice Ao16 t376.length co16) t376) ∧ (Kd.R k24 24 w' w.heap.size (fun k_ => some k_ ≠ (.slice Ao17 t372.length co17 : Value).ownBlock ∧ some k_ ≠ (s_.2 : Value).ownBlock ∧ k_ ≠ gb368) s_.1 t382) ∧ (Kd.R k24 24 w' w.heap.size (fun k_ => some k_ ≠ (.slice Ao17 t372.length co17 : Value).ownBlock ∧ some k_ ≠ (s_.1 : Value).ownBlock ∧ k_ ≠ gb368) s_.2 y385) ∧ (w'.heap[gb368]? = some (.cells #[.string a1_0, .int .i64 a1_1, .bool a1_2] 24 (0, 0))) ∧ (w'.heap[gb381]? = some (.cells #[.string t375, .slice Ao16 t376.length co16] 27 (0, 0))) ∧ (IsS72 w w' g371 t379 t380) ∧ (Below w.heap.size w w')) ?_ ?_
    rotate_left
    · intro hCont
      refine two_ (i := 1) (j := 3) (Ni := some 28) (Nj := some 30) #[true, true, true, false, false, false] #[true, false, true, true, false, false] rfl rfl rfl rfl (by kernel_rfl) (by decide) (by decide) (fun K hK => ?_) (fun K hK => ?_)
      · skip
        refine goes_ Try.func15 (by kernel_rfl) rfl #[.slice Ao17 t372.length co17] (by rfl) rfl rfl (by (try simp only [List.map_toArray, List.map_cons, List.map_nil]); first | done | rfl | (simp only [List.length_drop, List.length_take]; rfl)) ?_
        with_reducible refine (cippuskit_CopyCopies.calls _ _ t372 t382 _ ?side1 ?side2 A6.out).mono ?_
        (case side1 => repeat (first | exact (Kd.R_reads' HO374.out).2.2 | (with_reducible refine Kd.C_alloc ?_ _) | (with_reducible refine Kd.C_drewN ?_ _) | (with_reducible refine Kd.C_drew ?_)))
        (case side2 => exact (Kd.R_reads' HO374.out).2.1)
        rintro e w20 ⟨v383, rfl, ho0, hb⟩
        refine ⟨_, rfl, ?_⟩
        have n0_ := Aside0.mk (Kd.R_elder' (by (with_reducible repeat (first | apply Kd.R_alloc | apply Kd.R_drewN | apply Kd.R_drew)); exact HO374.out) (Kd.R_base ho0) hb)
        have n1_ := Aside0.mk (Kd.R_below (by (with_reducible repeat (first | apply Kd.R_alloc | apply Kd.R_drewN | apply Kd.R_drew)); exact HO378.out) hb)
        have n2_ := Aside0.mk (Kd.R_lower (Kd.R_newB (Kd.R_new' ho0 (Kd.R_lt (by (with_reducible repeat (first | apply Kd.R_alloc | apply Kd.R_drewN | apply Kd.R_drew)); exact HO374.out))) (g := gb368) (o := .cells #[.string a1_0, .int .i64 a1_1, .bool a1_2] 24 (0, 0)) (by (with_reducible repeat (first | refine blk_drewN ?_ _ | refine blk_drew ?_ | refine blk_alloc ?_ _)); exact BK368.out)) (below_size (by repeat (first | (with_reducible first | exact HB.out | apply below_alloc | apply pw_below_drewN | apply below_drew1 | refine below_set ?_ (IsS72.ge HI371.out) | refine below_set ?_ GE368.out | refine below_set ?_ GE381.out) | exact HB.out))))
        have n3_ := Aside0.mk (blk_below (g := gb368) (o := .cells #[.string a1_0, .int .i64 a1_1, .bool a1_2] 24 (0, 0)) (by (with_reducible repeat (first | refine blk_drewN ?_ _ | refine blk_drew ?_ | refine blk_alloc ?_ _)); exact BK368.out) hb)
        have n4_ := Aside0.mk (IsS72.below (by repeat (first | (with_reducible first | exact HI371.out | apply IsS72.alloc | apply IsS72.drewN | apply IsS72.drew | apply IsS72.set_0 | apply IsS72.set_1 | refine IsS72.far ?_ NB371_368.out _ | refine IsS72.far ?_ NB371_381.out _) | exact HI371.out)) hb)
        have n5_ := Aside0.mk (blk_below (g := gb381) (o := .cells #[.string t375, .slice Ao16 t376.length co16] 27 (0, 0)) (by (with_reducible repeat (first | refine blk_drewN ?_ _ | refine blk_drew ?_ | refine blk_alloc ?_ _)); exact BK381.out) hb)
        have n6_ := Aside0.mk (below_step (by repeat (first | (with_reducible first | exact HB.out | apply below_alloc | apply pw_below_drewN | apply below_drew1 | refine below_set ?_ (IsS72.ge HI371.out) | refine below_set ?_ GE368.out | refine below_set ?_ GE381.out) | exact HB.out)) hb)
        clear HO374
        clear HO378
        clear BK368
        clear HI371
        clear BK381
        clear HB
        have HO374 := n0_
        have HO378 := n1_
        have HO384 := n2_
        have BK368 := n3_
        have HI371 := n4_
        have BK381 := n5_
        have HB := n6_
        clear n0_ n1_ n2_ n3_ n4_ n5_ n6_
        (try clear hb)
        (try clear hb2)
        (try clear hk)
        (try clear hi)
        (try clear ho0)
        refine hK.out _ _ ⟨(blk_cell BK368.out 0).trans rfl, (blk_cell BK368.out 1).trans rfl, (blk_cell BK368.out 2).trans rfl⟩ (fun hHeld => ?_)
        clear hK K
        refine norm_ (a' := ?_) ?_ ?_
        rotate_left
        · show Act.put _ (some 28) _ = _
          simp only [Act.put, List.setIfInBounds_toArray, List.set_cons_zero, List.set_cons_succ, i64_w, i32_w]
          rfl
        refine one_ (i := 3) (N := some 30) #[true, true, true, true, false, false] rfl rfl (by kernel_rfl) (by decide) (fun K hK => ?_)
        refine Kd.R_lit_step k24 _ 24 ?hg (N := 30) ?hd (xs := ([(⟨a1_0, a1_1, a1_2⟩ : S24)] : List (S24))) (inner := [.string a1_0, .int .i64 a1_1, .bool a1_2]) (ok := fun _ => True) (okp := fun _ => True) ?hr ?hp (fun _ hk => hk) trivial (Below.refl _ _) (Nat.le_refl _) (by simp) ?_; (case hd => rfl); (case hg => rfl); (case hr => first | (go_simp; done) | (go_simp; rfl)); (case hp => exact (Reps.c3 (show Kd.M k24 _ _ _ (⟨a1_0, a1_1, a1_2⟩ : S24) [.string a1_0, .int .i64 a1_1, .bool a1_2] from (k24_mkM _ _ _ (⟨a1_0, a1_1, a1_2⟩ : S24) )) (Reps.none _ _)))
        intro v386 w21 ho22 hb hg_ hnew_
        clear hg_ hnew_
        (first | rw [← Ny385.out] at ho22 | (simp only [Int.reduceToNat] at ho22; rw [← Ny385.out] at ho22))
        have n0_ := Aside0.mk (Kd.R_elder' (by (with_reducible repeat (first | apply Kd.R_alloc | apply Kd.R_drewN | apply Kd.R_drew)); exact HO374.out) (Kd.R_base ho22) hb)
        have n1_ := Aside0.mk (Kd.R_below (by (with_reducible repeat (first | apply Kd.R_alloc | apply Kd.R_drewN | apply Kd.R_drew)); exact HO378.out) hb)
        have n2_ := Aside0.mk (Kd.R_elder' (by (with_reducible repeat (first | apply Kd.R_alloc | apply Kd.R_drewN | apply Kd.R_drew)); exact HO384.out) (Kd.R_base ho22) hb)
        have n3_ := Aside0.mk (Kd.R_lower (Kd.R_newB (Kd.R_new' (Kd.R_new' ho22 (Kd.R_lt (by (with_reducible repeat (first | apply Kd.R_alloc | apply Kd.R_drewN | apply Kd.R_drew)); exact HO374.out))) (Kd.R_lt (by (with_reducible repeat (first | apply Kd.R_alloc | apply Kd.R_drewN | apply Kd.R_drew)); exact HO384.out))) (g := gb368) (o := .cells #[.string a1_0, .int .i64 a1_1, .bool a1_2] 24 (0, 0)) (by (with_reducible repeat (first | refine blk_drewN ?_ _ | refine blk_drew ?_ | refine blk_alloc ?_ _)); exact BK368.out)) (below_size (by repeat (first | (with_reducible first | exact HB.out | apply below_alloc | apply pw_below_drewN | apply below_drew1 | refine below_set ?_ (IsS72.ge HI371.out) | refine below_set ?_ GE368.out | refine below_set ?_ GE381.out) | exact HB.out))))
        have n4_ := Aside0.mk (blk_below (g := gb368) (o := .cells #[.string a1_0, .int .i64 a1_1, .bool a1_2] 24 (0, 0)) (by (with_reducible repeat (first | refine blk_drewN ?_ _ | refine blk_drew ?_ | refine blk_alloc ?_ _)); exact BK368.out) hb)
        have n5_ := Aside0.mk (IsS72.below (by repeat (first | (with_reducible first | exact HI371.out | apply IsS72.alloc | apply IsS72.drewN | apply IsS72.drew | apply IsS72.set_0 | apply IsS72.set_1 | refine IsS72.far ?_ NB371_368.out _ | refine IsS72.far ?_ NB371_381.out _) | exact HI371.out)) hb)
        have n6_ := Aside0.mk (blk_below (g := gb381) (o := .cells #[.string t375, .slice Ao16 t376.length co16] 27 (0, 0)) (by (with_reducible repeat (first | refine blk_drewN ?_ _ | refine blk_drew ?_ | refine blk_alloc ?_ _)); exact BK381.out) hb)
        have n7_ := Aside0.mk (below_step (by repeat (first | (with_reducible first | exact HB.out | apply below_alloc | apply pw_below_drewN | apply below_drew1 | refine below_set ?_ (IsS72.ge HI371.out) | refine below_set ?_ GE368.out | refine below_set ?_ GE381.out) | exact HB.out)) hb)
        clear HO374
        clear HO378
        clear HO384
        clear BK368
        clear HI371
        clear BK381
        clear HB
        have HO374 := n0_
        have HO378 := n1_
        have HO384 := n2_
        have HO387 := n3_
        have BK368 := n4_
        have HI371 := n5_
        have BK381 := n6_
        have HB := n7_
        clear n0_ n1_ n2_ n3_ n4_ n5_ n6_ n7_
        clear hb ho22
        refine hK.out _ _ ⟨(blk_cell BK368.out 0).trans rfl, (blk_cell BK368.out 1).trans rfl, (blk_cell BK368.out 2).trans rfl⟩ (fun hHeld => ?_)
        clear hK K
        refine norm_ (a' := ?_) ?_ ?_
        rotate_left
        · show Act.put _ (some 30) _ = _
          simp only [Act.put, List.setIfInBounds_toArray, List.set_cons_zero, List.set_cons_succ, i64_w, i32_w]
          rfl
        exact norm_ (by simp only [putAll, Act.put, List.setIfInBounds_toArray, List.set_cons_zero, List.set_cons_succ]) (hCont (v383, v386) _ ⟨hHeld, (by (with_reducible repeat (first | apply Kd.R_alloc | apply Kd.R_drewN | apply Kd.R_drew)); exact Kd.R_mono HO374.out (fun _ hk => ⟨hk.1.2, ⟨hk.2, hk.1.1⟩⟩)), (by (with_reducible repeat (first | apply Kd.R_alloc | apply Kd.R_drewN | apply Kd.R_drew)); exact HO378.out), (by (with_reducible repeat (first | apply Kd.R_alloc | apply Kd.R_drewN | apply Kd.R_drew)); exact Kd.R_mono HO384.out (fun _ hk => ⟨hk.1.1.2, ⟨hk.2, hk.1.2⟩⟩)), (by (with_reducible repeat (first | apply Kd.R_alloc | apply Kd.R_drewN | apply Kd.R_drew)); exact Kd.R_mono HO387.out (fun _ hk => ⟨hk.1.1.2, ⟨hk.1.2, hk.2⟩⟩)), (by (with_reducible repeat (first | refine blk_drewN ?_ _ | refine blk_drew ?_ | refine blk_alloc ?_ _)); exact BK368.out), (by (with_reducible repeat (first | refine blk_drewN ?_ _ | refine blk_drew ?_ | refine blk_alloc ?_ _)); exact BK381.out), (by repeat (first | (with_reducible first | exact HI371.out | apply IsS72.alloc | apply IsS72.drewN | apply IsS72.drew | apply IsS72.set_0 | apply IsS72.set_1 | refine IsS72.far ?_ NB371_368.out _ | refine IsS72.far ?_ NB371_381.out _) | exact HI371.out)), (by repeat (first | (with_reducible first | exact HB.out | apply below_alloc | apply pw_below_drewN | apply below_drew1 | refine below_set ?_ (IsS72.ge HI371.out) | refine below_set ?_ GE368.out | refine below_set ?_ GE381.out) | exact HB.out))⟩)
      · skip
        refine Kd.R_lit_step k24 _ 24 ?hg (N := 30) ?hd (xs := ([(⟨a1_0, a1_1, a1_2⟩ : S24)] : List (S24))) (inner := [.string a1_0, .int .i64 a1_1, .bool a1_2]) (ok := fun _ => True) (okp := fun _ => True) ?hr ?hp (fun _ hk => hk) trivial (Below.refl _ _) (Nat.le_refl _) (by simp) ?_; (case hd => rfl); (case hg => rfl); (case hr => first | (go_simp; done) | (go_simp; rfl)); (case hp => exact (Reps.c3 (show Kd.M k24 _ _ _ (⟨a1_0, a1_1, a1_2⟩ : S24) [.string a1_0, .int .i64 a1_1, .bool a1_2] from (k24_mkM _ _ _ (⟨a1_0, a1_1, a1_2⟩ : S24) )) (Reps.none _ _)))
        intro v386 w20 ho21 hb hg_ hnew_
        clear hg_ hnew_
        (first | rw [← Ny385.out] at ho21 | (simp only [Int.reduceToNat] at ho21; rw [← Ny385.out] at ho21))
        have n0_ := Aside0.mk (Kd.R_elder' (by (with_reducible repeat (first | apply Kd.R_alloc | apply Kd.R_drewN | apply Kd.R_drew)); exact HO374.out) (Kd.R_base ho21) hb)
        have n1_ := Aside0.mk (Kd.R_below (by (with_reducible repeat (first | apply Kd.R_alloc | apply Kd.R_drewN | apply Kd.R_drew)); exact HO378.out) hb)
        have n2_ := Aside0.mk (Kd.R_lower (Kd.R_newB (Kd.R_new' ho21 (Kd.R_lt (by (with_reducible repeat (first | apply Kd.R_alloc | apply Kd.R_drewN | apply Kd.R_drew)); exact HO374.out))) (g := gb368) (o := .cells #[.string a1_0, .int .i64 a1_1, .bool a1_2] 24 (0, 0)) (by (with_reducible repeat (first | refine blk_drewN ?_ _ | refine blk_drew ?_ | refine blk_alloc ?_ _)); exact BK368.out)) (below_size (by repeat (first | (with_reducible first | exact HB.out | apply below_alloc | apply pw_below_drewN | apply below_drew1 | refine below_set ?_ (IsS72.ge HI371.out) | refine below_set ?_ GE368.out | refine below_set ?_ GE381.out) | exact HB.out))))
        have n3_ := Aside0.mk (blk_below (g := gb368) (o := .cells #[.string a1_0, .int .i64 a1_1, .bool a1_2] 24 (0, 0)) (by (with_reducible repeat (first | refine blk_drewN ?_ _ | refine blk_drew ?_ | refine blk_alloc ?_ _)); exact BK368.out) hb)
        have n4_ := Aside0.mk (IsS72.below (by repeat (first | (with_reducible first | exact HI371.out | apply IsS72.alloc | apply IsS72.drewN | apply IsS72.drew | apply IsS72.set_0 | apply IsS72.set_1 | refine IsS72.far ?_ NB371_368.out _ | refine IsS72.far ?_ NB371_381.out _) | exact HI371.out)) hb)
        have n5_ := Aside0.mk (blk_below (g := gb381) (o := .cells #[.string t375, .slice Ao16 t376.length co16] 27 (0, 0)) (by (with_reducible repeat (first | refine blk_drewN ?_ _ | refine blk_drew ?_ | refine blk_alloc ?_ _)); exact BK381.out) hb)
        have n6_ := Aside0.mk (below_step (by repeat (first | (with_reducible first | exact HB.out | apply below_alloc | apply pw_below_drewN | apply below_drew1 | refine below_set ?_ (IsS72.ge HI371.out) | refine below_set ?_ GE368.out | refine below_set ?_ GE381.out) | exact HB.out)) hb)
        clear HO374
        clear HO378
        clear BK368
        clear HI371
        clear BK381
        clear HB
        have HO374 := n0_
        have HO378 := n1_
        have HO387 := n2_
        have BK368 := n3_
        have HI371 := n4_
        have BK381 := n5_
        have HB := n6_
        clear n0_ n1_ n2_ n3_ n4_ n5_ n6_
        clear hb ho21
        refine hK.out _ _ ⟨(blk_cell BK368.out 0).trans rfl, (blk_cell BK368.out 1).trans rfl, (blk_cell BK368.out 2).trans rfl⟩ (fun hHeld => ?_)
        clear hK K
        refine norm_ (a' := ?_) ?_ ?_
        rotate_left
        · show Act.put _ (some 30) _ = _
          simp only [Act.put, List.setIfInBounds_toArray, List.set_cons_zero, List.set_cons_succ, i64_w, i32_w]
          rfl
        refine one_ (i := 1) (N := some 28) #[true, true, true, true, false, false] rfl rfl (by kernel_rfl) (by decide) (fun K hK => ?_)
        refine goes_ Try.func15 (by kernel_rfl) rfl #[.slice Ao17 t372.length co17] (by rfl) rfl rfl (by (try simp only [List.map_toArray, List.map_cons, List.map_nil]); first | done | rfl | (simp only [List.length_drop, List.length_take]; rfl)) ?_
        with_reducible refine (cippuskit_CopyCopies.calls _ _ t372 t382 _ ?side1 ?side2 A6.out).mono ?_
        (case side1 => repeat (first | exact (Kd.R_reads' HO374.out).2.2 | (with_reducible refine Kd.C_alloc ?_ _) | (with_reducible refine Kd.C_drewN ?_ _) | (with_reducible refine Kd.C_drew ?_)))
        (case side2 => exact (Kd.R_reads' HO374.out).2.1)
        rintro e w22 ⟨v383, rfl, ho0, hb⟩
        refine ⟨_, rfl, ?_⟩
        have n0_ := Aside0.mk (Kd.R_elder' (by (with_reducible repeat (first | apply Kd.R_alloc | apply Kd.R_drewN | apply Kd.R_drew)); exact HO374.out) (Kd.R_base ho0) hb)
        have n1_ := Aside0.mk (Kd.R_below (by (with_reducible repeat (first | apply Kd.R_alloc | apply Kd.R_drewN | apply Kd.R_drew)); exact HO378.out) hb)
        have n2_ := Aside0.mk (Kd.R_elder' (by (with_reducible repeat (first | apply Kd.R_alloc | apply Kd.R_drewN | apply Kd.R_drew)); exact HO387.out) (Kd.R_base ho0) hb)
        have n3_ := Aside0.mk (Kd.R_lower (Kd.R_newB (Kd.R_new' (Kd.R_new' ho0 (Kd.R_lt (by (with_reducible repeat (first | apply Kd.R_alloc | apply Kd.R_drewN | apply Kd.R_drew)); exact HO374.out))) (Kd.R_lt (by (with_reducible repeat (first | apply Kd.R_alloc | apply Kd.R_drewN | apply Kd.R_drew)); exact HO387.out))) (g := gb368) (o := .cells #[.string a1_0, .int .i64 a1_1, .bool a1_2] 24 (0, 0)) (by (with_reducible repeat (first | refine blk_drewN ?_ _ | refine blk_drew ?_ | refine blk_alloc ?_ _)); exact BK368.out)) (below_size (by repeat (first | (with_reducible first | exact HB.out | apply below_alloc | apply pw_below_drewN | apply below_drew1 | refine below_set ?_ (IsS72.ge HI371.out) | refine below_set ?_ GE368.out | refine below_set ?_ GE381.out) | exact HB.out))))
        have n4_ := Aside0.mk (blk_below (g := gb368) (o := .cells #[.string a1_0, .int .i64 a1_1, .bool a1_2] 24 (0, 0)) (by (with_reducible repeat (first | refine blk_drewN ?_ _ | refine blk_drew ?_ | refine blk_alloc ?_ _)); exact BK368.out) hb)
        have n5_ := Aside0.mk (IsS72.below (by repeat (first | (with_reducible first | exact HI371.out | apply IsS72.alloc | apply IsS72.drewN | apply IsS72.drew | apply IsS72.set_0 | apply IsS72.set_1 | refine IsS72.far ?_ NB371_368.out _ | refine IsS72.far ?_ NB371_381.out _) | exact HI371.out)) hb)
        have n6_ := Aside0.mk (blk_below (g := gb381) (o := .cells #[.string t375, .slice Ao16 t376.length co16] 27 (0, 0)) (by (with_reducible repeat (first | refine blk_drewN ?_ _ | refine blk_drew ?_ | refine blk_alloc ?_ _)); exact BK381.out) hb)
        have n7_ := Aside0.mk (below_step (by repeat (first | (with_reducible first | exact HB.out | apply below_alloc | apply pw_below_drewN | apply below_drew1 | refine below_set ?_ (IsS72.ge HI371.out) | refine below_set ?_ GE368.out | refine below_set ?_ GE381.out) | exact HB.out)) hb)
        clear HO374
        clear HO378
        clear HO387
        clear BK368
        clear HI371
        clear BK381
        clear HB
        have HO374 := n0_
        have HO378 := n1_
        have HO387 := n2_
        have HO384 := n3_
        have BK368 := n4_
        have HI371 := n5_
        have BK381 := n6_
        have HB := n7_
        clear n0_ n1_ n2_ n3_ n4_ n5_ n6_ n7_
        (try clear hb)
        (try clear hb2)
        (try clear hk)
        (try clear hi)
        (try clear ho0)
        refine hK.out _ _ ⟨(blk_cell BK368.out 0).trans rfl, (blk_cell BK368.out 1).trans rfl, (blk_cell BK368.out 2).trans rfl⟩ (fun hHeld => ?_)
        clear hK K
        refine norm_ (a' := ?_) ?_ ?_
        rotate_left
        · show Act.put _ (some 28) _ = _
          simp only [Act.put, List.setIfInBounds_toArray, List.set_cons_zero, List.set_cons_succ, i64_w, i32_w]
          rfl
        exact norm_ (by simp only [putAll, Act.put, List.setIfInBounds_toArray, List.set_cons_zero, List.set_cons_succ]) (hCont (v383, v386) _ ⟨hHeld, (by (with_reducible repeat (first | apply Kd.R_alloc | apply Kd.R_drewN | apply Kd.R_drew)); exact Kd.R_mono HO374.out (fun _ hk => ⟨hk.2, ⟨hk.1.2, hk.1.1⟩⟩)), (by (with_reducible repeat (first | apply Kd.R_alloc | apply Kd.R_drewN | apply Kd.R_drew)); exact HO378.out), (by (with_reducible repeat (first | apply Kd.R_alloc | apply Kd.R_drewN | apply Kd.R_drew)); exact Kd.R_mono HO384.out (fun _ hk => ⟨hk.1.1.2, ⟨hk.1.2, hk.2⟩⟩)), (by (with_reducible repeat (first | apply Kd.R_alloc | apply Kd.R_drewN | apply Kd.R_drew)); exact Kd.R_mono HO387.out (fun _ hk => ⟨hk.1.1.2, ⟨hk.2, hk.1.2⟩⟩)), (by (with_reducible repeat (first | refine blk_drewN ?_ _ | refine blk_drew ?_ | refine blk_alloc ?_ _)); exact BK368.out), (by (with_reducible repeat (first | refine blk_drewN ?_ _ | refine blk_drew ?_ | refine blk_alloc ?_ _)); exact BK381.out), (by repeat (first | (with_reducible first | exact HI371.out | apply IsS72.alloc | apply IsS72.drewN | apply IsS72.drew | apply IsS72.set_0 | apply IsS72.set_1 | refine IsS72.far ?_ NB371_368.out _ | refine IsS72.far ?_ NB371_381.out _) | exact HI371.out)), (by repeat (first | (with_reducible first | exact HB.out | apply below_alloc | apply pw_below_drewN | apply below_drew1 | refine below_set ?_ (IsS72.ge HI371.out) | refine below_set ?_ GE368.out | refine below_set ?_ GE381.out) | exact HB.out))⟩)
    rintro ⟨v383, v386⟩ w23 ⟨hS_, h0_, h1_, h2_, h3_, h4_, h5_, h6_, h7_⟩
    have n0_ : Aside0 (Kd.R k24 24 w23 w.heap.size (fun k_ => some k_ ≠ (v383 : Value).ownBlock ∧ some k_ ≠ (v386 : Value).ownBlock ∧ k_ ≠ gb368) (.slice Ao17 t372.length co17) t372) := ⟨h0_⟩
    have n1_ : Aside0 (Kd.R (Kd.int .i64) 3 w23 w.heap.size (fun _ => True) (.slice Ao16 t376.length co16) t376) := ⟨h1_⟩
    have n2_ : Aside0 (Kd.R k24 24 w23 w.heap.size (fun k_ => some k_ ≠ (.slice Ao17 t372.length co17 : Value).ownBlock ∧ some k_ ≠ (v386 : Value).ownBlock ∧ k_ ≠ gb368) v383 t382) := ⟨h2_⟩
    have n3_ : Aside0 (Kd.R k24 24 w23 w.heap.size (fun k_ => some k_ ≠ (.slice Ao17 t372.length co17 : Value).ownBlock ∧ some k_ ≠ (v383 : Value).ownBlock ∧ k_ ≠ gb368) v386 y385) := ⟨h3_⟩
    have n4_ : Aside0 (w23.heap[gb368]? = some (.cells #[.string a1_0, .int .i64 a1_1, .bool a1_2] 24 (0, 0))) := ⟨h4_⟩
    have n5_ : Aside0 (w23.heap[gb381]? = some (.cells #[.string t375, .slice Ao16 t376.length co16] 27 (0, 0))) := ⟨h5_⟩
    have n6_ : Aside0 (IsS72 w w23 g371 t379 t380) := ⟨h6_⟩
    have n7_ : Aside0 (Below w.heap.size w w23) := ⟨h7_⟩
    clear HO374
    clear HO378
    clear BK368
    clear BK381
    clear HI371
    clear HB
    clear h0_ h1_ h2_ h3_ h4_ h5_ h6_ h7_
    have HO374 := n0_
    have HO378 := n1_
    have HO384 := n2_
    have HO387 := n3_
    have BK368 := n4_
    have BK381 := n5_
    have HI371 := n6_
    have HB := n7_
    clear n0_ n1_ n2_ n3_ n4_ n5_ n6_ n7_
    have hHeld : w23.cell? ⟨gb368, 0, none⟩ = some (.string a1_0) ∧ w23.cell? ⟨gb368, 1, none⟩ = some (.int .i64 a1_1) ∧ w23.cell? ⟨gb368, 2, none⟩ = some (.bool a1_2) := hS_
    obtain ⟨Ao25, co25, eo25⟩ := Kd.R_slice HO387.out
    (first | subst eo25 | (injection eo25 with f1_ f2_ f3_; have f4_ := f1_.symm; have f5_ := f3_.symm; clear f1_ f2_ f3_; subst f4_; subst f5_))
    refine norm_ (a' := ?_) ?_ ?_
    rotate_left
    · simp only [putAll, Act.put, List.setIfInBounds_toArray, List.set_cons_zero, List.set_cons_succ]
      rfl
    refine one_ (i := 4) (N := some 31) #[true, true, true, true, true, false] rfl rfl (by kernel_rfl) (by decide) (fun K hK => ?_)
    refine Kd.R_append_rows_step k24 (w0 := w) w.heap.size (by rfl) (.tmp 28) (.tmp 30) 22 24 (.agg #[(.string ⟨#[]⟩), (.int .i64 0), (.bool false)]) 32 rfl Try.underlying22 info24 rfl (by decide) (by omega) v383 t382 y385 _ _ _ (fun k_ => some k_ ≠ (.slice Ao17 t372.length co17 : Value).ownBlock ∧ some k_ ≠ (.slice Ao25 y385.length co25 : Value).ownBlock ∧ k_ ≠ gb368) (fun _ => False) rfl rfl ?aO ?aR (fun _ _ h => h) (fun _ h => h.elim) ?aF ?aB ?aS ?aL ?_
    (case aR => repeat (first | exact (Kd.R_reads' HO387.out).2.2 | (with_reducible refine Kd.C_alloc ?_ _) | (with_reducible refine Kd.C_drewN ?_ _) | (with_reducible refine Kd.C_drew ?_)))
    (case aB => exact (by repeat (first | (with_reducible first | exact HB.out | apply below_alloc | apply pw_below_drewN | apply below_drew1 | refine below_set ?_ (IsS72.ge HI371.out) | refine below_set ?_ GE368.out | refine below_set ?_ GE381.out) | exact HB.out)))
    (case aF => exact (fun k_ hk => ⟨Kd.fresh' (Kd.R_lt (by (with_reducible repeat (first | apply Kd.R_alloc | apply Kd.R_drewN | apply Kd.R_drew)); exact HO374.out)) k_ hk, Kd.fresh' (Kd.R_lt (by (with_reducible repeat (first | apply Kd.R_alloc | apply Kd.R_drewN | apply Kd.R_drew)); exact HO387.out)) k_ hk, Kd.freshB (g := gb368) (o := .cells #[.string a1_0, .int .i64 a1_1, .bool a1_2] 24 (0, 0)) (by (with_reducible repeat (first | refine blk_drewN ?_ _ | refine blk_drew ?_ | refine blk_alloc ?_ _)); exact BK368.out) k_ hk⟩))
    (case aO => exact (by (with_reducible repeat (first | apply Kd.R_alloc | apply Kd.R_drewN | apply Kd.R_drew)); exact HO384.out))
    (case aS => exact (below_size (by repeat (first | (with_reducible first | exact HB.out | apply below_alloc | apply pw_below_drewN | apply below_drew1 | refine below_set ?_ (IsS72.ge HI371.out) | refine below_set ?_ GE368.out | refine below_set ?_ GE381.out) | exact HB.out))))
    (case aL => have := LMc7.out; omega)
    intro v389 w24 ho hb hg hat
    rw [← Ny388.out] at ho
    have n0_ := Aside0.mk (blk_grown (g := gb368) (o := .cells #[.string a1_0, .int .i64 a1_1, .bool a1_2] 24 (0, 0)) (by (with_reducible repeat (first | refine blk_drewN ?_ _ | refine blk_drew ?_ | refine blk_alloc ?_ _)); exact BK368.out) hg (Kd.R_away HO384.out (fun _ hk => hk.2.2)))
    have n1_ := Aside0.mk (IsS72.grown (by repeat (first | (with_reducible first | exact HI371.out | apply IsS72.alloc | apply IsS72.drewN | apply IsS72.drew | apply IsS72.set_0 | apply IsS72.set_1 | refine IsS72.far ?_ NB371_368.out _ | refine IsS72.far ?_ NB371_381.out _) | exact HI371.out)) hg (IsS72.own_ne HI371.out HO384.out (by decide)))
    have n2_ := Aside0.mk (Kd.R_after (ok := (fun k_ => some k_ ≠ (.slice Ao25 y385.length co25 : Value).ownBlock ∧ k_ ≠ gb368)) (by (with_reducible repeat (first | apply Kd.R_alloc | apply Kd.R_drewN | apply Kd.R_drew)); exact Kd.R_mono HO374.out (fun _ hk => ⟨⟨hk.2.1, hk.2.2⟩, hk.1⟩)) hg hat)
    have n3_ := Aside0.mk (Kd.R_over' (by (with_reducible repeat (first | apply Kd.R_alloc | apply Kd.R_drewN | apply Kd.R_drew)); exact HO378.out) (Kd.R_typed (by (with_reducible repeat (first | apply Kd.R_alloc | apply Kd.R_drewN | apply Kd.R_drew)); exact HO384.out)) (by decide) hg)
    have n4_ := Aside0.mk (blk_grown (g := gb381) (o := .cells #[.string t375, .slice Ao16 t376.length co16] 27 (0, 0)) (by (with_reducible repeat (first | refine blk_drewN ?_ _ | refine blk_drew ?_ | refine blk_alloc ?_ _)); exact BK381.out) hg (Kd.R_ne HO384.out BK381.out (by decide)))
    have n5_ := Aside0.mk (Kd.R_after (ok := (fun k_ => some k_ ≠ (.slice Ao17 t372.length co17 : Value).ownBlock ∧ k_ ≠ gb368)) (by (with_reducible repeat (first | apply Kd.R_alloc | apply Kd.R_drewN | apply Kd.R_drew)); exact Kd.R_mono HO387.out (fun _ hk => ⟨⟨hk.1, hk.2.2⟩, hk.2.1⟩)) hg hat)
    have n6_ := Aside0.mk (hb)
    have n7_ := Aside0.mk (ho)
    clear BK368
    clear HI371
    clear HO374
    clear HO378
    clear BK381
    clear HO387
    clear HB
    clear HO384
    have BK368 := n0_
    have HI371 := n1_
    have HO374 := n2_
    have HO378 := n3_
    have BK381 := n4_
    have HO387 := n5_
    have HB := n6_
    have HO390 := n7_
    clear n0_ n1_ n2_ n3_ n4_ n5_ n6_ n7_
    clear ho hb hg hat
    refine hK.out _ _ ⟨(blk_cell BK368.out 0).trans rfl, (blk_cell BK368.out 1).trans rfl, (blk_cell BK368.out 2).trans rfl⟩ (fun hHeld => ?_)
    clear hK K
    refine norm_ (a' := ?_) ?_ ?_
    rotate_left
    · show Act.put _ (some 31) _ = _
      simp only [Act.put, List.setIfInBounds_toArray, List.set_cons_zero, List.set_cons_succ, i64_w, i32_w]
      rfl
    refine pure_ (i := 5) (N := some 9) (v := ?_) (a' := ?_) #[true, true, true, true, true, true] rfl rfl (by kernel_rfl) (fun _ _ _ h => h) (Or.inl ⟨by rfl, ?_⟩) ?_ ?_
    rotate_left
    · intro w'
      go_simp
      with_reducible rfl
    rotate_left
    · simp only [Act.put, List.setIfInBounds_toArray, List.set_cons_zero, List.set_cons_succ, i64_w, i32_w]
      rfl
    refine done_ (by kernel_rfl) ?_
    go_upto_region 3 with (fail)
    go_cut [37] (fun v37 wc => ∃ (kq : Nat) (x37_7 : Bool), v37 = .bool x37_7 ∧ Aside0 (cippuslaw07_StemmaLetters.j0 kq l0 t372 y388 x37_7 = some r) ∧ Aside0 (kq ≤ k) ∧ Aside0 (Kd.R k24 24 wc w.heap.size (fun k_ => some k_ ≠ (v389 : Value).ownBlock ∧ k_ ≠ gb368) (.slice Ao17 t372.length co17) t372) ∧ Aside0 (Kd.R k24 24 wc w.heap.size (fun k_ => some k_ ≠ ((.slice Ao17 t372.length co17) : Value).ownBlock ∧ k_ ≠ gb368) v389 y388) ∧ Aside0 (Kd.R (Kd.int .i64) 3 wc w.heap.size (fun _ => True) (.slice Ao16 t376.length co16) t376) ∧ Aside0 (wc.heap[gb368]? = some (.cells #[.string a1_0, .int .i64 a1_1, .bool a1_2] 24 (0, 0))) ∧ Aside0 (wc.heap[gb381]? = some (.cells #[.string t375, (.slice Ao16 t376.length co16)] 27 (0, 0))) ∧ Aside0 (Below w.heap.size w wc))
    case first =>
      have H := HC8.out
      clear HC8
      replace H := Option.bind_eq_some_iff.mp H
      obtain ⟨t391, A260, H⟩ := H
      replace H : (if t391 = true then (cippuslaw07_StemmaLetters.j0 k l0 t372 y388 true) else ((cippuslaw07_large.f k y388).bind fun t392 => (cippuslaw07_StemmaLetters.j0 k l0 t372 y388 t392))) = some r := H
      have A26 := Aside0.mk A260
      clear A260
      by_cases c27 : t391 = true
      · subst c27
        have H1 : (cippuslaw07_StemmaLetters.j0 k l0 t372 y388 true) = some r := by rw [if_pos rfl] at H; exact H
        clear H
        have H := H1
        clear H1
        have H' := Aside0.mk H
        clear H
        go_wp2_with (first | ((with_reducible refine gate_callee (f := 16) rfl ?_); refine goesL_ (some 33) rfl rfl Try.func16 (by kernel_rfl) rfl #[.slice A0 l0.length c0] rfl (by (try simp only [List.map_toArray, List.map_cons, List.map_nil]); first | done | rfl | (simp only [List.length_drop, List.length_take]; rfl)) ?_; (with_reducible refine (cippuslaw07_large.calls k _ _ l0 true _ ?side1 ?side2 A26.out).mono ?_); (case side1 => repeat (first | exact (Kd.C_below HR0.out HB.out) | (with_reducible refine Kd.C_alloc ?_ _) | (with_reducible refine Kd.C_drewN ?_ _) | (with_reducible refine Kd.C_drew ?_))); (case side2 => exact HC0.out); rintro e w28 ⟨rfl, hb⟩; refine ⟨_, rfl, ?_⟩; have n0_ := Aside0.mk (Kd.R_below (by (with_reducible repeat (first | apply Kd.R_alloc | apply Kd.R_drewN | apply Kd.R_drew)); exact HO374.out) hb); have n1_ := Aside0.mk (Kd.R_below (by (with_reducible repeat (first | apply Kd.R_alloc | apply Kd.R_drewN | apply Kd.R_drew)); exact HO378.out) hb); have n2_ := Aside0.mk (Kd.R_below (by (with_reducible repeat (first | apply Kd.R_alloc | apply Kd.R_drewN | apply Kd.R_drew)); exact HO387.out) hb); have n3_ := Aside0.mk (Kd.R_below (by (with_reducible repeat (first | apply Kd.R_alloc | apply Kd.R_drewN | apply Kd.R_drew)); exact HO390.out) hb); have n4_ := Aside0.mk (blk_below (g := gb368) (o := .cells #[.string a1_0, .int .i64 a1_1, .bool a1_2] 24 (0, 0)) (by (with_reducible repeat (first | refine blk_drewN ?_ _ | refine blk_drew ?_ | refine blk_alloc ?_ _)); exact BK368.out) hb); have n5_ := Aside0.mk (IsS72.below (by repeat (first | (with_reducible first | exact HI371.out | apply IsS72.alloc | apply IsS72.drewN | apply IsS72.drew | apply IsS72.set_0 | apply IsS72.set_1 | refine IsS72.far ?_ NB371_368.out _ | refine IsS72.far ?_ NB371_381.out _) | exact HI371.out)) hb); have n6_ := Aside0.mk (blk_below (g := gb381) (o := .cells #[.string t375, .slice Ao16 t376.length co16] 27 (0, 0)) (by (with_reducible repeat (first | refine blk_drewN ?_ _ | refine blk_drew ?_ | refine blk_alloc ?_ _)); exact BK381.out) hb); have n7_ := Aside0.mk (below_step (by repeat (first | (with_reducible first | exact HB.out | apply below_alloc | apply pw_below_drewN | apply below_drew1 | refine below_set ?_ (IsS72.ge HI371.out) | refine below_set ?_ GE368.out | refine below_set ?_ GE381.out) | exact HB.out)) hb); clear HO374; clear HO378; clear HO387; clear HO390; clear BK368; clear HI371; clear BK381; clear HB; have HO374 := n0_; have HO378 := n1_; have HO387 := n2_; have HO390 := n3_; have BK368 := n4_; have HI371 := n5_; have BK381 := n6_; have HB := n7_; clear n0_ n1_ n2_ n3_ n4_ n5_ n6_ n7_; (try clear hb); (try clear hb2); (try clear hk); (try clear hi)))
        go_meet
        case rel => exact ⟨_, (true), (by first | rfl | (simp; done) | (simp [*]; done)), H', ⟨by first | omega | exact Nat.le_refl _⟩, ⟨by (with_reducible repeat (first | apply Kd.R_alloc | apply Kd.R_drewN | apply Kd.R_drew)); exact Kd.R_mono HO374.out (fun _ hk => ⟨hk.2, hk.1.2⟩)⟩, ⟨by (with_reducible repeat (first | apply Kd.R_alloc | apply Kd.R_drewN | apply Kd.R_drew)); exact Kd.R_mono HO390.out (fun _ hk => ⟨hk.1, hk.2.2⟩)⟩, ⟨by (with_reducible repeat (first | apply Kd.R_alloc | apply Kd.R_drewN | apply Kd.R_drew)); exact HO378.out⟩, ⟨by (with_reducible repeat (first | refine blk_drewN ?_ _ | refine blk_drew ?_ | refine blk_alloc ?_ _)); exact BK368.out⟩, ⟨by (with_reducible repeat (first | refine blk_drewN ?_ _ | refine blk_drew ?_ | refine blk_alloc ?_ _)); exact BK381.out⟩, ⟨by repeat (first | (with_reducible first | exact HB.out | apply below_alloc | apply pw_below_drewN | apply below_drew1 | refine below_set ?_ (IsS72.ge HI371.out) | refine below_set ?_ GE368.out | refine below_set ?_ GE381.out) | exact HB.out)⟩⟩
      · replace c27 := Bool.eq_false_iff.mpr c27
        subst c27
        have H1 : ((cippuslaw07_large.f k y388).bind fun t392 => (cippuslaw07_StemmaLetters.j0 k l0 t372 y388 t392)) = some r := by rw [if_neg (show ¬ (false = true) by decide)] at H; exact H
        clear H
        have H := H1
        clear H1
        replace H := Option.bind_eq_some_iff.mp H
        obtain ⟨t392, A290, H⟩ := H
        replace H : (cippuslaw07_StemmaLetters.j0 k l0 t372 y388 t392) = some r := H
        have A29 := Aside0.mk A290
        clear A290
        have H' := Aside0.mk H
        clear H
        go_wp2_with (first | ((with_reducible refine gate_callee (f := 16) rfl ?_); refine goesL_ (some 33) rfl rfl Try.func16 (by kernel_rfl) rfl #[.slice A0 l0.length c0] rfl (by (try simp only [List.map_toArray, List.map_cons, List.map_nil]); first | done | rfl | (simp only [List.length_drop, List.length_take]; rfl)) ?_; (with_reducible refine (cippuslaw07_large.calls k _ _ l0 false _ ?side1 ?side2 A26.out).mono ?_); (case side1 => repeat (first | exact (Kd.C_below HR0.out HB.out) | (with_reducible refine Kd.C_alloc ?_ _) | (with_reducible refine Kd.C_drewN ?_ _) | (with_reducible refine Kd.C_drew ?_))); (case side2 => exact HC0.out); rintro e w30 ⟨rfl, hb⟩; refine ⟨_, rfl, ?_⟩; have n0_ := Aside0.mk (Kd.R_below (by (with_reducible repeat (first | apply Kd.R_alloc | apply Kd.R_drewN | apply Kd.R_drew)); exact HO374.out) hb); have n1_ := Aside0.mk (Kd.R_below (by (with_reducible repeat (first | apply Kd.R_alloc | apply Kd.R_drewN | apply Kd.R_drew)); exact HO378.out) hb); have n2_ := Aside0.mk (Kd.R_below (by (with_reducible repeat (first | apply Kd.R_alloc | apply Kd.R_drewN | apply Kd.R_drew)); exact HO387.out) hb); have n3_ := Aside0.mk (Kd.R_below (by (with_reducible repeat (first | apply Kd.R_alloc | apply Kd.R_drewN | apply Kd.R_drew)); exact HO390.out) hb); have n4_ := Aside0.mk (blk_below (g := gb368) (o := .cells #[.string a1_0, .int .i64 a1_1, .bool a1_2] 24 (0, 0)) (by (with_reducible repeat (first | refine blk_drewN ?_ _ | refine blk_drew ?_ | refine blk_alloc ?_ _)); exact BK368.out) hb); have n5_ := Aside0.mk (IsS72.below (by repeat (first | (with_reducible first | exact HI371.out | apply IsS72.alloc | apply IsS72.drewN | apply IsS72.drew | apply IsS72.set_0 | apply IsS72.set_1 | refine IsS72.far ?_ NB371_368.out _ | refine IsS72.far ?_ NB371_381.out _) | exact HI371.out)) hb); have n6_ := Aside0.mk (blk_below (g := gb381) (o := .cells #[.string t375, .slice Ao16 t376.length co16] 27 (0, 0)) (by (with_reducible repeat (first | refine blk_drewN ?_ _ | refine blk_drew ?_ | refine blk_alloc ?_ _)); exact BK381.out) hb); have n7_ := Aside0.mk (below_step (by repeat (first | (with_reducible first | exact HB.out | apply below_alloc | apply pw_below_drewN | apply below_drew1 | refine below_set ?_ (IsS72.ge HI371.out) | refine below_set ?_ GE368.out | refine below_set ?_ GE381.out) | exact HB.out)) hb); clear HO374; clear HO378; clear HO387; clear HO390; clear BK368; clear HI371; clear BK381; clear HB; have HO374 := n0_; have HO378 := n1_; have HO387 := n2_; have HO390 := n3_; have BK368 := n4_; have HI371 := n5_; have BK381 := n6_; have HB := n7_; clear n0_ n1_ n2_ n3_ n4_ n5_ n6_ n7_; (try clear hb); (try clear hb2); (try clear hk); (try clear hi); obtain ⟨Ao31, co31, eo31⟩ := Kd.R_slice HO390.out; subst eo31) | (go_at_call 16; (with_reducible refine (cippuslaw07_large.calls k _ _ y388 t392 _ ?side1 ?side2 A29.out).mono ?_); (case side1 => repeat (first | exact (Kd.R_reads' HO390.out).2.2 | (with_reducible refine Kd.C_alloc ?_ _) | (with_reducible refine Kd.C_drewN ?_ _) | (with_reducible refine Kd.C_drew ?_))); (case side2 => exact (Kd.R_reads' HO390.out).2.1); rintro e w32 ⟨rfl, hb⟩; have n0_ := Aside0.mk (Kd.R_below (by (with_reducible repeat (first | apply Kd.R_alloc | apply Kd.R_drewN | apply Kd.R_drew)); exact HO374.out) hb); have n1_ := Aside0.mk (Kd.R_below (by (with_reducible repeat (first | apply Kd.R_alloc | apply Kd.R_drewN | apply Kd.R_drew)); exact HO378.out) hb); have n2_ := Aside0.mk (Kd.R_below (by (with_reducible repeat (first | apply Kd.R_alloc | apply Kd.R_drewN | apply Kd.R_drew)); exact HO387.out) hb); have n3_ := Aside0.mk (Kd.R_below (by (with_reducible repeat (first | apply Kd.R_alloc | apply Kd.R_drewN | apply Kd.R_drew)); exact HO390.out) hb); have n4_ := Aside0.mk (blk_below (g := gb368) (o := .cells #[.string a1_0, .int .i64 a1_1, .bool a1_2] 24 (0, 0)) (by (with_reducible repeat (first | refine blk_drewN ?_ _ | refine blk_drew ?_ | refine blk_alloc ?_ _)); exact BK368.out) hb); have n5_ := Aside0.mk (IsS72.below (by repeat (first | (with_reducible first | exact HI371.out | apply IsS72.alloc | apply IsS72.drewN | apply IsS72.drew | apply IsS72.set_0 | apply IsS72.set_1 | refine IsS72.far ?_ NB371_368.out _ | refine IsS72.far ?_ NB371_381.out _) | exact HI371.out)) hb); have n6_ := Aside0.mk (blk_below (g := gb381) (o := .cells #[.string t375, .slice Ao16 t376.length co16] 27 (0, 0)) (by (with_reducible repeat (first | refine blk_drewN ?_ _ | refine blk_drew ?_ | refine blk_alloc ?_ _)); exact BK381.out) hb); have n7_ := Aside0.mk (below_step (by repeat (first | (with_reducible first | exact HB.out | apply below_alloc | apply pw_below_drewN | apply below_drew1 | refine below_set ?_ (IsS72.ge HI371.out) | refine below_set ?_ GE368.out | refine below_set ?_ GE381.out) | exact HB.out)) hb); clear HO374; clear HO378; clear HO387; clear HO390; clear BK368; clear HI371; clear BK381; clear HB; have HO374 := n0_; have HO378 := n1_; have HO387 := n2_; have HO390 := n3_; have BK368 := n4_; have HI371 := n5_; have BK381 := n6_; have HB := n7_; clear n0_ n1_ n2_ n3_ n4_ n5_ n6_ n7_; (try clear hb); (try clear hb2); (try clear hk); (try clear hi)))
        go_meet
        case rel => exact ⟨_, (t392), (by first | rfl | (simp; done) | (simp [*]; done)), H', ⟨by first | omega | exact Nat.le_refl _⟩, ⟨by (with_reducible repeat (first | apply Kd.R_alloc | apply Kd.R_drewN | apply Kd.R_drew)); exact Kd.R_mono HO374.out (fun _ hk => ⟨hk.2, hk.1.2⟩)⟩, ⟨by (with_reducible repeat (first | apply Kd.R_alloc | apply Kd.R_drewN | apply Kd.R_drew)); exact Kd.R_mono HO390.out (fun _ hk => ⟨hk.1, hk.2.2⟩)⟩, ⟨by (with_reducible repeat (first | apply Kd.R_alloc | apply Kd.R_drewN | apply Kd.R_drew)); exact HO378.out⟩, ⟨by (with_reducible repeat (first | refine blk_drewN ?_ _ | refine blk_drew ?_ | refine blk_alloc ?_ _)); exact BK368.out⟩, ⟨by (with_reducible repeat (first | refine blk_drewN ?_ _ | refine blk_drew ?_ | refine blk_alloc ?_ _)); exact BK381.out⟩, ⟨by repeat (first | (with_reducible first | exact HB.out | apply below_alloc | apply pw_below_drewN | apply below_drew1 | refine below_set ?_ (IsS72.ge HI371.out) | refine below_set ?_ GE368.out | refine below_set ?_ GE381.out) | exact HB.out)⟩⟩
    case rest =>
      clear HC8
      try clear c1
      try clear c2
      try clear p2
      try clear c3
      try clear c7
      try clear c13
      try clear c14
      try clear c15
      try clear c16
      try clear c27
      try clear hcz15_0
      try clear hcz15_1
      try clear hfz15_0
      try clear hfz15_1
      obtain ⟨kq, x37_7, rfl, HA, HJ7, HO_7, HO_9, HO_382001, BK368, BK381, HB⟩ := hcut
      cases kq with
      | zero => exact absurd HA.out (by simp [cippuslaw07_StemmaLetters.j0])
      | succ kj7 =>
        have H := HA.out
        clear HA
        simp only [cippuslaw07_StemmaLetters.j0] at H
        by_cases c33 : x37_7 = true
        · subst c33
          have H1 : ((cippuslaw07_found.f kj7).bind fun t393 => (some t393)) = some r := by rw [if_pos rfl] at H; exact H
          clear H
          have H := H1
          clear H1
          replace H := Option.bind_eq_some_iff.mp H
          obtain ⟨t393, A340, H⟩ := H
          replace H : (some t393) = some r := H
          have A34 := Aside0.mk A340
          clear A340
          obtain rfl := Option.some.inj H
          go_wp2_with (first | ((with_reducible refine gate_callee (f := 17) rfl ?_); refine goesL_ (some 38) rfl rfl Try.func17 (by kernel_rfl) rfl #[] rfl (by (try simp only [List.map_toArray, List.map_cons, List.map_nil]); first | done | rfl | (simp only [List.length_drop, List.length_take]; rfl)) ?_; (with_reducible refine (cippuslaw07_found.calls kj7  t393 _ A34.out).mono ?_); rintro e w35 ⟨rfl, hb⟩; refine ⟨_, rfl, ?_⟩; have n0_ := Aside0.mk (Kd.R_below (by (with_reducible repeat (first | apply Kd.R_alloc | apply Kd.R_drewN | apply Kd.R_drew)); exact HO_7.out) hb); have n1_ := Aside0.mk (Kd.R_below (by (with_reducible repeat (first | apply Kd.R_alloc | apply Kd.R_drewN | apply Kd.R_drew)); exact HO_9.out) hb); have n2_ := Aside0.mk (Kd.R_below (by (with_reducible repeat (first | apply Kd.R_alloc | apply Kd.R_drewN | apply Kd.R_drew)); exact HO_382001.out) hb); have n3_ := Aside0.mk (blk_below (g := gb368) (o := .cells #[.string a1_0, .int .i64 a1_1, .bool a1_2] 24 (0, 0)) (by (with_reducible repeat (first | refine blk_drewN ?_ _ | refine blk_drew ?_ | refine blk_alloc ?_ _)); exact BK368.out) hb); have n4_ := Aside0.mk (blk_below (g := gb381) (o := .cells #[.string t375, .slice Ao16 t376.length co16] 27 (0, 0)) (by (with_reducible repeat (first | refine blk_drewN ?_ _ | refine blk_drew ?_ | refine blk_alloc ?_ _)); exact BK381.out) hb); have n5_ := Aside0.mk (below_step (by repeat (first | (with_reducible first | exact HB.out | apply below_alloc | apply pw_below_drewN | apply below_drew1 | refine below_set ?_ GE368.out | refine below_set ?_ GE381.out) | exact HB.out)) hb); clear HO_7; clear HO_9; clear HO_382001; clear BK368; clear BK381; clear HB; have HO_7 := n0_; have HO_9 := n1_; have HO_382001 := n2_; have BK368 := n3_; have BK381 := n4_; have HB := n5_; clear n0_ n1_ n2_ n3_ n4_ n5_; (try clear hb); (try clear hb2); (try clear hk); (try clear hi)))
          go_ret
          exact ⟨by first | rfl | (simp [errW_none, errW_some] <;> rfl) | (simp [*, errW_none, errW_some] <;> rfl), by repeat (first | (with_reducible first | exact HB.out | apply below_alloc | apply pw_below_drewN | apply below_drew1 | refine below_set ?_ GE368.out | refine below_set ?_ GE381.out) | exact HB.out)⟩
        · replace c33 := Bool.eq_false_iff.mpr c33
          subst c33
          have H1 : ((cippuslaw07_every3.f l0 t372 y388).bind fun t394 => ((cippuslaw07_found.f kj7).bind fun t395 => (some t395))) = some r := by rw [if_neg (show ¬ (false = true) by decide)] at H; exact H
          clear H
          have H := H1
          clear H1
          replace H := Option.bind_eq_some_iff.mp H
          obtain ⟨t394, A360, H⟩ := H
          replace H : ((cippuslaw07_found.f kj7).bind fun t395 => (some t395)) = some r := H
          have A36 := Aside0.mk A360
          clear A360
          replace H := Option.bind_eq_some_iff.mp H
          obtain ⟨t395, A370, H⟩ := H
          replace H : (some t395) = some r := H
          have A37 := Aside0.mk A370
          clear A370
          obtain rfl := Option.some.inj H
          obtain ⟨Ao38, co38, eo38⟩ := Kd.R_slice HO_9.out
          subst eo38
          obtain ⟨hN0, hN1, hN2⟩ := Pure.every3_some A36.out
          go_upto_block 0 with (fail)
          obtain ⟨ls, hls⟩ : ∃ ls : List (List S24), ls = [l0, t372, y388] := ⟨_, rfl⟩
          have hlen : ls.length = 3 := by rw [hls]; rfl
          have HBw := Aside0.mk (below_alloc HB.out (.cells #[Value.slice A0 l0.length c0, Value.slice Ao17 t372.length co17, Value.slice Ao38 y388.length co38] 22))
          have HRa : Aside0 (Kd.C (Kd.slice 24 k24) (wc.alloc (.cells #[Value.slice A0 l0.length c0, Value.slice Ao17 t372.length co17, Value.slice Ao38 y388.length co38] 22)) (some ⟨wc.heap.size, 0, none⟩) ls.length ls) := ⟨by
            rw [hls]
            refine all_C (t := 22) (vs := [Value.slice A0 l0.length c0, Value.slice Ao17 t372.length co17, Value.slice Ao38 y388.length co38]) (blk_new _ _) rfl (by simp) (fun j x hx => ?_)
            rcases j with _ | _ | _ | j
            · have hx : l0 = x := by simpa using hx
              subst hx
              exact ⟨_, _, rfl, HC0.out, Kd.C_alloc (Kd.C_below HR0.out HB.out) _⟩
            · have hx : t372 = x := by simpa using hx
              subst hx
              exact ⟨_, _, rfl, (Kd.R_reads' HO_7.out).2.1, Kd.C_alloc (Kd.R_reads' HO_7.out).2.2 _⟩
            · have hx : y388 = x := by simpa using hx
              subst hx
              exact ⟨_, _, rfl, (Kd.R_reads' HO_9.out).2.1, Kd.C_alloc (Kd.R_reads' HO_9.out).2.2 _⟩
            · simp at hx⟩
          have HCa : Aside0 (ls.length ≤ 3) := ⟨by omega⟩
          obtain ⟨kz, HZ⟩ := (Pure.loop3_ev ls (by omega) (fun j hj => by
            rw [hls] at hj ⊢
            rcases j with _ | _ | _ | j
            · exact hN0
            · exact hN1
            · exact hN2
            · simp at hj; omega)).rounds
          have H : (cippuslaw07_loop3.l0 kz ls 0) = some true := HZ
          clear HZ hN0 hN1 hN2
          have H' := Aside0.mk H
          clear H
          rw [show (Value.slice (some ⟨wc.heap.size, 0, none⟩) 3 3) = Value.slice (some ⟨wc.heap.size, 0, none⟩) ls.length 3 by rw [hlen]]
          obtain ⟨Aa, hAa⟩ : ∃ Aa : Option Addr, Aa = some ⟨wc.heap.size, 0, none⟩ := ⟨_, rfl⟩
          rw [← hAa] at HRa ⊢
          clear hAa hls hlen HO_7 HO_9 HO_382001 BK368 BK381 HB
          generalize wc.alloc (.cells #[Value.slice A0 l0.length c0, Value.slice Ao17 t372.length co17, Value.slice Ao38 y388.length co38] 22) = wq at HBw HRa ⊢
          go_cut [] (fun wx => Aside0 (Below w.heap.size w wx))
          case first =>
            have HB := Aside0.mk (Below.refl wq.heap.size wq)
            go_wp2_with fail
            go_loopg [11] kz (fun kq v11 w' => ∃ (x11_1 : Int), v11 = .int .i64 x11_1 ∧ Aside0 (cippuslaw07_loop3.l0 kq ls x11_1 = some true) ∧ Aside0 (kq ≤ kz) ∧ Aside0 (Below wq.heap.size wq w'))
            case atStart => exact ⟨(0), (by first | rfl | (simp; done) | (simp [*]; done)), H', ⟨Nat.le_refl _⟩, ⟨by repeat (first | (with_reducible first | exact HB.out | apply below_alloc | apply pw_below_drewN | apply below_drew1) | exact HB.out)⟩⟩
            case round =>
              clear H'
              obtain ⟨x11_1, rfl, HA, HK1, HB⟩ := hrel
              cases gk with
              | zero => exact absurd HA.out (by simp [cippuslaw07_loop3.l0])
              | succ k1 =>
                have H := HA.out
                clear HA
                simp only [cippuslaw07_loop3.l0] at H
                by_cases c2 : x11_1 < (ls.length : Int)
                · rw [if_pos c2] at H
                  have c2b0 : decide (x11_1 < (ls.length : Int)) = true := decide_eq_true c2
                  clear c2
                  by_cases c3 : 0 ≤ x11_1
                  · rw [if_pos c3] at H
                    have c3b0 : decide (0 ≤ x11_1) = true := decide_eq_true c3
                    clear c3
                    replace H := Option.bind_eq_some_iff.mp H
                    obtain ⟨t366, A40, H⟩ := H
                    replace H : ((stemma_Letters.f k1 t366).bind fun bt369 => ((cippusref07_Letters.f k1 (rd_L8 ls x11_1)).bind fun bt374 => ((stemma_Print.f k1 t366).bind fun bt378 => ((cippusref07_Print.f k1 (rd_L8 ls x11_1)).bind fun bt381 => (if bt369.2 = bt374.2 then (if bt378.1.toList = bt381.1.toList then (if bt378.2 = bt381.2 then ((cippuskit_SameTexts.f k1 bt369.1 bt374.1).bind fun t383 => (if t383 = true then ((cippuskit_SameCopies.f k1 t366 (rd_L8 ls x11_1)).bind fun t385 => (if t385 = true then (cippuslaw07_loop3.l0 k1 ls (wrap64 (x11_1 + 1))) else (some false))) else (some false))) else (some false)) else (some false)) else (some false)))))) = some true := H
                    have A4 := Aside0.mk A40
                    clear A40
                    replace H := Option.bind_eq_some_iff.mp H
                    obtain ⟨⟨t369, t370⟩, A50, H⟩ := H
                    replace H : ((cippusref07_Letters.f k1 (rd_L8 ls x11_1)).bind fun bt374 => ((stemma_Print.f k1 t366).bind fun bt378 => ((cippusref07_Print.f k1 (rd_L8 ls x11_1)).bind fun bt381 => (if t370 = bt374.2 then (if bt378.1.toList = bt381.1.toList then (if bt378.2 = bt381.2 then ((cippuskit_SameTexts.f k1 t369 bt374.1).bind fun t383 => (if t383 = true then ((cippuskit_SameCopies.f k1 t366 (rd_L8 ls x11_1)).bind fun t385 => (if t385 = true then (cippuslaw07_loop3.l0 k1 ls (wrap64 (x11_1 + 1))) else (some false))) else (some false))) else (some false)) else (some false)) else (some false))))) = some true := H
                    have A5 := Aside0.mk A50
                    clear A50
                    replace H := Option.bind_eq_some_iff.mp H
                    obtain ⟨⟨t374, t375⟩, A60, H⟩ := H
                    replace H : ((stemma_Print.f k1 t366).bind fun bt378 => ((cippusref07_Print.f k1 (rd_L8 ls x11_1)).bind fun bt381 => (if t370 = t375 then (if bt378.1.toList = bt381.1.toList then (if bt378.2 = bt381.2 then ((cippuskit_SameTexts.f k1 t369 t374).bind fun t383 => (if t383 = true then ((cippuskit_SameCopies.f k1 t366 (rd_L8 ls x11_1)).bind fun t385 => (if t385 = true then (cippuslaw07_loop3.l0 k1 ls (wrap64 (x11_1 + 1))) else (some false))) else (some false))) else (some false)) else (some false)) else (some false)))) = some true := H
                    have A6 := Aside0.mk A60
                    clear A60
                    replace H := Option.bind_eq_some_iff.mp H
                    obtain ⟨⟨t378, t379⟩, A70, H⟩ := H
                    replace H : ((cippusref07_Print.f k1 (rd_L8 ls x11_1)).bind fun bt381 => (if t370 = t375 then (if t378.toList = bt381.1.toList then (if t379 = bt381.2 then ((cippuskit_SameTexts.f k1 t369 t374).bind fun t383 => (if t383 = true then ((cippuskit_SameCopies.f k1 t366 (rd_L8 ls x11_1)).bind fun t385 => (if t385 = true then (cippuslaw07_loop3.l0 k1 ls (wrap64 (x11_1 + 1))) else (some false))) else (some false))) else (some false)) else (some false)) else (some false))) = some true := H
                    have A7 := Aside0.mk A70
                    clear A70
                    replace H := Option.bind_eq_some_iff.mp H
                    obtain ⟨⟨t381, t382⟩, A80, H⟩ := H
                    replace H : (if t370 = t375 then (if t378.toList = t381.toList then (if t379 = t382 then ((cippuskit_SameTexts.f k1 t369 t374).bind fun t383 => (if t383 = true then ((cippuskit_SameCopies.f k1 t366 (rd_L8 ls x11_1)).bind fun t385 => (if t385 = true then (cippuslaw07_loop3.l0 k1 ls (wrap64 (x11_1 + 1))) else (some false))) else (some false))) else (some false)) else (some false)) else (some false)) = some true := H
                    have A8 := Aside0.mk A80
                    clear A80
                    by_cases c9 : t370 = t375
                    · rw [if_pos c9] at H
                      have c9b0 : (t370 == t375) = true := beq_iff_eq.mpr c9
                      have c9b1 : (t370 != t375) = false := bne_eq_false_iff_eq.mpr c9
                      clear c9
                      by_cases c10 : t378.toList = t381.toList
                      · rw [if_pos c10] at H
                        have c10b0 : (t378.toList == t381.toList) = true := beq_iff_eq.mpr c10
                        have c10b1 : (t378.toList != t381.toList) = false := bne_eq_false_iff_eq.mpr c10
                        clear c10
                        by_cases c11 : t379 = t382
                        · rw [if_pos c11] at H
                          have c11b0 : (t379 == t382) = true := beq_iff_eq.mpr c11
                          have c11b1 : (t379 != t382) = false := bne_eq_false_iff_eq.mpr c11
                          clear c11
                          replace H := Option.bind_eq_some_iff.mp H
                          obtain ⟨t383, A120, H⟩ := H
                          replace H : (if t383 = true then ((cippuskit_SameCopies.f k1 t366 (rd_L8 ls x11_1)).bind fun t385 => (if t385 = true then (cippuslaw07_loop3.l0 k1 ls (wrap64 (x11_1 + 1))) else (some false))) else (some false)) = some true := H
                          have A12 := Aside0.mk A120
                          clear A120
                          by_cases c13 : t383 = true
                          · subst c13
                            have H1 : ((cippuskit_SameCopies.f k1 t366 (rd_L8 ls x11_1)).bind fun t385 => (if t385 = true then (cippuslaw07_loop3.l0 k1 ls (wrap64 (x11_1 + 1))) else (some false))) = some true := by rw [if_pos rfl] at H; exact H
                            clear H
                            have H := H1
                            clear H1
                            replace H := Option.bind_eq_some_iff.mp H
                            obtain ⟨t385, A140, H⟩ := H
                            replace H : (if t385 = true then (cippuslaw07_loop3.l0 k1 ls (wrap64 (x11_1 + 1))) else (some false)) = some true := H
                            have A14 := Aside0.mk A140
                            clear A140
                            by_cases c15 : t385 = true
                            · subst c15
                              have H1 : (cippuslaw07_loop3.l0 k1 ls (wrap64 (x11_1 + 1))) = some true := by rw [if_pos rfl] at H; exact H
                              clear H
                              have H := H1
                              clear H1
                              have H' := Aside0.mk H
                              clear H
                              have p365 : 0 ≤ (x11_1 : Int) := of_decide_eq_true (by first | (with_reducible assumption) | assumption)
                              have q365 : x11_1 < (ls.length : Int) := of_decide_eq_true (by first | (with_reducible assumption) | assumption)
                              obtain ⟨ad365, A365_0, c365_0, e365, hx365_0, hl365_0, hi365_0⟩ := at_L8 HRa.out x11_1 p365 q365
                              cases e365
                              try replace hx365_0 := (HB.out.cell (World.block_lt_of_cell? wq _ hx365_0)).trans hx365_0
                              have HR365_0 := Aside0.mk hi365_0
                              have HC365_0 := Aside0.mk hl365_0
                              clear hi365_0 hl365_0
                              replace p365 := eq_true p365
                              replace q365 := eq_true q365
                              go_wp2_with (first | ((with_reducible refine gate_callee (f := 15) rfl ?_); refine goesL_ (some 53) rfl rfl Try.func15 (by kernel_rfl) rfl #[.slice A365_0 (rd_L8 ls x11_1).length c365_0] rfl (by (try simp only [List.map_toArray, List.map_cons, List.map_nil]); first | done | rfl | (simp only [List.length_drop, List.length_take]; rfl)) ?_; (with_reducible refine (cippuskit_CopyCopies.calls _ _ (rd_L8 ls x11_1) t366 _ ?side1 ?side2 A4.out).mono ?_); (case side1 => repeat (first | exact (Kd.C_below HR365_0.out HB.out) | (with_reducible refine Kd.C_alloc ?_ _) | (with_reducible refine Kd.C_drewN ?_ _) | (with_reducible refine Kd.C_drew ?_))); (case side2 => exact HC365_0.out); rintro e w16 ⟨v367, rfl, ho0, hb⟩; refine ⟨_, rfl, ?_⟩; have n0_ := Aside0.mk (Kd.R_lower ho0 (below_size (by repeat (first | (with_reducible first | exact HB.out | apply below_alloc | apply pw_below_drewN | apply below_drew1) | exact HB.out)))); have n1_ := Aside0.mk (below_step (by repeat (first | (with_reducible first | exact HB.out | apply below_alloc | apply pw_below_drewN | apply below_drew1) | exact HB.out)) hb); clear HB; have HO368 := n0_; have HB := n1_; clear n0_ n1_; (try clear hb); (try clear hb2); (try clear hk); (try clear hi); (try clear ho0); obtain ⟨Ao17, co17, eo17⟩ := Kd.R_slice HO368.out; subst eo17) | ((with_reducible refine gate_callee (f := 18) rfl ?_); refine goesL_ (some 56) rfl rfl Try.func18 (by kernel_rfl) rfl #[.slice Ao17 t366.length co17] rfl (by (try simp only [List.map_toArray, List.map_cons, List.map_nil]); first | done | rfl | (simp only [List.length_drop, List.length_take]; rfl)) ?_; (with_reducible refine (stemma_Letters.calls k1 _ _ t366 t369 t370 _ ?side1 ?side2 A5.out).mono ?_); (case side1 => repeat (first | exact (Kd.R_reads' HO368.out).2.2 | (with_reducible refine Kd.C_alloc ?_ _) | (with_reducible refine Kd.C_drewN ?_ _) | (with_reducible refine Kd.C_drew ?_))); (case side2 => exact (Kd.R_reads' HO368.out).2.1); rintro e w18 ⟨v371, rfl, ho0, hb⟩; refine ⟨_, rfl, ?_⟩; have n0_ := Aside0.mk (Kd.R_below (by (with_reducible repeat (first | apply Kd.R_alloc | apply Kd.R_drewN | apply Kd.R_drew)); exact HO368.out) hb); have n1_ := Aside0.mk (Kd.R_lower ho0 (below_size (by repeat (first | (with_reducible first | exact HB.out | apply below_alloc | apply pw_below_drewN | apply below_drew1) | exact HB.out)))); have n2_ := Aside0.mk (below_step (by repeat (first | (with_reducible first | exact HB.out | apply below_alloc | apply pw_below_drewN | apply below_drew1) | exact HB.out)) hb); clear HO368; clear HB; have HO368 := n0_; have HO372 := n1_; have HB := n2_; clear n0_ n1_ n2_; (try clear hb); (try clear hb2); (try clear hk); (try clear hi); (try clear ho0); have p373 : 0 ≤ (x11_1 : Int) := of_decide_eq_true (by first | (with_reducible assumption) | assumption); have q373 : x11_1 < (ls.length : Int) := of_decide_eq_true (by first | (with_reducible assumption) | assumption); obtain ⟨ad373, A373_0, c373_0, e373, hx373_0, hl373_0, hi373_0⟩ := at_L8 HRa.out x11_1 p373 q373; obtain rfl : ad365 = ad373 := (by injection e373); replace hx373_0 := (HB.out.cell (World.block_lt_of_cell? wq _ hx373_0)).trans hx373_0; have HR373_0 := Aside0.mk hi373_0; have HC373_0 := Aside0.mk hl373_0; clear hi373_0 hl373_0; replace p373 := eq_true p373; replace q373 := eq_true q373) | ((with_reducible refine gate_callee (f := 19) rfl ?_); refine goesL_ (some 64) rfl rfl Try.func19 (by kernel_rfl) rfl #[.slice A373_0 (rd_L8 ls x11_1).length c373_0] rfl (by (try simp only [List.map_toArray, List.map_cons, List.map_nil]); first | done | rfl | (simp only [List.length_drop, List.length_take]; rfl)) ?_; (with_reducible refine (cippusref07_Letters.calls k1 _ _ (rd_L8 ls x11_1) t374 t375 _ ?side1 ?side2 A6.out).mono ?_); (case side1 => repeat (first | exact (Kd.C_below HR373_0.out HB.out) | (with_reducible refine Kd.C_alloc ?_ _) | (with_reducible refine Kd.C_drewN ?_ _) | (with_reducible refine Kd.C_drew ?_))); (case side2 => exact HC373_0.out); rintro e w19 ⟨v376, rfl, ho0, hb⟩; refine ⟨_, rfl, ?_⟩; have n0_ := Aside0.mk (Kd.R_below (by (with_reducible repeat (first | apply Kd.R_alloc | apply Kd.R_drewN | apply Kd.R_drew)); exact HO368.out) hb); have n1_ := Aside0.mk (Kd.R_elder' (by (with_reducible repeat (first | apply Kd.R_alloc | apply Kd.R_drewN | apply Kd.R_drew)); exact HO372.out) (Kd.R_base ho0) hb); have n2_ := Aside0.mk (Kd.R_lower (Kd.R_new' ho0 (Kd.R_lt (by (with_reducible repeat (first | apply Kd.R_alloc | apply Kd.R_drewN | apply Kd.R_drew)); exact HO372.out))) (below_size (by repeat (first | (with_reducible first | exact HB.out | apply below_alloc | apply pw_below_drewN | apply below_drew1) | exact HB.out)))); have n3_ := Aside0.mk (below_step (by repeat (first | (with_reducible first | exact HB.out | apply below_alloc | apply pw_below_drewN | apply below_drew1) | exact HB.out)) hb); clear HO368; clear HO372; clear HB; have HO368 := n0_; have HO372 := n1_; have HO377 := n2_; have HB := n3_; clear n0_ n1_ n2_ n3_; (try clear hb); (try clear hb2); (try clear hk); (try clear hi); (try clear ho0)) | ((with_reducible refine gate_callee (f := 20) rfl ?_); refine goesL_ (some 69) rfl rfl Try.func20 (by kernel_rfl) rfl #[.slice Ao17 t366.length co17] rfl (by (try simp only [List.map_toArray, List.map_cons, List.map_nil]); first | done | rfl | (simp only [List.length_drop, List.length_take]; rfl)) ?_; (with_reducible refine (stemma_Print.calls k1 _ _ t366 t378 t379 _ ?side1 ?side2 A7.out).mono ?_); (case side1 => repeat (first | exact (Kd.R_reads' HO368.out).2.2 | (with_reducible refine Kd.C_alloc ?_ _) | (with_reducible refine Kd.C_drewN ?_ _) | (with_reducible refine Kd.C_drew ?_))); (case side2 => exact (Kd.R_reads' HO368.out).2.1); rintro e w20 ⟨rfl, hb⟩; refine ⟨_, rfl, ?_⟩; have n0_ := Aside0.mk (Kd.R_below (by (with_reducible repeat (first | apply Kd.R_alloc | apply Kd.R_drewN | apply Kd.R_drew)); exact HO368.out) hb); have n1_ := Aside0.mk (Kd.R_below (by (with_reducible repeat (first | apply Kd.R_alloc | apply Kd.R_drewN | apply Kd.R_drew)); exact HO372.out) hb); have n2_ := Aside0.mk (Kd.R_below (by (with_reducible repeat (first | apply Kd.R_alloc | apply Kd.R_drewN | apply Kd.R_drew)); exact HO377.out) hb); have n3_ := Aside0.mk (below_step (by repeat (first | (with_reducible first | exact HB.out | apply below_alloc | apply pw_below_drewN | apply below_drew1) | exact HB.out)) hb); clear HO368; clear HO372; clear HO377; clear HB; have HO368 := n0_; have HO372 := n1_; have HO377 := n2_; have HB := n3_; clear n0_ n1_ n2_ n3_; (try clear hb); (try clear hb2); (try clear hk); (try clear hi); have p380 : 0 ≤ (x11_1 : Int) := of_decide_eq_true (by first | (with_reducible assumption) | assumption); have q380 : x11_1 < (ls.length : Int) := of_decide_eq_true (by first | (with_reducible assumption) | assumption); obtain ⟨ad380, A380_0, c380_0, e380, hx380_0, hl380_0, hi380_0⟩ := at_L8 HRa.out x11_1 p380 q380; obtain rfl : ad365 = ad380 := (by injection e380); replace hx380_0 := (HB.out.cell (World.block_lt_of_cell? wq _ hx380_0)).trans hx380_0; have HR380_0 := Aside0.mk hi380_0; have HC380_0 := Aside0.mk hl380_0; clear hi380_0 hl380_0; replace p380 := eq_true p380; replace q380 := eq_true q380) | ((with_reducible refine gate_callee (f := 21) rfl ?_); refine goesL_ (some 77) rfl rfl Try.func21 (by kernel_rfl) rfl #[.slice A380_0 (rd_L8 ls x11_1).length c380_0] rfl (by (try simp only [List.map_toArray, List.map_cons, List.map_nil]); first | done | rfl | (simp only [List.length_drop, List.length_take]; rfl)) ?_; (with_reducible refine (cippusref07_Print.calls k1 _ _ (rd_L8 ls x11_1) t381 t382 _ ?side1 ?side2 A8.out).mono ?_); (case side1 => repeat (first | exact (Kd.C_below HR380_0.out HB.out) | (with_reducible refine Kd.C_alloc ?_ _) | (with_reducible refine Kd.C_drewN ?_ _) | (with_reducible refine Kd.C_drew ?_))); (case side2 => exact HC380_0.out); rintro e w21 ⟨rfl, hb⟩; refine ⟨_, rfl, ?_⟩; have n0_ := Aside0.mk (Kd.R_below (by (with_reducible repeat (first | apply Kd.R_alloc | apply Kd.R_drewN | apply Kd.R_drew)); exact HO368.out) hb); have n1_ := Aside0.mk (Kd.R_below (by (with_reducible repeat (first | apply Kd.R_alloc | apply Kd.R_drewN | apply Kd.R_drew)); exact HO372.out) hb); have n2_ := Aside0.mk (Kd.R_below (by (with_reducible repeat (first | apply Kd.R_alloc | apply Kd.R_drewN | apply Kd.R_drew)); exact HO377.out) hb); have n3_ := Aside0.mk (below_step (by repeat (first | (with_reducible first | exact HB.out | apply below_alloc | apply pw_below_drewN | apply below_drew1) | exact HB.out)) hb); clear HO368; clear HO372; clear HO377; clear HB; have HO368 := n0_; have HO372 := n1_; have HO377 := n2_; have HB := n3_; clear n0_ n1_ n2_ n3_; (try clear hb); (try clear hb2); (try clear hk); (try clear hi); obtain ⟨Ao22, co22, eo22⟩ := Kd.R_slice HO372.out; subst eo22; obtain ⟨Ao23, co23, eo23⟩ := Kd.R_slice HO377.out; subst eo23) | (go_at_call 22; (with_reducible refine (cippuskit_SameTexts.calls k1 _ _ t369 _ _ t374 true _ ?side1 ?side2 ?side3 ?side4 A12.out).mono ?_); (case side1 => repeat (first | exact (Kd.R_reads' HO372.out).2.2 | (with_reducible refine Kd.C_alloc ?_ _) | (with_reducible refine Kd.C_drewN ?_ _) | (with_reducible refine Kd.C_drew ?_))); (case side2 => exact (Kd.R_reads' HO372.out).2.1); (case side3 => repeat (first | exact (Kd.R_reads' HO377.out).2.2 | (with_reducible refine Kd.C_alloc ?_ _) | (with_reducible refine Kd.C_drewN ?_ _) | (with_reducible refine Kd.C_drew ?_))); (case side4 => exact (Kd.R_reads' HO377.out).2.1); rintro e w' ⟨rfl, ⟨nd, rfl⟩⟩; have p384 : 0 ≤ (x11_1 : Int) := of_decide_eq_true (by first | (with_reducible assumption) | assumption); have q384 : x11_1 < (ls.length : Int) := of_decide_eq_true (by first | (with_reducible assumption) | assumption); obtain ⟨ad384, A384_0, c384_0, e384, hx384_0, hl384_0, hi384_0⟩ := at_L8 HRa.out x11_1 p384 q384; obtain rfl : ad365 = ad384 := (by injection e384); replace hx384_0 := (HB.out.cell (World.block_lt_of_cell? wq _ hx384_0)).trans hx384_0; have HR384_0 := Aside0.mk hi384_0; have HC384_0 := Aside0.mk hl384_0; clear hi384_0 hl384_0; replace p384 := eq_true p384; replace q384 := eq_true q384) | (go_at_call 23; (with_reducible refine (cippuskit_SameCopies.calls k1 _ _ t366 _ _ (rd_L8 ls x11_1) true _ ?side1 ?side2 ?side3 ?side4 A14.out).mono ?_); (case side1 => repeat (first | exact (Kd.R_reads' HO368.out).2.2 | (with_reducible refine Kd.C_alloc ?_ _) | (with_reducible refine Kd.C_drewN ?_ _) | (with_reducible refine Kd.C_drew ?_))); (case side2 => exact (Kd.R_reads' HO368.out).2.1); (case side3 => repeat (first | exact (Kd.C_below HR384_0.out (by repeat (first | (with_reducible first | exact HB.out | apply below_alloc | apply pw_below_drewN | apply below_drew1) | exact HB.out))) | (with_reducible refine Kd.C_alloc ?_ _) | (with_reducible refine Kd.C_drewN ?_ _) | (with_reducible refine Kd.C_drew ?_))); (case side4 => exact HC384_0.out); rintro e w' ⟨rfl, ⟨nd, rfl⟩⟩))
                              go_roundg k1
                              case measure => have := HK1.out; omega
                              case rel => exact ⟨(wrap64 (x11_1 + 1)), (by first | rfl | (simp; done) | (simp [*]; done)), H', ⟨by have := HK1.out; omega⟩, ⟨by repeat (first | (with_reducible first | exact HB.out | apply below_alloc | apply pw_below_drewN | apply below_drew1) | exact HB.out)⟩⟩
                            · replace c15 := Bool.eq_false_iff.mpr c15
                              subst c15
                              have H1 : (some false) = some true := by rw [if_neg (show ¬ (false = true) by decide)] at H; exact H
                              clear H
                              have H := H1
                              clear H1
                              exact absurd (Option.some.inj H) (by decide)
                          · replace c13 := Bool.eq_false_iff.mpr c13
                            subst c13
                            have H1 : (some false) = some true := by rw [if_neg (show ¬ (false = true) by decide)] at H; exact H
                            clear H
                            have H := H1
                            clear H1
                            exact absurd (Option.some.inj H) (by decide)
                        · rw [if_neg c11] at H
                          have c11b0 : (t379 == t382) = false := beq_eq_false_iff_ne.mpr c11
                          have c11b1 : (t379 != t382) = true := bne_iff_ne.mpr c11
                          exact absurd (Option.some.inj H) (by decide)
                      · rw [if_neg c10] at H
                        have c10b0 : (t378.toList == t381.toList) = false := beq_eq_false_iff_ne.mpr c10
                        have c10b1 : (t378.toList != t381.toList) = true := bne_iff_ne.mpr c10
                        exact absurd (Option.some.inj H) (by decide)
                    · rw [if_neg c9] at H
                      have c9b0 : (t370 == t375) = false := beq_eq_false_iff_ne.mpr c9
                      have c9b1 : (t370 != t375) = true := bne_iff_ne.mpr c9
                      exact absurd (Option.some.inj H) (by decide)
                  · rw [if_neg c3] at H
                    exact absurd H (by simp)
                · rw [if_neg c2] at H
                  have c2b0 : decide (x11_1 < (ls.length : Int)) = false := decide_eq_false c2
                  clear c2
                  clear H
                  go_wp2
                  go_meet
                  case rel => exact ⟨below_step HBw.out (by repeat (first | (with_reducible first | exact HB.out | apply below_alloc | apply pw_below_drewN | apply below_drew1) | exact HB.out))⟩
          case rest =>
            have HB := hcut
            clear hcut
            go_wp2_with (first | ((with_reducible refine gate_callee (f := 17) rfl ?_); refine goesL_ (some 108) rfl rfl Try.func17 (by kernel_rfl) rfl #[] rfl (by (try simp only [List.map_toArray, List.map_cons, List.map_nil]); first | done | rfl) ?_; (with_reducible refine (cippuslaw07_found.calls kj7  t395 _ A37.out).mono ?_); rintro e w39 ⟨rfl, hb⟩; refine ⟨_, rfl, ?_⟩; have n0_ := Aside0.mk (below_step (by repeat (first | (with_reducible first | exact HB.out | apply below_alloc | apply pw_below_drewN | apply below_drew1) | exact HB.out)) hb); clear HB; have HB := n0_; clear n0_ hb))
            go_ret
            exact ⟨rfl, by repeat (first | (with_reducible first | exact HB.out | apply below_alloc | apply pw_below_drewN | apply below_drew1) | exact HB.out)⟩
  · rw [if_neg c7] at H
    exact absurd H (by simp)
end Go.Proofs.Ytegjollhajgcdaa.P
namespace Go.Proofs.Ytegjollhajgcdaa.P
open Go.RowKit Go.Deep Go.ChangeShapes Go.WideShapes Go.Proofs.YtegjollhajgcdaaW.PrintWords Go.Proofs.YtegjollhajgcdaaW.PrintLast Go.Proofs.YtegjollhajgcdaaW.PrintMore
set_option linter.unusedVariables false
set_option linter.unusedSimpArgs false
section
variable {H : Type} {enc : TypeId × Value → H} {w : World} {base : Nat} {spare : Nat → Bool} {held : Bool}
theorem cells24_ : Try.prog.cellsOf 24 = 3 := by kernel_rfl
theorem cells9_ : Try.prog.cellsOf 9 = 1 := by kernel_rfl
theorem cells3_ : Try.prog.cellsOf 3 = 1 := by kernel_rfl
theorem cells4_ : Try.prog.cellsOf 4 = 1 := by kernel_rfl
set_option maxRecDepth 100000 in
theorem open_copy {fuel : Nat} {cs : List Value} {x : DataW H × List MemPlace} (h : DataW.trod enc Try.prog w base spare held fuel 24 cs = some x) (hlen : cs.length = 3) : ∃ y : S24, cs = [.string y.f0, .int .i64 y.f1, .bool y.f2] := by
  obtain ⟨y0, y1, y2, k, hxy, _, u0, u1, u2⟩ := trod_struct3 Try.underlying24 h
  match cs, hlen with
  | [v0, v1, v2], _ =>
    simp only [cells9_, cells3_, cells4_, List.drop, List.take] at u0 u1 u2
    obtain ⟨s, e0, d0, _⟩ := DataW.trod_string Try.underlying9 u0
    obtain ⟨q, e1, d1, _⟩ := DataW.trod_int Try.underlying3 u1
    obtain ⟨b, e2, d2⟩ := DataW.trod_bool Try.underlying4 u2
    simp only [List.cons.injEq, and_true] at e0 e1 e2
    subst e0; subst e1; subst e2
    exact ⟨⟨s, q, b⟩, rfl⟩
set_option maxRecDepth 100000 in
theorem open_copies {a : Option Addr} {len cap : Nat} {d : DataW H} {ps : List MemPlace} (h : DataW.Trod enc Try.prog w base spare held 22 (.slice a len cap) d ps) : ∃ xs : List S24, xs.length = len ∧ len ≤ cap ∧ k24.C w a xs.length xs := by
  obtain ⟨fuel, hf⟩ := h
  rcases open_slice Try.underlying22 hf with ⟨hcs, _⟩ | ⟨a', l, c, m, n, D, Pl, hcs, _, hl, hm, hmm, _, hx⟩
  · simp [Value.cells] at hcs
    obtain ⟨rfl, rfl, rfl⟩ := hcs
    exact ⟨[], rfl, Nat.le_refl _, Kd.C_nil _ _⟩
  · simp [Value.cells] at hcs
    obtain ⟨rfl, rfl, rfl⟩ := hcs
    have hlm : len ≤ m := by rw [hmm]; split <;> omega
    have each : ∀ i, i < len → ∃ y : S24, ∀ j u, [Value.string y.f0, .int .i64 y.f1, .bool y.f2][j]? = some u → w.cell? (a'.add (i * 3 + j)) = some u := by
      intro i hi
      obtain ⟨cs', h1, h2⟩ := hx i (by omega)
      rw [cells24_] at h1
      obtain ⟨_, hlen, hcell⟩ := World.cells?_some h1
      obtain ⟨y, rfl⟩ := open_copy h2 hlen
      refine ⟨y, fun j u hu => ?_⟩
      have hj : j < 3 := by
        rw [List.getElem?_eq_some_iff] at hu
        exact hu.1
      have := hcell j hj
      rw [Go.Deep.add_add] at this
      rw [this]
      exact hu
    have hcap : cap ≤ 9223372036854775807 := hm
    haveI : Inhabited S24 := ⟨z24⟩
    obtain ⟨f, hf⟩ := choose_lt each
    have hxl : ((List.range len).map f).length = len := by simp
    refine ⟨(List.range len).map f, hxl, hl, rfl, by omega, fun _ => ⟨a', rfl, fun j p hp => ?_⟩⟩
    have hj : j < len := by
      rw [List.getElem?_eq_some_iff] at hp
      obtain ⟨h1, _⟩ := hp
      simpa using h1
    have e : p = f j := by
      rw [List.getElem?_map, List.getElem?_range hj] at hp
      simpa using hp.symm
    subst e
    exact ⟨_, rfl, k24_mk w (f j), fun i u hu => hf j hj i u hu⟩
set_option maxRecDepth 100000 in
theorem open_one {v : Value} {b0 : Nat} {d : DataW H} {ps : List MemPlace} (hval : Value.okWide Try.prog w .any b0 24 v) (h : DataW.Trod enc Try.prog w base spare held 24 v d ps) : ∃ s n b, v = .agg #[.string s, .int .i64 n, .bool b] := by
  obtain ⟨cs, rfl, hs⟩ := okWide_struct Try.underlying24 hval
  rw [cells24_] at hs
  obtain ⟨fuel, hf⟩ := h
  obtain ⟨y, hy⟩ := open_copy hf (by simpa [Value.cells] using hs)
  simp only [Value.cells] at hy
  refine ⟨y.f0, y.f1, y.f2, ?_⟩
  first | (rw [hy]; done) | (congr 1; first | exact hy | (apply Array.ext'; rw [hy]))
end
end Go.Proofs.Ytegjollhajgcdaa.P
namespace Go.Proofs.YtegjollhajgcdaaW.PrintWords
open Go.ChangeShapes Go.WideShapes
theorem sized_ints {H : Type} {enc : TypeId × Value → H} {P : Program} {W : World} {base : Nat} {spare : Nat → Bool} {held : Bool} {t e : TypeId} {k : IntKind} {a : Option Addr} {len cap : Nat} {d : DataW H} {ps : List MemPlace} {ts : List TypeId} {ds : List (DataW H)} {j : Nat}
    (hsz : (DataW.weightsEach P ts ds).all (· ≤ reachBytes) = true) (ht : ts[j]? = some t) (hd : ds[j]? = some d) (hu : P.underlying t = some (.slice e)) (he : P.underlying e = some (.int k)) (hc : P.cellsOf e = 1) {B : Nat} (hB : P.bytesOf e = B)
    (h : DataW.Trod enc P W base spare held t (.slice a len cap) d ps) : len * B ≤ 140737488351232 := by
  obtain ⟨fuel, hf⟩ := h
  rcases open_ints hu he hc hf with ⟨hcs, _⟩ | ⟨x, l, c, zs, hcs, _, hl, _, hz, hx, _, _⟩
  · simp [Value.cells] at hcs
    obtain ⟨rfl, rfl, rfl⟩ := hcs
    simp
  · simp [Value.cells] at hcs
    obtain ⟨rfl, rfl, rfl⟩ := hcs
    obtain ⟨hx, _⟩ := Prod.mk.inj hx
    subst hx
    have z := sized_slice hsz ht hd hu
    rw [hB] at z
    have hl2 : len ≤ zs.length := by
      rw [hz]
      split
      · exact hl
      · exact Nat.le_refl _
    have h1 : (lits (H := H) k (zs.take len)).length + (lits (H := H) k (zs.drop len)).length = zs.length := by
      simp [lits]
      omega
    rw [h1] at z
    exact Nat.le_trans (Nat.mul_le_mul_right _ hl2) z
end Go.Proofs.YtegjollhajgcdaaW.PrintWords
