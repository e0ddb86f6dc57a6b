/- Lemmas for the statement StemmaSources of the given program, for every input that its row lets in. Conditions: none beyond those that each lemma tells. -/
import Derived.BigQuiet
import Derived.Test.YtegjollhajgcdaaMStemmaSources5
set_option linter.unusedVariables false
set_option linter.unusedSimpArgs false
namespace Go.Proofs.Ytegjollhajgcdaa.P.OwnSt
open Go.RowKit Go.Proofs.YtegjollhajgcdaaW.PrintWords Go.Proofs.YtegjollhajgcdaaW.PrintLast Go.Proofs.YtegjollhajgcdaaW.PrintMore
open OwnUrn
set_option linter.unusedVariables false
set_option linter.unusedSimpArgs false
theorem wrap_u64_range (n : Int) : 0 ≤ IntKind.u64.wrap n ∧ IntKind.u64.wrap n < 18446744073709551616 := by
  have h : IntKind.u64.wrap n = n % 18446744073709551616 := by simp [IntKind.wrap, IntKind.bits, IntKind.signed]
  rw [h]
  omega
theorem wrap_u64_small {n : Int} (h0 : 0 ≤ n) (h1 : n < 18446744073709551616) : IntKind.u64.wrap n = n := by
  have h : IntKind.u64.wrap n = n % 18446744073709551616 := by simp [IntKind.wrap, IntKind.bits, IntKind.signed]
  rw [h]
  omega
theorem turn_ok (a b : Int) : ∃ v a' b', cippuskit_Urn_turn.f a b = some (v, a', b') ∧ 0 ≤ v ∧ v < 18446744073709551616 := by
  unfold cippuskit_Urn_turn.f
  split
  · exact ⟨_, _, _, rfl, wrap_u64_range _⟩
  · exact ⟨_, _, _, rfl, wrap_u64_range _⟩
theorem up_ok (a b n : Int) (hn : n ≤ 1000) : ∃ v a' b', cippuskit_Urn_Up.f a b n = some (v, a', b') ∧ 0 ≤ v ∧ (v < n ∨ v = 0) := by
  unfold cippuskit_Urn_Up.f
  by_cases h : n < 2
  · rw [if_pos h]
    exact ⟨0, a, b, rfl, Int.le_refl _, .inr rfl⟩
  · rw [if_neg h]
    obtain ⟨v, a', b', e, h0, h1⟩ := turn_ok a b
    rw [e, Option.bind_some, wrap_u64_small (by omega) (by omega), if_neg (by omega)]
    have h2 : 0 ≤ v / 2048 := by omega
    have h3 : Int.tmod (v / 2048) n = (v / 2048) % n := Int.tmod_eq_emod_of_nonneg h2
    have h4 := Int.emod_nonneg (v / 2048) (show n ≠ 0 by omega)
    have h5 := Int.emod_lt_of_pos (v / 2048) (show 0 < n by omega)
    refine ⟨_, _, _, rfl, ?_⟩
    show 0 ≤ wrap64 (Int.tmod (v / 2048) n) ∧ (wrap64 (Int.tmod (v / 2048) n) < n ∨ _)
    rw [h3, wrap64_small h4 (by omega)]
    exact ⟨h4, .inl h5⟩
theorem from_ok (a b lo hi : Int) (h0 : -1000 ≤ lo) (h1 : lo ≤ 1000) (h2 : -1000 ≤ hi) (h3 : hi ≤ 900 + lo) : ∃ v a' b', cippuskit_Urn_From.f a b lo hi = some (v, a', b') ∧ lo ≤ v ∧ (v ≤ hi ∨ v = lo) := by
  unfold cippuskit_Urn_From.f
  have e1 : wrap64 (hi - lo) = hi - lo := by simp [wrap64]; omega
  have e2 : wrap64 (hi - lo + 1) = hi - lo + 1 := by simp [wrap64]; omega
  rw [e1, e2]
  obtain ⟨v, a', b', e, h4, h5⟩ := up_ok a b (hi - lo + 1) (by omega)
  rw [e, Option.bind_some]
  refine ⟨_, _, _, rfl, ?_⟩
  have e3 : wrap64 (lo + v) = lo + v := by simp [wrap64]; omega
  show lo ≤ wrap64 (lo + v) ∧ (wrap64 (lo + v) ≤ hi ∨ wrap64 (lo + v) = lo)
  rw [e3]
  omega
theorem odds_ok (a b n m : Int) (hm : m ≤ 1000) : ∃ v a' b', cippuskit_Urn_Odds.f a b n m = some (v, a', b') := by
  unfold cippuskit_Urn_Odds.f
  obtain ⟨v, a', b', e, _⟩ := up_ok a b m hm
  rw [e, Option.bind_some]
  exact ⟨_, _, _, rfl⟩
def diffL (b c : List Int) : Nat → Nat
  | 0 => 0
  | m + 1 => diffL b c m + if b.getD m 0 = c.getD m 0 then 0 else 1
theorem diffL_tri (a b c : List Int) : ∀ m, diffL a c m ≤ diffL a b m + diffL b c m := by
  intro m
  induction m with
  | zero => simp [diffL]
  | succ m ih =>
    unfold diffL
    by_cases h1 : a.getD m 0 = b.getD m 0
    · by_cases h2 : b.getD m 0 = c.getD m 0
      · rw [if_pos h1, if_pos h2, if_pos (h1.trans h2)]; omega
      · rw [if_pos h1, if_neg h2, if_neg (fun h => h2 (h1.symm.trans h))]; omega
    · rw [if_neg h1]
      split <;> split <;> omega
theorem diffL_self (a : List Int) : ∀ m, diffL a a m = 0 := by
  intro m
  induction m with
  | zero => rfl
  | succ m ih => unfold diffL; rw [ih, if_pos rfl]
theorem diffL_set (a : List Int) (i : Nat) (v : Int) : ∀ m, diffL a (a.set i v) m ≤ if i < m then 1 else 0 := by
  intro m
  induction m with
  | zero => simp [diffL]
  | succ m ih =>
    unfold diffL
    by_cases e : m = i
    · subst e
      rw [if_neg (by omega)] at ih
      rw [show (if m < m + 1 then 1 else 0) = 1 from if_pos (by omega)]
      split <;> omega
    · have h : (a.set i v).getD m 0 = a.getD m 0 := by
        rw [List.getD_eq_getElem?_getD, List.getD_eq_getElem?_getD, List.getElem?_set_ne (fun h => e h.symm)]
      rw [h, if_pos rfl]
      split at ih <;> split <;> omega
def letL (b : List Int) : Prop := ∀ x ∈ b, 65 ≤ x ∧ x ≤ 67
theorem erredGo_ok : ∀ (n : Nat) (b : List Int) (s0 s1 : Int), letL b → 1 ≤ b.length → b.length ≤ 100 → ∃ r s0' s1', erredGo n b s0 s1 = some (r, s0', s1') ∧ letL r ∧ r.length = b.length ∧ diffL b r b.length ≤ n := by
  intro n
  induction n with
  | zero => intro b s0 s1 h _ _; exact ⟨b, s0, s1, rfl, h, rfl, by rw [diffL_self]; exact Nat.le_refl _⟩
  | succ n ih =>
    intro b s0 s1 h h1 h2
    unfold erredGo
    obtain ⟨v, a', b', e, h3, h4⟩ := up_ok s0 s1 (b.length : Int) (by omega)
    rw [e, Option.bind_some]
    obtain ⟨u, a2, b2, e2, h5, h6⟩ := up_ok a' b' 3 (by omega)
    rw [e2, Option.bind_some, if_pos ⟨h3, by omega⟩]
    have e3 : wrap64 (65 + u) % 256 = 65 + u := by rw [wrap64_small (by omega) (by omega)]; omega
    rw [e3]
    obtain ⟨r, s0', s1', e4, h7, h8, h9⟩ := ih (b.set v.toNat (65 + u)) a2 b2 (fun x hx => by
      rcases List.mem_or_eq_of_mem_set hx with hx | rfl
      · exact h x hx
      · omega) (by rw [List.length_set]; exact h1) (by rw [List.length_set]; exact h2)
    rw [List.length_set] at h8 h9
    refine ⟨r, s0', s1', e4, h7, h8, ?_⟩
    have t := diffL_tri b (b.set v.toNat (65 + u)) r b.length
    have s := diffL_set b v.toNat (65 + u) b.length
    split at s <;> omega
theorem bt_str (xs : List Int) (p : Nat) (hx : ∀ x ∈ xs, 0 ≤ x ∧ x ≤ 255) (hp : p < xs.length) : bt (strOfNums xs) (p : Int) = xs.getD p 0 := by
  have hs : p < (strOfNums xs).size := by rw [strOfNums_size]; exact hp
  rw [← bt_at (strOfNums xs) (p : Int) (by simpa using hs)]
  have h1 : ((strOfNums xs)[(p : Int).toNat]'(by simpa using hs)) = UInt8.ofNat (xs.getD p 0).toNat := by
    show (strOfNums xs).data[(p : Int).toNat]'_ = _
    simp [strOfNums, List.getD_eq_getElem?_getD, List.getElem?_eq_getElem hp]
  rw [h1]
  have h2 := hx (xs.getD p 0) (by rw [List.getD_eq_getElem?_getD, List.getElem?_eq_getElem hp]; exact List.getElem_mem hp)
  revert h2
  generalize xs.getD p 0 = z
  intro h2
  simp
  omega
theorem bytesOf_get (b : ByteArray) (p : Nat) : (bytesOf b).getD p 0 = bt b (p : Int) := by
  rw [← rd_bytesOf]
  rfl
def letB (b : ByteArray) : Prop := ∀ p : Nat, p < b.size → 65 ≤ bt b (p : Int) ∧ bt b (p : Int) ≤ 67
theorem letB_list {b : ByteArray} (h : letB b) : letL (bytesOf b) := by
  intro x hx
  obtain ⟨p, hp, rfl⟩ := List.getElem_of_mem hx
  have h2 := h p (by rw [← bytesOf_length]; exact hp)
  rw [← bytesOf_get, List.getD_eq_getElem?_getD, List.getElem?_eq_getElem hp] at h2
  exact h2
theorem letL_str {xs : List Int} (h : letL xs) : letB (strOfNums xs) := by
  intro p hp
  rw [strOfNums_size] at hp
  rw [bt_str xs p (fun x hx => by have := h x hx; omega) hp]
  exact h _ (by rw [List.getD_eq_getElem?_getD, List.getElem?_eq_getElem hp]; exact List.getElem_mem hp)
theorem apN_diff (b : ByteArray) (r : List Int) (hr : letL r) : ∀ m, m ≤ r.length → apN b (strOfNums r) m = (diffL (bytesOf b) r m : Int) := by
  intro m
  induction m with
  | zero => intro _; simp [apN, diffL]
  | succ m ih =>
    intro hm
    rw [apN_succ, ih (by omega), diffL, bt_str r m (fun x hx => by have := hr x hx; omega) (by omega), bytesOf_get]
    split <;> simp
theorem erred_ok (s0 s1 : Int) (a : ByteArray) (e : Int) (ha : letB a) (h1 : 1 ≤ a.size) (h2 : a.size ≤ 100) (he : 0 ≤ e) (he2 : e ≤ 1000) : ∃ t s0' s1', erred s0 s1 a e = some (t, s0', s1') ∧ letB t ∧ t.size = a.size ∧ apN a t a.size ≤ e := by
  unfold erred
  rw [if_pos ⟨by omega, by omega⟩]
  obtain ⟨r, s0', s1', e1, h3, h4, h5⟩ := erredGo_ok e.toNat (bytesOf a) s0 s1 (letB_list ha) (by rw [bytesOf_length]; exact h1) (by rw [bytesOf_length]; exact h2)
  rw [e1]
  rw [bytesOf_length] at h4 h5
  refine ⟨_, _, _, rfl, letL_str h3, by rw [strOfNums_size]; exact h4, ?_⟩
  rw [apN_diff a r h3 _ (by omega)]
  omega
theorem stoneGo_ok : ∀ (n : Nat) (a b : Int) (s : ByteArray), letB s → s.size + n ≤ 100 → ∃ t a' b', stoneGo n a b s = some (t, a', b') ∧ letB t ∧ t.size = s.size + n := by
  intro n
  induction n with
  | zero => intro a b s h _; exact ⟨s, a, b, rfl, h, rfl⟩
  | succ n ih =>
    intro a b s h hs
    unfold stoneGo
    obtain ⟨u, a2, b2, e2, h5, h6⟩ := up_ok a b 3 (by omega)
    rw [e2, Option.bind_some, if_pos (by omega)]
    have e3 : wrap64 (65 + u) % 256 = 65 + u := by rw [wrap64_small (by omega) (by omega)]; omega
    show ∃ t a' b', stoneGo n a2 b2 (s ++ strOfNums [wrap64 (65 + u) % 256]) = some (t, a', b') ∧ _
    rw [e3]
    have hsz : (s ++ strOfNums [65 + u]).size = s.size + 1 := by rw [ByteArray.size_append, strOfNums_size]; rfl
    obtain ⟨t, a', b', e4, h7, h8⟩ := ih a2 b2 (s ++ strOfNums [65 + u]) (fun p hp => by
      by_cases hp2 : p < s.size
      · have e5 : bt (s ++ strOfNums [65 + u]) (p : Int) = bt s (p : Int) := by
          rw [← bt_at _ (p : Int) (by simpa using hp), ← bt_at s (p : Int) (by simpa using hp2)]
          simp only [Int.toNat_natCast]
          rw [ByteArray.getElem_append_left hp2]
        rw [e5]
        exact h p hp2
      · have hpe : p = s.size := by omega
        have e5 : bt (s ++ strOfNums [65 + u]) (p : Int) = 65 + u := by
          rw [← bt_at _ (p : Int) (by simpa using hp)]
          simp only [Int.toNat_natCast]
          rw [ByteArray.getElem_append_right (by omega)]
          have h9 := bt_str [65 + u] 0 (fun x hx => by simp at hx; omega) (by simp)
          rw [← bt_at _ ((0 : Nat) : Int) (by rw [strOfNums_size]; simp)] at h9
          simpa [hpe] using h9
        rw [e5]
        omega) (by omega)
    exact ⟨t, a', b', e4, h7, by omega⟩
def fromOf (st : ByteArray) (l : List S24) (f : Int) : ByteArray := if f < 0 then st else (rd_T24 l f).f0
structure MadeOk (er : Int) (st : ByteArray) (l : List S24) (src : List Int) : Prop where
  len : src.length = l.length
  one : ∀ i : Nat, i < l.length → (letB (rd_T24 l (i : Int)).f0 ∧ (rd_T24 l (i : Int)).f0.size = st.size) ∧ (0 ≤ (rd_T24 l (i : Int)).f1 ∧ (rd_T24 l (i : Int)).f1 ≤ er) ∧ (-1 ≤ src.getD i 0 ∧ src.getD i 0 < i) ∧ (src.getD i 0 < 0 → (rd_T24 l (i : Int)).f2 = true) ∧ apN (fromOf st l (src.getD i 0)) (rd_T24 l (i : Int)).f0 st.size ≤ (rd_T24 l (i : Int)).f1
theorem rd_snoc_lt (l : List S24) (x : S24) (i : Int) (h0 : 0 ≤ i) (h : i < l.length) : rd_T24 (l ++ [x]) i = rd_T24 l i := by
  unfold rd_T24
  rw [List.getD_eq_getElem?_getD, List.getD_eq_getElem?_getD, List.getElem?_append_left (by omega)]
theorem rd_snoc_eq (l : List S24) (x : S24) : rd_T24 (l ++ [x]) (l.length : Int) = x := by
  unfold rd_T24
  rw [List.getD_eq_getElem?_getD, Int.toNat_natCast, List.getElem?_append_right (Nat.le_refl _)]
  simp
theorem MadeOk.snoc {er : Int} {st : ByteArray} {l : List S24} {src : List Int} (h : MadeOk er st l src) (x : S24) (f : Int) (hx : letB x.f0 ∧ x.f0.size = st.size) (he : 0 ≤ x.f1 ∧ x.f1 ≤ er) (hf : -1 ≤ f ∧ f < l.length) (hs : f < 0 → x.f2 = true) (ha : apN (fromOf st l f) x.f0 st.size ≤ x.f1) : MadeOk er st (l ++ [x]) (src ++ [f]) := by
  refine ⟨by simp [h.len], fun i hi => ?_⟩
  rw [List.length_append, List.length_singleton] at hi
  by_cases e : i = l.length
  · subst e
    have e1 : (src ++ [f]).getD l.length 0 = f := by
      rw [List.getD_eq_getElem?_getD, List.getElem?_append_right (by rw [h.len]; exact Nat.le_refl _)]
      simp [h.len]
    rw [e1, rd_snoc_eq]
    refine ⟨hx, he, hf, hs, ?_⟩
    have e2 : fromOf st (l ++ [x]) f = fromOf st l f := by
      unfold fromOf
      split
      · rfl
      · rw [rd_snoc_lt l x f (by omega) hf.2]
    rw [e2]
    exact ha
  · have hi2 : i < l.length := by omega
    have e1 : (src ++ [f]).getD i 0 = src.getD i 0 := by
      rw [List.getD_eq_getElem?_getD, List.getD_eq_getElem?_getD, List.getElem?_append_left (by rw [h.len]; exact hi2)]
    have h1 := h.one i hi2
    rw [e1, rd_snoc_lt l x (i : Int) (by omega) (by omega)]
    refine ⟨h1.1, h1.2.1, h1.2.2.1, h1.2.2.2.1, ?_⟩
    have e2 : fromOf st (l ++ [x]) (src.getD i 0) = fromOf st l (src.getD i 0) := by
      unfold fromOf
      split
      · rfl
      · rw [rd_snoc_lt l x _ (by omega) (by have := h1.2.2.1; omega)]
    rw [e2]
    exact h1.2.2.2.2
theorem copyGo_ok (er : Int) (st : ByteArray) (her : 0 ≤ er) (her2 : er ≤ 900) (hst : letB st) (h1 : 1 ≤ st.size) (h2 : st.size ≤ 100) : ∀ (n : Nat) (l : List S24) (src : List Int) (a b : Int), MadeOk er st l src → l.length + n ≤ 100 →
    ∃ l' src' a' b', copyGo n er st l src a b = some (l', src', a', b') ∧ MadeOk er st l' src' ∧ l'.length = l.length + n := by
  intro n
  induction n with
  | zero => intro l src a b h _; exact ⟨l, src, a, b, rfl, h, rfl⟩
  | succ n ih =>
    intro l src a b h hl
    unfold copyGo
    have e0 : wrap64 ((l.length : Int) - 1) = (l.length : Int) - 1 := by simp [wrap64]; omega
    rw [e0]
    obtain ⟨f, a1, b1, e1, f1, f2⟩ := from_ok a b (-1) ((l.length : Int) - 1) (by omega) (by omega) (by omega) (by omega)
    rw [e1, Option.bind_some]
    have e2 : wrap64 (er + 1) = er + 1 := wrap64_small (by omega) (by omega)
    rw [e2]
    obtain ⟨u, a2, b2, e3, u1, u2⟩ := up_ok a1 b1 (er + 1) (by omega)
    show ∃ l' src' a' b', ((cippuskit_Urn_Up.f a1 b1 (er + 1)).bind _) = _ ∧ _
    rw [e3, Option.bind_some]
    obtain ⟨o, a3, b3, e4, o1⟩ : ∃ o a3 b3, (if f < 0 then some (true, a2, b2) else cippuskit_Urn_Odds.f a2 b2 1 2) = some (o, a3, b3) ∧ (f < 0 → o = true) := by
      by_cases hf : f < 0
      · exact ⟨true, a2, b2, if_pos hf, fun _ => rfl⟩
      · obtain ⟨v, a', b', e⟩ := odds_ok a2 b2 1 2 (by omega)
        exact ⟨v, a', b', (if_neg hf).trans e, fun h => absurd h hf⟩
    show ∃ l' src' a' b', ((if f < 0 then some (true, a2, b2) else cippuskit_Urn_Odds.f a2 b2 1 2).bind _) = _ ∧ _
    rw [e4, Option.bind_some]
    have e5 : (if 0 ≤ f then (if f < (l.length : Int) then some (rd_T24 l f).f0 else none) else some st) = some (fromOf st l f) := by
      unfold fromOf
      by_cases hf : f < 0
      · rw [if_neg (by omega), if_pos hf]
      · rw [if_pos (by omega), if_pos (by omega), if_neg hf]
    show ∃ l' src' a' b', ((if 0 ≤ f then (if f < (l.length : Int) then some (rd_T24 l f).f0 else none) else some st).bind _) = _ ∧ _
    rw [e5, Option.bind_some]
    have hfr : letB (fromOf st l f) ∧ (fromOf st l f).size = st.size := by
      unfold fromOf
      split
      · exact ⟨hst, rfl⟩
      · have h3 := h.one f.toNat (by omega)
        rw [show ((f.toNat : Nat) : Int) = f by omega] at h3
        exact h3.1
    obtain ⟨t, a4, b4, e6, t1, t2, t3⟩ := erred_ok a3 b3 (fromOf st l f) u hfr.1 (by rw [hfr.2]; exact h1) (by rw [hfr.2]; exact h2) u1 (by omega)
    show ∃ l' src' a' b', ((erred a3 b3 (fromOf st l f) u).bind _) = _ ∧ _
    rw [e6, Option.bind_some, if_pos (by rw [h.len]; omega)]
    obtain ⟨l', src', a', b', e7, m1, m2⟩ := ih (l ++ [⟨t, u, o⟩]) (src ++ [f]) a4 b4 (h.snoc ⟨t, u, o⟩ f ⟨t1, by rw [t2]; exact hfr.2⟩ ⟨u1, show u ≤ er by omega⟩ ⟨f1, show f < (l.length : Int) by omega⟩ o1 (by rw [hfr.2] at t3; exact t3)) (by simp; omega)
    refine ⟨l', src', a', b', e7, m1, ?_⟩
    rw [m2]
    simp
    omega
theorem copiesOf_ok (s0 s1 copies places er : Int) (h1 : 1 ≤ copies) (h2 : copies ≤ 90) (h3 : 1 ≤ places) (h4 : places ≤ 90) (h5 : 0 ≤ er) (h6 : er ≤ 900) :
    ∃ l st src a b, copiesOf s0 s1 copies places er = some (l, st, src, a, b) ∧ MadeOk er st l src ∧ (1 ≤ l.length ∧ (l.length : Int) ≤ copies) ∧ (1 ≤ st.size ∧ (st.size : Int) ≤ places) ∧ letB st := by
  unfold copiesOf
  obtain ⟨p, a1, b1, e1, p1, p2⟩ := from_ok s0 s1 1 places (by omega) (by omega) (by omega) (by omega)
  rw [e1, Option.bind_some]
  obtain ⟨st, a2, b2, e2, q1, q2⟩ := stoneGo_ok p.toNat a1 b1 ⟨#[]⟩ (fun p hp => by simp [ByteArray.size] at hp) (by simp [ByteArray.size]; omega)
  show ∃ l st src a b, ((stoneGo p.toNat a1 b1 ⟨#[]⟩).bind _) = _ ∧ _
  rw [e2, Option.bind_some]
  obtain ⟨n, a3, b3, e3, n1, n2⟩ := from_ok a2 b2 1 copies (by omega) (by omega) (by omega) (by omega)
  show ∃ l st src a b, ((cippuskit_Urn_From.f a2 b2 1 copies).bind _) = _ ∧ _
  rw [e3, Option.bind_some]
  have hsz : st.size = p.toNat := by rw [q2]; simp [ByteArray.size]
  obtain ⟨l, src, a4, b4, e4, m1, m2⟩ := copyGo_ok er st h5 h6 q1 (by omega) (by omega) n.toNat [] [] a3 b3 ⟨rfl, fun i hi => by simp at hi⟩ (by simp; omega)
  show ∃ l st src a b, ((copyGo n.toNat er _ [] [] a3 b3).map _) = _ ∧ _
  rw [e4]
  refine ⟨l, st, src, a4, b4, rfl, m1, ⟨?_, ?_⟩, ⟨by omega, by omega⟩, q1⟩
  · rw [m2]; simp; omega
  · rw [m2]; simp; omega
theorem newUrn_ok (l : List Int) (h : l.length < 4611686018427387904) : ∃ a b, newUrn l = some (a, b) := by
  unfold newUrn
  rw [if_pos h]
  have : ∀ (l : List Int) (a b : Int), ∃ r, urnGo l a b = some r := by
    intro l
    induction l with
    | nil => intro a b; exact ⟨_, rfl⟩
    | cons x l ih =>
      intro a b
      unfold urnGo
      obtain ⟨v, a', b', e, _⟩ := turn_ok a (IntKind.u64.wrap (b + IntKind.u64.wrap x))
      rw [e, Option.bind_some]
      obtain ⟨v2, a2, b2, e2, _⟩ := turn_ok a' b'
      show ∃ r, ((cippuskit_Urn_turn.f a' b').bind _) = some r
      rw [e2, Option.bind_some]
      exact ih _ _
  obtain ⟨r, hr⟩ := this l 11400714819323198485 14029467366897019727
  exact ⟨r.1, r.2, hr⟩
end Go.Proofs.Ytegjollhajgcdaa.P.OwnSt
namespace Go.Proofs.Ytegjollhajgcdaa.P.OwnSt
open Go.RowKit Go.Proofs.YtegjollhajgcdaaW.PrintWords Go.Proofs.YtegjollhajgcdaaW.PrintLast Go.Proofs.YtegjollhajgcdaaW.PrintMore
set_option linter.unusedVariables false
set_option linter.unusedSimpArgs false
def srcF (src : List Int) (k : Nat) : Int := src.getD k 0
def letF (st : ByteArray) (p : Nat) : Int := if p < st.size then bt st (p : Int) else 65
structure MadeT (er : Int) (st : ByteArray) (l : List S24) (src : List Int) : Prop where
  made : MadeOk er st l src
  er0 : 0 ≤ er
  er3 : er ≤ 3
  one : 1 ≤ l.length
  five : l.length ≤ 5
  low : 1 ≤ st.size
  high : st.size ≤ 8
  letters : letB st
theorem MadeT.first {er : Int} {st : ByteArray} {l : List S24} {src : List Int} (h : MadeT er st l src) : (rd_T24 l 0).f0.size = st.size := (h.made.one 0 h.one).1.2
theorem MadeT.valid {er : Int} {st : ByteArray} {l : List S24} {src : List Int} (h : MadeT er st l src) : Valid l := by
  have h0 := h.first
  refine ⟨h.one, h.five, fun i hi => ?_, by rw [h0]; exact h.low, by rw [h0]; exact h.high, fun i hi => ?_, fun i hi p hp => ?_⟩
  · rw [h0]; exact (h.made.one i hi).1.2
  · have h1 := (h.made.one i hi).2.1
    have := h.er3
    omega
  · have h1 := (h.made.one i hi).1
    have h2 := h1.1 p (by rw [h1.2, ← h0]; exact hp)
    omega
theorem MadeT.tree {er : Int} {st : ByteArray} {l : List S24} {src : List Int} (h : MadeT er st l src) : TreeOk l (srcF src) := by
  refine ⟨fun k hk => ?_, fun k hk => ?_⟩
  · obtain ⟨h1, h2, h3, h4, h5⟩ := h.made.one k hk
    refine ⟨h3.1, h3.2, ?_⟩
    unfold canF srcF
    by_cases e : src.getD k 0 = -1
    · rw [e]
      simp only [beq_self_eq_true, if_true]
      exact h4 (by omega)
    · rw [if_neg (by simpa using e)]
      unfold fromOf at h5
      rw [if_neg (by omega)] at h5
      have h6 := h.made.one (src.getD k 0).toNat (by omega)
      rw [show (((src.getD k 0).toNat : Nat) : Int) = src.getD k 0 by omega] at h6
      rw [h6.1.2]
      exact decide_eq_true h5
  · unfold srcF
    rw [List.getD_eq_getElem?_getD, List.getElem?_eq_none (by rw [h.made.len]; exact hk)]
    rfl
theorem MadeT.apart {er : Int} {st : ByteArray} {l : List S24} {src : List Int} (h : MadeT er st l src) (i : Nat) (hi : srcF src i = -1) : hsum l (srcF src) (letF st) i (rd_T24 l 0).f0.size 0 = apN st (rd_T24 l (i : Int)).f0 st.size := by
  rw [h.first]
  have := hsum_apN (l := l) (t := letF st) hi st st.size (fun p hp => by unfold letF; rw [if_pos hp]) st.size 0 (by omega)
  simpa [apN] using this
theorem MadeT.fit {er : Int} {st : ByteArray} {l : List S24} {src : List Int} (h : MadeT er st l src) : FitT l (srcF src) (letF st) := by
  refine ⟨fun p => ?_, fun i hi h0 => ?_⟩
  · unfold letF
    split
    · rename_i hp
      have := h.letters p hp
      omega
    · omega
  · by_cases e : srcF src i = -1
    · rw [h.apart i e]
      have h5 := (h.made.one i hi).2.2.2.2
      unfold fromOf at h5
      have e' : src.getD i 0 = -1 := e
      rw [e', if_pos (by omega)] at h5
      exact h5
    · exact absurd (hsum_none e _ _) h0
theorem MadeT.known {er : Int} {st : ByteArray} {l : List S24} {src : List Int} (h : MadeT er st l src) : srcF src ∈ knownV l := (known_iff h.valid _).2 ⟨h.tree, _, h.fit⟩
theorem MadeT.knownE {er : Int} {st : ByteArray} {l : List S24} {src : List Int} (h : MadeT er st l src) : knownE l = 0 := knownE_of h.valid h.known
def errSum (l : List S24) (st : ByteArray) (src : List Int) : Nat → Int := sumTo fun i => apN (fromOf st l (src.getD i 0)) (rd_T24 l (i : Int)).f0 (fromOf st l (src.getD i 0)).size
theorem MadeT.cost {er : Int} {st : ByteArray} {l : List S24} {src : List Int} (h : MadeT er st l src) : costT l (srcF src) (letF st) + apTo l (srcF src) l.length = errSum l st src l.length := by
  unfold costT errSum
  rw [cost_sum, apTo_sum, ← sumTo_add]
  refine sumTo_congr _ fun i hi => ?_
  by_cases e : srcF src i = -1
  · rw [h.apart i e]
    have e' : src.getD i 0 = -1 := e
    show _ + (if srcF src i = -1 then 0 else _) = _
    rw [if_pos e, e']
    unfold fromOf
    rw [if_pos (by omega)]
    omega
  · rw [hsum_none e]
    show 0 + (if srcF src i = -1 then 0 else _) = _
    rw [if_neg e]
    have h3 := (h.made.one i hi).2.2.1
    have e' : ¬ src.getD i 0 = -1 := e
    unfold fromOf
    rw [if_neg (by omega)]
    exact Int.zero_add _
theorem MadeT.fewest {er : Int} {st : ByteArray} {l : List S24} {src : List Int} (h : MadeT er st l src) : (fewestV l).1 ≤ errSum l st src l.length := by
  rw [← h.cost]
  exact Int.le_trans (fewest_le h.knownE h.known) (numF_le h.fit)
theorem copiesOf_made (s0 s1 copies places er : Int) (h1 : 1 ≤ copies) (h2 : copies ≤ 5) (h3 : 1 ≤ places) (h4 : places ≤ 8) (h5 : 0 ≤ er) (h6 : er ≤ 3) :
    ∃ l st src a b, OwnUrn.copiesOf s0 s1 copies places er = some (l, st, src, a, b) ∧ MadeT er st l src ∧ (l.length : Int) ≤ copies ∧ (st.size : Int) ≤ places := by
  obtain ⟨l, st, src, a, b, e, m, n, p, q⟩ := copiesOf_ok s0 s1 copies places er h1 (by omega) h3 (by omega) h5 (by omega)
  exact ⟨l, st, src, a, b, e, ⟨m, h5, h6, n.1, by omega, p.1, by omega, q⟩, n.2, p.2⟩
end Go.Proofs.Ytegjollhajgcdaa.P.OwnSt
namespace Go.Proofs.Ytegjollhajgcdaa.P
open Go.RowKit Go.Proofs.YtegjollhajgcdaaW.PrintWords Go.Proofs.YtegjollhajgcdaaW.PrintLast Go.Proofs.YtegjollhajgcdaaW.PrintMore
attribute [local go_sem] max2_int min2_int max_two min_two max_three min_three max_four min_four   -- for this text's walks alone
set_option linter.unusedVariables false
set_option linter.unusedSimpArgs false
end Go.Proofs.Ytegjollhajgcdaa.P
namespace Go.Proofs.Ytegjollhajgcdaa.P
open Go.RowKit Go.Proofs.YtegjollhajgcdaaW.PrintWords Go.Proofs.YtegjollhajgcdaaW.PrintLast Go.Proofs.YtegjollhajgcdaaW.PrintMore
attribute [local go_sem] max2_int min2_int max_two min_two max_three min_three max_four min_four   -- for this text's walks alone
set_option linter.unusedVariables false
set_option linter.unusedSimpArgs false
end Go.Proofs.Ytegjollhajgcdaa.P
namespace Go.Proofs.Ytegjollhajgcdaa.P
open Go.RowKit Go.Proofs.YtegjollhajgcdaaW.PrintWords Go.Proofs.YtegjollhajgcdaaW.PrintLast Go.Proofs.YtegjollhajgcdaaW.PrintMore
attribute [local go_sem] max2_int min2_int max_two min_two max_three min_three max_four min_four   -- for this text's walks alone
set_option linter.unusedVariables false
set_option linter.unusedSimpArgs false
end Go.Proofs.Ytegjollhajgcdaa.P
namespace Go.Proofs.Ytegjollhajgcdaa.P.OwnSt
open Go.RowKit Go.Proofs.YtegjollhajgcdaaW.PrintWords Go.Proofs.YtegjollhajgcdaaW.PrintLast Go.Proofs.YtegjollhajgcdaaW.PrintMore
set_option maxRecDepth 100000 in
set_option maxHeartbeats 4000000 in
theorem found_40 : cippuslaw07_found.f 40 = some true := by kernel_rfl
theorem found_ev : Ev (fun k => cippuslaw07_found.f k) true := Ev.of cippuslaw07_found.mono found_40
end Go.Proofs.Ytegjollhajgcdaa.P.OwnSt
namespace Go.Proofs.Ytegjollhajgcdaa.P.OwnSt
open Go.RowKit Go.Proofs.YtegjollhajgcdaaW.PrintWords Go.Proofs.YtegjollhajgcdaaW.PrintLast Go.Proofs.YtegjollhajgcdaaW.PrintMore
set_option linter.unusedVariables false
set_option linter.unusedSimpArgs false
theorem apart_ev (a b : ByteArray) (hab : a.size ≤ b.size) (h8 : a.size ≤ 1000) : Ev (fun k => cippusref07_Apart.f k a b) (apN a b a.size) := by
  have : ∀ rem i, i + rem = a.size → Ev (fun k => cippusref07_Apart.l0 k a b (apN a b i) (i : Int)) (apN a b a.size) := by
    intro rem
    induction rem with
    | zero =>
      intro i hi
      refine Ev.step (fun k => by rw [cippusref07_Apart.l0]) ?_
      rw [show i = a.size by omega]
      exact Ev.if_neg' (by omega) (Ev.now _)
    | succ rem ih =>
      intro i hi
      refine Ev.step (fun k => by rw [cippusref07_Apart.l0]) ?_
      refine Ev.if_pos' (by omega) (Ev.if_pos' (by omega) (Ev.if_pos' (by omega) ?_))
      have h := ih (i + 1) (by omega)
      have hb := apN_bound a b i
      rw [apN_succ] at h
      rw [wrap64_small (by omega) (by omega)]
      by_cases e : bt a (i : Int) = bt b (i : Int)
      · refine Ev.if_pos' e ?_
        rw [if_pos e, Int.add_zero] at h
        simpa using h
      · refine Ev.if_neg' e ?_
        rw [if_neg e] at h
        rw [wrap64_small (by omega) (by omega)]
        simpa using h
  have h := this a.size 0 (by omega)
  unfold cippusref07_Apart.f
  simpa [apN] using h
def hasB (b : ByteArray) (c : Int) : Bool := (List.range b.size).any fun (p : Nat) => bt b (p : Int) == c
end Go.Proofs.Ytegjollhajgcdaa.P.OwnSt
namespace Go.Proofs.Ytegjollhajgcdaa.P.OwnSt
open Go.RowKit Go.Proofs.YtegjollhajgcdaaW.PrintWords Go.Proofs.YtegjollhajgcdaaW.PrintLast Go.Proofs.YtegjollhajgcdaaW.PrintMore
set_option linter.unusedVariables false
set_option linter.unusedSimpArgs false
theorem rowsV (l : List S24) (hk : knownE l = 0) (i : Nat) (hi : i < l.length) : rd_L4 (sourcesV l).1 (i : Int) = srcRow l i := by
  unfold sourcesV rd_L4
  rw [if_pos hk]
  simp [List.getD_eq_getElem?_getD, hi]
structure SubT (l l' : List S24) (m : Nat) (r : (Nat → Int) → Nat → Int) : Prop where
  vl : Valid l
  vl' : Valid l'
  same : ∀ s k, k < m → r s k = s k
  truth : ∀ s t, TreeOk l' s → FitT l' s t → TreeOk l (r s) ∧ FitT l (r s) t ∧ costT l (r s) t + apTo l (r s) l.length ≤ costT l' s t + apTo l' s l'.length
section
variable {l l' : List S24} {m : Nat} {r : (Nat → Int) → Nat → Int}
theorem SubT.known (h : SubT l l' m r) {s : Nat → Int} (hs : s ∈ knownV l') : r s ∈ knownV l := by
  obtain ⟨h1, t, h2⟩ := (known_iff h.vl' s).1 hs
  obtain ⟨h3, h4, _⟩ := h.truth s t h1 h2
  exact (known_iff h.vl _).2 ⟨h3, t, h4⟩
theorem SubT.fewest (h : SubT l l' m r) (hk : knownE l = 0) (hk' : knownE l' = 0) : (fewestV l).1 ≤ (fewestV l').1 := by
  obtain ⟨s, hs, e⟩ := fewest_att hk'
  obtain ⟨t, ht, e2⟩ := numF_att (knownV_mem hs).2.2
  obtain ⟨h3, h4, h5⟩ := h.truth s t ((known_iff h.vl' s).1 hs).1 ht
  have h6 := fewest_le hk (h.known hs)
  have h7 := numF_le h4
  omega
theorem SubT.letters (h : SubT l l' m r) (i j : Nat) (hi : i < (rd_T24 l 0).f0.size) (hi' : i < (rd_T24 l' 0).f0.size) (hj : mayAt l' i j = true) : mayAt l i j = true := by
  obtain ⟨s, t, h1, h2, h3⟩ := (mayAt_iff h.vl' i j hi').1 hj
  obtain ⟨h4, h5, _⟩ := h.truth s t h1 h2
  exact (mayAt_iff h.vl i j hi).2 ⟨r s, t, h4, h5, h3⟩
end
theorem rd_take (l : List S24) (m : Nat) (i : Int) (h0 : 0 ≤ i) (hi : i < m) : rd_T24 (l.take m) i = rd_T24 l i := by
  unfold rd_T24
  rw [List.getD_eq_getElem?_getD, List.getD_eq_getElem?_getD, List.getElem?_take, if_pos (by omega)]
theorem MadeOk.take {er : Int} {st : ByteArray} {l : List S24} {src : List Int} (h : MadeOk er st l src) (m : Nat) (hm : m ≤ l.length) : MadeOk er st (l.take m) (src.take m) := by
  refine ⟨by simp [h.len], fun i hi => ?_⟩
  have hi2 : i < m := by rw [List.length_take] at hi; omega
  have h1 := h.one i (by omega)
  have e : (src.take m).getD i 0 = src.getD i 0 := by
    rw [List.getD_eq_getElem?_getD, List.getD_eq_getElem?_getD, List.getElem?_take, if_pos hi2]
  rw [e, rd_take l m (i : Int) (by omega) (by omega)]
  refine ⟨h1.1, h1.2.1, h1.2.2.1, h1.2.2.2.1, ?_⟩
  have e2 : fromOf st (l.take m) (src.getD i 0) = fromOf st l (src.getD i 0) := by
    unfold fromOf
    split
    · rfl
    · rw [rd_take l m _ (by omega) (by have := h1.2.2.1; omega)]
  rw [e2]
  exact h1.2.2.2.2
theorem MadeT.take {er : Int} {st : ByteArray} {l : List S24} {src : List Int} (h : MadeT er st l src) (m : Nat) (h1 : 1 ≤ m) (hm : m ≤ l.length) : MadeT er st (l.take m) (src.take m) :=
  ⟨h.made.take m hm, h.er0, h.er3, by rw [List.length_take]; omega, by rw [List.length_take]; have := h.five; omega, h.low, h.high, h.letters⟩
end Go.Proofs.Ytegjollhajgcdaa.P.OwnSt
namespace Go.Proofs.Ytegjollhajgcdaa.P
open Go.RowKit Go.Shelf Go.Proofs.YtegjollhajgcdaaW.PrintWords Go.Proofs.YtegjollhajgcdaaW.PrintLast Go.Proofs.YtegjollhajgcdaaW.PrintMore
set_option linter.unusedVariables false
set_option linter.unusedSimpArgs false
def rd_L8 (xs : List (List S24)) (i : Int) : (List S24) := xs.getD i.toNat ([] : List S24)
theorem at_L8 {w : World} {A : Option Addr} {n : Nat} {xs : List (List S24)} (h : Kd.C (Kd.slice 24 k24) w A n xs) (i : Int) (h0 : 0 ≤ i) (h1 : i < n) : ∃ ad A0 c0, A = some ad ∧ w.cell? (ad.add i.toNat) = some (.slice A0 (rd_L8 xs i).length c0) ∧ (rd_L8 xs i).length ≤ c0 ∧ k24.C w A0 (rd_L8 xs i).length (rd_L8 xs i) := by
  obtain ⟨ad, c, e, _, hK, hc0⟩ := Kd.C_get h ([] : List S24) i h0 h1
  have hc : ∀ j u, c[j]? = some u → w.cell? (ad.add (i.toNat * 1 + j)) = some u := hc0
  obtain ⟨A0, c0, rfl, l0, g0⟩ := hK
  exact ⟨ad, A0, c0, e, by have hq := hc 0 _ rfl; rwa [Nat.mul_one, Nat.add_zero] at hq, l0, g0⟩
theorem all_C {w : World} {g t : Nat} {vs : List Value} {xs : List (List S24)} (hb : w.heap[g]? = some (.cells vs.toArray t (0, 0))) (hl : vs.length = xs.length) (hn : xs.length ≤ 1000)
    (h : ∀ (j : Nat) (x : List S24), xs[j]? = some x → ∃ A c, vs[j]? = some (Value.slice A x.length c) ∧ x.length ≤ c ∧ k24.C w A x.length x) : Kd.C (Kd.slice 24 k24) w (some ⟨g, 0, none⟩) xs.length xs := by
  refine ⟨rfl, by omega, fun _ => ⟨_, rfl, fun j x hx => ?_⟩⟩
  obtain ⟨A, c, e, hc, hC⟩ := h j x hx
  refine ⟨[.slice A x.length c], rfl, ⟨A, c, rfl, hc, hC⟩, fun i u hu => ?_⟩
  have hi : i = 0 := by
    rcases i with _ | i
    · rfl
    · simp at hu
  subst hi
  have hu : Value.slice A x.length c = u := by simpa using hu
  subst hu
  have h2 := blk_cell hb j
  have e2 : ((⟨g, 0, none⟩ : Addr).add (j * 1 + 0)) = ⟨g, j, none⟩ := by simp [Addr.add]; intro h0; omega
  show w.cell? ((⟨g, 0, none⟩ : Addr).add (j * (Kd.slice 24 k24).sz + 0)) = _
  rw [show (Kd.slice 24 k24).sz = 1 from rfl, e2, h2]
  simpa using e
end Go.Proofs.Ytegjollhajgcdaa.P
namespace Go.Proofs.Ytegjollhajgcdaa.P
open Go.RowKit Go.Proofs.YtegjollhajgcdaaW.PrintWords Go.Proofs.YtegjollhajgcdaaW.PrintLast Go.Proofs.YtegjollhajgcdaaW.PrintMore
set_option linter.unusedVariables false
set_option linter.unusedSimpArgs false
def cippuslaw07_loop10.l0 : Nat → List (List (S24)) → List Int → List Int → Int → Option (Bool)
  | 0, _, _, _, _ => none
  | k + 1, x0, x1, x2, x18 => if x18 < (x0.length : Int) then (if 0 ≤ x18 then ((cippuskit_CopyCopies.f (rd_L8 x0 x18)).bind fun t358 => ((stemma_Sources.f k t358).bind fun bt361 => ((cippusref07_Sources.f k (rd_L8 x0 x18)).bind fun bt366 => (if x18 < (x1.length : Int) then (if x18 < (x2.length : Int) then ((stemma_Depends.f k t358 (rd x1 x18) (rd x2 x18)).bind fun bt372 => ((cippusref07_Depends.f k (rd_L8 x0 x18) (rd x1 x18) (rd x2 x18)).bind fun bt377 => ((stemma_Check.f k t358).bind fun t379 => ((cippusref07_Check.f k (rd_L8 x0 x18)).bind fun t381 => (if t379 = t381 then (if bt361.2 = bt366.2 then (if bt372.1 = bt377.1 then (if bt372.2 = bt377.2 then ((cippuskit_SameGrids.f k bt361.1 bt366.1).bind fun t382 => (if t382 = true then ((cippuskit_SameCopies.f k t358 (rd_L8 x0 x18)).bind fun t384 => (if t384 = true then (cippuslaw07_loop10.l0 k x0 x1 x2 (wrap64 (x18 + 1))) else (some false))) else (some false))) else (some false)) else (some false)) else (some false)) else (some false)))))) else (none)) else (none))))) else (none)) else (some true)
def cippuslaw07_loop10.f (k : Nat) (l0 : List (List (S24))) (l1 : List Int) (l2 : List Int) : Option (Bool) := cippuslaw07_loop10.l0 k l0 l1 l2 0
def cippuslaw07_every10.f (s0_0 s0_1 : Int) (l1 l2 l3 : List (S24)) (a4 a5 : Int) : Option (Bool × Int × Int) := if l1.length ≤ 20 ∧ l2.length ≤ 20 ∧ l3.length ≤ 20 then some (true, s0_0, s0_1) else none
def cippuslaw07_StemmaSources.j0 : Nat → List (S24) → Int → Int → List (S24) → List (S24) → Bool → Int → Int → Option (Bool)
  | 0, _, _, _, _, _, _, _, _ => none
  | k + 1, x0, x1, x2, x12, x14, x45, x364000, x364001 => if x45 = true then ((cippuslaw07_found.f k).bind fun t385 => (some t385)) else ((cippuslaw07_every10.f x364000 x364001 x0 x12 x14 x1 x2).bind fun bt386 => ((cippuslaw07_found.f k).bind fun t389 => (some t389)))
def cippuslaw07_StemmaSources.f (k : Nat) (l0 : List (S24)) (a1 : Int) (a2 : Int) (a3_0 : ByteArray) (a3_1 : Int) (a3_2 : Bool) (l4 : List Int) : Option (Bool) := (cippuskit_NewUrn.f l4).bind fun bt361 => ((cippuskit_CopiesOf.f bt361.1 bt361.2 4 4 1).bind fun bt364 => ((cippuskit_CopyCopies.f bt364.1).bind fun t374 => ((some (([(⟨a3_0, a3_1, a3_2⟩ : S24)] : List (S24)) : List (S24))).bind fun y377 => (if t374.length + y377.length < 4398046511104 then ((some (t374 ++ y377 : List (S24))).bind fun y380 => ((cippuslaw07_large.f k l0).bind fun t383 => (if t383 = true then (cippuslaw07_StemmaSources.j0 k l0 a1 a2 bt364.1 y380 true bt364.2.2.2.1 bt364.2.2.2.2) else ((cippuslaw07_large.f k y380).bind fun t384 => (cippuslaw07_StemmaSources.j0 k l0 a1 a2 bt364.1 y380 t384 bt364.2.2.2.1 bt364.2.2.2.2))))) else (none)))))
end Go.Proofs.Ytegjollhajgcdaa.P
namespace Go.Proofs.Ytegjollhajgcdaa.P
open Go.RowKit Go.Proofs.YtegjollhajgcdaaW.PrintWords Go.Proofs.YtegjollhajgcdaaW.PrintLast Go.Proofs.YtegjollhajgcdaaW.PrintMore
attribute [local go_sem] max2_int min2_int max_two min_two max_three min_three max_four min_four   -- for this text's walks alone
set_option linter.unusedVariables false
set_option linter.unusedSimpArgs false
end Go.Proofs.Ytegjollhajgcdaa.P
namespace Go.Proofs.Ytegjollhajgcdaa.P
open Go.RowKit Go.Proofs.YtegjollhajgcdaaW.PrintWords Go.Proofs.YtegjollhajgcdaaW.PrintLast Go.Proofs.YtegjollhajgcdaaW.PrintMore
attribute [local go_sem] max2_int min2_int max_two min_two max_three min_three max_four min_four   -- for this text's walks alone
set_option linter.unusedVariables false
set_option linter.unusedSimpArgs false
end Go.Proofs.Ytegjollhajgcdaa.P
namespace Go.Proofs.Ytegjollhajgcdaa.P
open Go.RowKit Go.Proofs.YtegjollhajgcdaaW.PrintWords Go.Proofs.YtegjollhajgcdaaW.PrintLast Go.Proofs.YtegjollhajgcdaaW.PrintMore
attribute [local go_sem] max2_int min2_int max_two min_two max_three min_three max_four min_four   -- for this text's walks alone
set_option linter.unusedVariables false
set_option linter.unusedSimpArgs false
end Go.Proofs.Ytegjollhajgcdaa.P
namespace Go.Proofs.Ytegjollhajgcdaa.P
open Go.RowKit Go.Proofs.YtegjollhajgcdaaW.PrintWords Go.Proofs.YtegjollhajgcdaaW.PrintLast Go.Proofs.YtegjollhajgcdaaW.PrintMore
attribute [local go_sem] max2_int min2_int max_two min_two max_three min_three max_four min_four   -- for this text's walks alone
set_option linter.unusedVariables false
set_option linter.unusedSimpArgs false
end Go.Proofs.Ytegjollhajgcdaa.P
namespace Go.Proofs.Ytegjollhajgcdaa.P.OwnSt
open Go.RowKit Go.Proofs.YtegjollhajgcdaaW.PrintWords Go.Proofs.YtegjollhajgcdaaW.PrintLast Go.Proofs.YtegjollhajgcdaaW.PrintMore
set_option linter.unusedVariables false
set_option linter.unusedSimpArgs false
theorem btR_left (a b : ByteArray) (p : Nat) (hp : p < a.size) : bt (a ++ b) (p : Int) = bt a (p : Int) := by
  rw [← bt_at (a ++ b) (p : Int) (by rw [ByteArray.size_append, Int.toNat_natCast]; omega), ← bt_at a (p : Int) (by simpa using hp)]
  simp only [Int.toNat_natCast]
  rw [ByteArray.getElem_append_left hp]
theorem btR_right (a b : ByteArray) (q : Nat) (hb : q < b.size) : bt (a ++ b) ((a.size + q : Nat) : Int) = bt b (q : Int) := by
  rw [← bt_at (a ++ b) ((a.size + q : Nat) : Int) (by rw [ByteArray.size_append, Int.toNat_natCast]; omega), ← bt_at b (q : Int) (by simpa using hb)]
  simp only [Int.toNat_natCast]
  rw [ByteArray.getElem_append_right (by omega)]
  simp
theorem btR_ext (a b : ByteArray) (h : a.size = b.size) (hb : ∀ p : Nat, p < a.size → bt a (p : Int) = bt b (p : Int)) : a = b := by
  have hd : a.data = b.data := by
    apply Array.ext
    · exact h
    · intro i h1 h2
      have h3 := hb i h1
      rw [← bt_at a (i : Int) (by simpa using h1), ← bt_at b (i : Int) (by simpa using h2)] at h3
      simp only [Int.toNat_natCast] at h3
      have h4 : (a[i]'h1).toNat = (b[i]'h2).toNat := by omega
      exact UInt8.toNat_inj.1 h4
  cases a
  cases b
  simp only at hd
  rw [hd]
theorem btR_cut (a : ByteArray) (lo hi q : Nat) (h1 : lo + q < hi) (h2 : hi ≤ a.size) : bt (a.extract lo hi) (q : Int) = bt a ((lo + q : Nat) : Int) := by
  rw [← bt_at (a.extract lo hi) (q : Int) (by rw [ByteArray.size_extract, Int.toNat_natCast]; omega), ← bt_at a ((lo + q : Nat) : Int) (by rw [Int.toNat_natCast]; omega)]
  simp only [Int.toNat_natCast]
  rw [ByteArray.getElem_extract]
theorem cut_size (a : ByteArray) (lo : Nat) (h : lo < a.size) : (a.extract lo (lo + 1)).size = 1 := by rw [ByteArray.size_extract]; omega
theorem apN_comm (a b : ByteArray) (n : Nat) : apN a b n = apN b a n := by
  unfold apN
  rw [List.filter_congr fun p _ => bne_comm]
theorem apN_congr {a b a' b' : ByteArray} {n : Nat} (ha : ∀ p : Nat, p < n → bt a (p : Int) = bt a' (p : Int)) (hb : ∀ p : Nat, p < n → bt b (p : Int) = bt b' (p : Int)) : apN a b n = apN a' b' n := by
  unfold apN
  rw [List.filter_congr fun p hp => by rw [ha p (List.mem_range.1 hp), hb p (List.mem_range.1 hp)]]
theorem apN_mono (a b : ByteArray) (n m : Nat) (h : n ≤ m) : apN a b n ≤ apN a b m := by
  induction m with
  | zero => rw [show n = 0 by omega]; exact Int.le_refl _
  | succ m ih =>
    by_cases e : n = m + 1
    · rw [e]; exact Int.le_refl _
    · have := ih (by omega)
      rw [apN_succ]
      split <;> omega
theorem rhas_ev (b : ByteArray) (c : Int) (h8 : b.size ≤ 1000000000000000) : Ev (fun k => cippusref07_has.f k b c) (hasB b c) := by
  have : ∀ rem i, i + rem = b.size → (∀ j, j < i → bt b (j : Int) ≠ c) → Ev (fun k => cippusref07_has.l0 k b c (i : Int)) (hasB b c) := by
    intro rem
    induction rem with
    | zero =>
      intro i hi hn
      refine Ev.step (fun k => by rw [cippusref07_has.l0]) ?_
      refine Ev.if_neg' (by omega) ?_
      have : hasB b c = false := by
        unfold hasB
        rw [← Bool.not_eq_true, List.any_eq_true]
        rintro ⟨p, hp, h⟩
        exact hn p (by have := List.mem_range.1 hp; omega) (by simpa using h)
      rw [this]
      exact Ev.now _
    | succ rem ih =>
      intro i hi hn
      refine Ev.step (fun k => by rw [cippusref07_has.l0]) ?_
      refine Ev.if_pos' (by omega) (Ev.if_pos' (by omega) ?_)
      by_cases e : bt b (i : Int) = c
      · have : hasB b c = true := by
          unfold hasB
          rw [List.any_eq_true]
          exact ⟨i, List.mem_range.2 (by omega), by simpa using e⟩
        rw [this]
        exact Ev.if_pos' e (Ev.now _)
      · refine Ev.if_neg' e ?_
        rw [wrap64_small (by omega) (by omega)]
        have h := ih (i + 1) (by omega) (fun j hj => by
          by_cases ej : j = i
          · subst ej; exact e
          · exact hn j (by omega))
        simpa using h
  have h := this b.size 0 (by omega) (fun j hj => by omega)
  unfold cippusref07_has.f
  simpa using h
theorem hasB_iff (b : ByteArray) (c : Int) : hasB b c = true ↔ ∃ p : Nat, p < b.size ∧ bt b (p : Int) = c := by
  unfold hasB
  rw [List.any_eq_true]
  exact ⟨fun ⟨p, hp, h⟩ => ⟨p, List.mem_range.1 hp, by simpa using h⟩, fun ⟨p, hp, h⟩ => ⟨p, List.mem_range.2 hp, by simpa using h⟩⟩
theorem next64 (i : Nat) (h : i < 1000000) : wrap64 ((i : Int) + 1) = ((i + 1 : Nat) : Int) := by rw [wrap64_small (by omega) (by omega)]; omega
def srcL (n : Nat) (s : Nat → Int) : List Int := (List.range n).map s
theorem srcL_len (n : Nat) (s : Nat → Int) : (srcL n s).length = n := by simp [srcL]
theorem srcL_rd (n : Nat) (s : Nat → Int) (i : Nat) (h : i < n) : rd (srcL n s) (i : Int) = s i := by
  unfold srcL rd
  simp [List.getD_eq_getElem?_getD, h]
theorem srcL_upd (n : Nat) (s : Nat → Int) (x : Int) : srcL n s ++ [x] = srcL (n + 1) (upd s n x) := by
  unfold srcL
  rw [List.range_succ, List.map_append]
  congr 1
  · refine List.map_congr_left fun k hk => ?_
    have := List.mem_range.1 hk
    unfold upd
    rw [if_neg (by omega)]
  · simp [upd]
theorem treesK_len (l : List S24) (rem i : Nat) (s : Nat → Int) (h : i + rem + 1 ≤ 5) : ∀ k, k ≤ i + 1 → (treesK l rem i s k).length ≤ k * 7776 := by
  intro k
  induction k with
  | zero => intro _; simp [treesK]
  | succ k ih =>
    intro hk
    rw [treesK_succ, List.length_append]
    have h1 := ih (by omega)
    have h2 := treesG_len l rem (i + 1) (upd s i ((k : Int) - 1)) (by omega)
    have h3 : 6 ^ rem ≤ 6 ^ 5 := Nat.pow_le_pow_right (by decide) (by omega)
    have h4 : (6 : Nat) ^ 5 = 7776 := by decide
    split
    · omega
    · rw [List.length_nil, Nat.succ_mul, Nat.add_zero]; exact Nat.le_trans h1 (Nat.le_add_right _ _)
theorem trees_ev {l : List S24} (hv : Valid l) : ∀ rem i s, i + rem = l.length → Ev (fun k => cippusref07_Trees.f k l (srcL i s)) ((treesG l rem i s).map (srcL l.length)) := by
  intro rem
  have h5 := hv.five
  induction rem with
  | zero =>
    intro i s hi
    refine Ev.step (fun k => by rw [cippusref07_Trees.f]) ?_
    have e : i = l.length := by omega
    subst e
    exact Ev.if_pos' (by rw [srcL_len]) (Ev.now _)
  | succ rem ih =>
    intro i s hi
    have hil : i < l.length := by omega
    have hK : (treesG l (rem + 1) i s) = treesK l rem i s (i + 1) := rfl
    have hl0 : ∀ r j, j + r = i → Ev (fun k => cippusref07_Trees.l0 k l (srcL i s) (i : Int) ((treesK l rem i s (j + 1)).map (srcL l.length)) (j : Int)) ((treesK l rem i s (i + 1)).map (srcL l.length)) := by
      intro r
      induction r with
      | zero =>
        intro j hj
        refine Ev.step (fun k => by rw [cippusref07_Trees.l0]) ?_
        rw [show j = i by omega]
        exact Ev.if_neg' (by omega) (Ev.now _)
      | succ r ihr =>
        intro j hj
        have h1 := ihr (j + 1) (by omega)
        have hsz : (rd_T24 l (i : Int)).f0.size = (rd_T24 l (j : Int)).f0.size := by rw [hv.size i hil, hv.size j (by omega)]
        have hsz8 := hv.size i hil
        have h8 := hv.high
        refine Ev.step (fun k => by rw [cippusref07_Trees.l0]) ?_
        refine Ev.if_pos' (by omega) (Ev.if_pos' (by omega) (Ev.if_pos' (by omega) (Ev.if_pos' (by omega) (Ev.if_pos' (by omega) ?_))))
        refine Ev.bind (apart_ev _ _ (by omega) (by omega)) ?_
        rw [next64 j (by omega)]
        have hcan : canF l i (j : Int) = decide (apN (rd_T24 l (i : Int)).f0 (rd_T24 l (j : Int)).f0 (rd_T24 l (i : Int)).f0.size ≤ (rd_T24 l (i : Int)).f1) := by
          unfold canF
          rw [if_neg (by rw [beq_iff_eq]; omega), apN_comm, hsz]
        rw [treesK_succ, show (((j + 1 : Nat) : Int) - 1) = (j : Int) by omega, hcan] at h1
        by_cases hc : apN (rd_T24 l (i : Int)).f0 (rd_T24 l (j : Int)).f0 (rd_T24 l (i : Int)).f0.size ≤ (rd_T24 l (i : Int)).f1
        · rw [decide_eq_true hc, if_pos rfl] at h1
          refine Ev.if_pos' hc ?_
          simp only [Option.bind_some, List.nil_append, List.length_nil]
          have hlen := srcL_len i s
          refine Ev.if_pos' (by omega) (Ev.if_pos' (by omega) ?_)
          rw [srcL_upd]
          refine Ev.bind (ih (i + 1) _ (by omega)) ?_
          have h2 := treesK_len l rem i s (by omega) (j + 1) (by omega)
          have h3 := treesG_len l rem (i + 1) (upd s i (j : Int)) (by omega)
          have h4 : 6 ^ rem ≤ 6 ^ 5 := Nat.pow_le_pow_right (by decide) (by omega)
          have h6 : (6 : Nat) ^ 5 = 7776 := by decide
          rw [List.map_append] at h1
          refine Ev.if_pos' (by rw [List.length_map, List.length_map]; omega) ?_
          exact h1
        · rw [decide_eq_false hc, if_neg (by decide), List.append_nil] at h1
          exact Ev.if_neg' hc h1
    refine Ev.step (fun k => by rw [cippusref07_Trees.f]) ?_
    rw [srcL_len]
    refine Ev.if_neg' (by omega) (Ev.if_pos' (by omega) (Ev.if_pos' (by omega) ?_))
    have hlen := srcL_len i s
    have h0 := hl0 i 0 (by omega)
    have hk0 : treesK l rem i s 0 = [] := by simp [treesK]
    have hc0 : canF l i (((0 : Nat) : Int) - 1) = (rd_T24 l (i : Int)).f2 := rfl
    rw [treesK_succ, hk0, hc0, List.nil_append] at h0
    rw [hK]
    by_cases hf : (rd_T24 l (i : Int)).f2 = true
    · rw [if_pos hf] at h0
      refine Ev.if_pos' hf ?_
      simp only [Option.bind_some, List.nil_append, List.length_nil]
      refine Ev.if_pos' (by omega) (Ev.if_pos' (by omega) ?_)
      rw [srcL_upd]
      refine Ev.bind (ih (i + 1) _ (by omega)) ?_
      have h3 := treesG_len l rem (i + 1) (upd s i (-1)) (by omega)
      have h4 : 6 ^ rem ≤ 6 ^ 5 := Nat.pow_le_pow_right (by decide) (by omega)
      have h6 : (6 : Nat) ^ 5 = 7776 := by decide
      refine Ev.if_pos' (by rw [List.length_map]; omega) ?_
      refine Ev.step (fun k => by rw [cippusref07_Trees.j0]) ?_
      exact h0
    · rw [if_neg hf] at h0
      refine Ev.if_neg' hf ?_
      refine Ev.step (fun k => by rw [cippusref07_Trees.j0]) ?_
      exact h0
theorem trees_all {l : List S24} (hv : Valid l) : Ev (fun k => cippusref07_Trees.f k l []) ((treesG l l.length 0 (fun _ => 0)).map (srcL l.length)) := trees_ev hv l.length 0 (fun _ => 0) (by omega)
end Go.Proofs.Ytegjollhajgcdaa.P.OwnSt
namespace Go.Proofs.Ytegjollhajgcdaa.P.OwnSt
open Go.RowKit Go.Shelf Go.Proofs.YtegjollhajgcdaaW.PrintWords Go.Proofs.YtegjollhajgcdaaW.PrintLast Go.Proofs.YtegjollhajgcdaaW.PrintMore
set_option linter.unusedVariables false
set_option linter.unusedSimpArgs false
theorem copyCopies_eq (l : List S24) (h : l.length < 100) : cippuskit_CopyCopies.f l = some l := by
  unfold cippuskit_CopyCopies.f
  simp only [Option.bind_some, List.length_nil, List.nil_append]
  rw [if_pos (by omega)]
structure TurnOk (l : List S24) (order by_ : List Int) : Prop where
  one : 1 ≤ l.length
  five : l.length ≤ 5
  eight : order.length ≤ 8
  by_ : order.length ≤ by_.length
  good : ∀ i : Nat, i < l.length → ∀ p : Nat, p < order.length → 0 ≤ rd order (p : Int) ∧ rd order (p : Int) < (rd_T24 l (i : Int)).f0.size
end Go.Proofs.Ytegjollhajgcdaa.P.OwnSt
namespace Go.Proofs.Ytegjollhajgcdaa.P.OwnSt
open Go.RowKit Go.Proofs.YtegjollhajgcdaaW.PrintWords Go.Proofs.YtegjollhajgcdaaW.PrintLast Go.Proofs.YtegjollhajgcdaaW.PrintMore
set_option linter.unusedVariables false
set_option linter.unusedSimpArgs false
theorem sumTo_zero : ∀ n, sumTo (fun _ => 0) n = 0 := by
  intro n
  induction n with
  | zero => rfl
  | succ n ih => unfold sumTo; rw [ih]; rfl
theorem sumTo_one (a : Nat) (v : Int) : ∀ n, sumTo (fun q => if q = a then v else 0) n = if a < n then v else 0 := by
  intro n
  induction n with
  | zero => rfl
  | succ n ih =>
    unfold sumTo
    rw [ih]
    by_cases e : n = a
    · subst e
      rw [if_neg (by omega), if_pos rfl, if_pos (by omega)]
      omega
    · rw [if_neg e]
      by_cases h : a < n
      · rw [if_pos h, if_pos (by omega)]; omega
      · rw [if_neg h, if_neg (by omega)]; omega
theorem sumTo_swap (f : Nat → Nat → Int) (m : Nat) : ∀ n, sumTo (fun i => sumTo (f i) m) n = sumTo (fun j => sumTo (fun i => f i j) n) m := by
  intro n
  induction n with
  | zero => show 0 = sumTo (fun _ => 0) m; rw [sumTo_zero]
  | succ n ih =>
    show sumTo (fun i => sumTo (f i) m) n + sumTo (f n) m = _
    rw [ih, ← sumTo_add]
    rfl
theorem sumTo_perm (h : Nat → Int) (o oi : Nat → Nat) (n : Nat) (h1 : ∀ p, p < n → o p < n ∧ oi (o p) = p) (h2 : ∀ q, q < n → oi q < n ∧ o (oi q) = q) : sumTo (fun p => h (o p)) n = sumTo h n := by
  have e1 : sumTo (fun p => h (o p)) n = sumTo (fun p => sumTo (fun q => if q = o p then h (o p) else 0) n) n := sumTo_congr _ fun p hp => by
    rw [sumTo_one, if_pos (h1 p hp).1]
  have e2 : sumTo h n = sumTo (fun q => sumTo (fun p => if q = o p then h (o p) else 0) n) n := sumTo_congr _ fun q hq => by
    have : sumTo (fun p => if q = o p then h (o p) else 0) n = sumTo (fun p => if p = oi q then h q else 0) n := sumTo_congr _ fun p hp => by
      show (if q = o p then h (o p) else 0) = (if p = oi q then h q else 0)
      by_cases e : q = o p
      · have e3 : p = oi q := by rw [e]; exact (h1 p hp).2.symm
        rw [if_pos e, if_pos e3, ← e]
      · have e3 : ¬ p = oi q := fun h => e (by rw [h]; exact (h2 q hq).2.symm)
        rw [if_neg e, if_neg e3]
    rw [this, sumTo_one, if_pos (h2 q hq).1]
  rw [e1, e2, sumTo_swap]
theorem apN_sum (a b : ByteArray) : ∀ n, apN a b n = sumTo (fun p => if bt a (p : Int) = bt b (p : Int) then 0 else 1) n := by
  intro n
  induction n with
  | zero => rfl
  | succ n ih => rw [apN_succ, ih]; rfl
theorem hsum_sum (l : List S24) (s t : Nat → Int) (i : Nat) : ∀ rem p, hsum l s t i rem p = sumTo (fun k => if hit l s ((p + k : Nat) : Int) (t (p + k)) i = true then 1 else 0) rem := by
  intro rem
  induction rem with
  | zero => intro p; rfl
  | succ rem ih =>
    intro p
    have h2 : ∀ (f : Nat → Int) n, sumTo f (n + 1) = f 0 + sumTo (fun k => f (k + 1)) n := by
      intro f n
      induction n with
      | zero => simp [sumTo]
      | succ n ih => rw [sumTo, ih, sumTo]; omega
    rw [h2]
    show (if hit l s (p : Int) (t p) i = true then 1 else 0) + hsum l s t i rem (p + 1) = _
    rw [ih]
    have : (fun k => if hit l s ((p + 1 + k : Nat) : Int) (t (p + 1 + k)) i = true then (1 : Int) else 0) = fun k => if hit l s ((p + (k + 1) : Nat) : Int) (t (p + (k + 1))) i = true then 1 else 0 := by
      funext k
      rw [show p + 1 + k = p + (k + 1) by omega]
    rw [this]
    rfl
theorem hsum_all (l : List S24) (s t : Nat → Int) (i n : Nat) : hsum l s t i n 0 = sumTo (fun (k : Nat) => if hit l s (k : Int) (t k) i = true then 1 else 0) n := by
  rw [hsum_sum]
  have : (fun k => if hit l s ((0 + k : Nat) : Int) (t (0 + k)) i = true then (1 : Int) else 0) = fun (k : Nat) => if hit l s (k : Int) (t k) i = true then 1 else 0 := by
    funext k
    rw [Nat.zero_add]
  rw [this]
def phi (y c : Int) : Int := 65 + (c - 65 + y) % 26
theorem phi_ok (y c : Int) : 65 ≤ phi y c ∧ phi y c ≤ 90 := by unfold phi; omega
theorem phi_back {y c : Int} (h : 65 ≤ c ∧ c ≤ 90) : phi (-y) (phi y c) = c := by unfold phi; omega
theorem phi_inj {y c d : Int} (hc : 65 ≤ c ∧ c ≤ 90) (hd : 65 ≤ d ∧ d ≤ 90) : (phi y c = phi y d) ↔ c = d := ⟨fun h => by rw [← phi_back hc (y := y), h, phi_back hd], fun h => by rw [h]⟩
structure TurnR (l l' : List S24) (o oi : Nat → Nat) (y : Nat → Int) : Prop where
  vl : Valid l
  vl' : Valid l'
  len : l'.length = l.length
  size : (rd_T24 l' 0).f0.size = (rd_T24 l 0).f0.size
  o1 : ∀ p, p < (rd_T24 l 0).f0.size → o p < (rd_T24 l 0).f0.size ∧ oi (o p) = p
  o2 : ∀ q, q < (rd_T24 l 0).f0.size → oi q < (rd_T24 l 0).f0.size ∧ o (oi q) = q
  text : ∀ i : Nat, i < l.length → ∀ p : Nat, p < (rd_T24 l 0).f0.size → bt (rd_T24 l' (i : Int)).f0 (p : Int) = phi (y p) (bt (rd_T24 l (i : Int)).f0 ((o p : Nat) : Int))
  err : ∀ i : Nat, i < l.length → (rd_T24 l' (i : Int)).f1 = (rd_T24 l (i : Int)).f1
  saw : ∀ i : Nat, i < l.length → (rd_T24 l' (i : Int)).f2 = (rd_T24 l (i : Int)).f2
section
variable {l l' : List S24} {o oi : Nat → Nat} {y : Nat → Int}
theorem TurnR.symm (h : TurnR l l' o oi y) : TurnR l' l oi o (fun q => - y (oi q)) := by
  refine ⟨h.vl', h.vl, h.len.symm, h.size.symm, fun p hp => ?_, fun q hq => ?_, fun i hi p hp => ?_, fun i hi => (h.err i (by rw [← h.len]; exact hi)).symm, fun i hi => (h.saw i (by rw [← h.len]; exact hi)).symm⟩
  · rw [h.size] at hp ⊢; exact h.o2 p hp
  · rw [h.size] at hq ⊢; exact h.o1 q hq
  · rw [h.size] at hp
    rw [h.len] at hi
    rw [h.text i hi (oi p) (h.o2 p hp).1, (h.o2 p hp).2, phi_back (h.vl.good i hi p hp)]
theorem TurnR.ap (h : TurnR l l' o oi y) (i j : Nat) (hi : i < l.length) (hj : j < l.length) : apN (rd_T24 l' (i : Int)).f0 (rd_T24 l' (j : Int)).f0 (rd_T24 l 0).f0.size = apN (rd_T24 l (i : Int)).f0 (rd_T24 l (j : Int)).f0 (rd_T24 l 0).f0.size := by
  rw [apN_sum, apN_sum, ← sumTo_perm (fun (p : Nat) => if bt (rd_T24 l (i : Int)).f0 (p : Int) = bt (rd_T24 l (j : Int)).f0 (p : Int) then 0 else 1) o oi _ h.o1 h.o2]
  refine sumTo_congr _ fun p hp => ?_
  show (if bt (rd_T24 l' (i : Int)).f0 (p : Int) = bt (rd_T24 l' (j : Int)).f0 (p : Int) then (0 : Int) else 1) = (if bt (rd_T24 l (i : Int)).f0 ((o p : Nat) : Int) = bt (rd_T24 l (j : Int)).f0 ((o p : Nat) : Int) then 0 else 1)
  rw [h.text i hi p hp, h.text j hj p hp]
  have hp2 := (h.o1 p hp).1
  have h3 := phi_inj (y := y p) (h.vl.good i hi _ hp2) (h.vl.good j hj _ hp2)
  by_cases e : bt (rd_T24 l (i : Int)).f0 ((o p : Nat) : Int) = bt (rd_T24 l (j : Int)).f0 ((o p : Nat) : Int)
  · rw [if_pos e, if_pos (h3.2 e)]
  · rw [if_neg e, if_neg (fun h4 => e (h3.1 h4))]
theorem TurnR.can (h : TurnR l l' o oi y) (i : Nat) (f : Int) (hi : i < l.length) (h0 : -1 ≤ f) (hf : f < i) : canF l' i f = canF l i f := by
  unfold canF
  rw [h.saw i hi, h.err i hi]
  by_cases e : f = -1
  · subst e
    rfl
  · rw [if_neg (by simpa using e), if_neg (by simpa using e)]
    obtain ⟨j, rfl⟩ : ∃ j : Nat, f = (j : Int) := ⟨f.toNat, by omega⟩
    have hj : j < l.length := by omega
    rw [h.vl'.size j (by rw [h.len]; exact hj), h.size, h.vl.size j hj, h.ap j i hj hi]
theorem treesG_same (h : ∀ (i : Nat) (f : Int), i < l.length → -1 ≤ f → f < i → canF l' i f = canF l i f) : ∀ rem i s, i + rem = l.length → treesG l' rem i s = treesG l rem i s := by
  intro rem
  induction rem with
  | zero => intro i s _; rfl
  | succ rem ih =>
    intro i s hi
    unfold treesG
    rw [List.flatMap_def, List.flatMap_def]
    congr 1
    refine List.map_congr_left fun f hf => ?_
    have hf := List.mem_range.1 hf
    rw [h i ((f : Int) - 1) (by omega) (by omega) (by omega), ih (i + 1) _ (by omega)]
def trT (L : Nat) (o : Nat → Nat) (y : Nat → Int) (t : Nat → Int) (p : Nat) : Int := if p < L then phi (y p) (t (o p)) else 65
theorem TurnR.hits (h : TurnR l l' o oi y) {t : Nat → Int} (ht : GoodT t) (s : Nat → Int) (i p : Nat) (hi : i < l.length) (hp : p < (rd_T24 l 0).f0.size) : hit l' s (p : Int) (trT (rd_T24 l 0).f0.size o y t p) i = hit l s ((o p : Nat) : Int) (t (o p)) i := by
  unfold hit trT
  rw [if_pos hp, h.text i hi p hp]
  congr 1
  have h2 := phi_inj (y := y p) (h.vl.good i hi _ (h.o1 p hp).1) (ht (o p))
  rw [Bool.eq_iff_iff, bne_iff_ne, bne_iff_ne]
  exact not_congr h2
theorem TurnR.hsums (h : TurnR l l' o oi y) {t : Nat → Int} (ht : GoodT t) (s : Nat → Int) (i : Nat) (hi : i < l.length) : hsum l' s (trT (rd_T24 l 0).f0.size o y t) i (rd_T24 l' 0).f0.size 0 = hsum l s t i (rd_T24 l 0).f0.size 0 := by
  rw [h.size, hsum_all, hsum_all, ← sumTo_perm (fun (p : Nat) => if hit l s (p : Int) (t p) i = true then 1 else 0) o oi _ h.o1 h.o2]
  refine sumTo_congr _ fun p hp => ?_
  show (if hit l' s (p : Int) (trT (rd_T24 l 0).f0.size o y t p) i = true then (1 : Int) else 0) = (if hit l s ((o p : Nat) : Int) (t (o p)) i = true then 1 else 0)
  rw [h.hits ht s i p hi hp]
theorem TurnR.fit (h : TurnR l l' o oi y) {s t : Nat → Int} (ht : FitT l s t) : FitT l' s (trT (rd_T24 l 0).f0.size o y t) ∧ costT l' s (trT (rd_T24 l 0).f0.size o y t) = costT l s t := by
  refine ⟨⟨fun p => ?_, fun i hi h2 => ?_⟩, ?_⟩
  · unfold trT
    split
    · exact phi_ok _ _
    · omega
  · rw [h.len] at hi
    rw [h.hsums ht.1 s i hi] at h2 ⊢
    rw [h.err i hi]
    exact ht.2 i hi h2
  · unfold costT
    rw [cost_sum, cost_sum, h.len]
    exact sumTo_congr _ fun i hi => h.hsums ht.1 s i hi
theorem TurnR.lies (h : TurnR l l' o oi y) (s : Nat → Int) : liesB l' s = liesB l s := by
  rw [Bool.eq_iff_iff]
  constructor
  · intro h1
    obtain ⟨t, ht, _⟩ := fit_of_lies h1
    exact lies_of_fit h.vl (h.symm.fit ht).1
  · intro h1
    obtain ⟨t, ht, _⟩ := fit_of_lies h1
    exact lies_of_fit h.vl' (h.fit ht).1
theorem TurnR.known (h : TurnR l l' o oi y) : knownV l' = knownV l := by
  unfold knownV
  rw [h.len, treesG_same h.can _ _ _ (by omega)]
  exact List.filter_congr fun s _ => h.lies s
theorem TurnR.knownE (h : TurnR l l' o oi y) : knownE l' = knownE l := by
  unfold OwnSt.knownE
  rw [h.known, check_of_valid h.vl, check_of_valid h.vl']
theorem TurnR.apTo (h : TurnR l l' o oi y) {s : Nat → Int} (hs : TreeOk l s) : apTo l' s l.length = apTo l s l.length := by
  rw [apTo_sum, apTo_sum]
  refine sumTo_congr _ fun k hk => ?_
  show (if s k = -1 then (0 : Int) else _) = (if s k = -1 then 0 else _)
  by_cases e : s k = -1
  · rw [if_pos e, if_pos e]
  · rw [if_neg e, if_neg e]
    have h3 := hs.1 k hk
    obtain ⟨j, hj⟩ : ∃ j : Nat, s k = (j : Int) := ⟨(s k).toNat, by omega⟩
    have hj2 : j < l.length := by omega
    rw [hj, h.vl'.size j (by rw [h.len]; exact hj2), h.size, h.vl.size j hj2, h.ap j k hj2 hk]
theorem TurnR.fewest_le (h : TurnR l l' o oi y) (hk : OwnSt.knownE l = 0) : (fewestV l').1 ≤ (fewestV l).1 := by
  obtain ⟨s, hs, e⟩ := fewest_att hk
  obtain ⟨t, ht, e2⟩ := numF_att (knownV_mem hs).2.2
  have h1 := OwnSt.fewest_le (by rw [h.knownE]; exact hk) (show s ∈ knownV l' by rw [h.known]; exact hs)
  obtain ⟨h2, h3⟩ := h.fit ht
  have h4 := numF_le h2
  have h5 := h.apTo ((known_iff h.vl s).1 hs).1
  rw [h.len] at h4
  omega
theorem TurnR.fewest (h : TurnR l l' o oi y) (hk : OwnSt.knownE l = 0) : (fewestV l').1 = (fewestV l).1 := by
  have h1 := h.fewest_le hk
  have h2 := h.symm.fewest_le (by rw [h.knownE]; exact hk)
  omega
theorem TurnR.may (h : TurnR l l' o oi y) (p j : Nat) (hp : p < (rd_T24 l 0).f0.size) (hm : mayAt l (o p) j = true) : mayAt l' p (phi (y p) (65 + (j : Int)) - 65).toNat = true := by
  have hp2 := (h.o1 p hp).1
  obtain ⟨s, t, h1, h2, h3⟩ := (mayAt_iff h.vl (o p) j hp2).1 hm
  refine (mayAt_iff h.vl' p _ (by rw [h.size]; exact hp)).2 ⟨s, _, ?_, (h.fit h2).1, ?_⟩
  · refine ⟨fun k hk => ?_, fun k hk => ?_⟩
    · rw [h.len] at hk
      have h4 := h1.1 k hk
      refine ⟨h4.1, h4.2.1, ?_⟩
      rw [h.can k (s k) hk h4.1 h4.2.1]
      exact h4.2.2
    · exact h1.2 k (by rw [h.len] at hk; exact hk)
  · unfold trT
    rw [if_pos hp, h3]
    have := phi_ok (y p) (65 + (j : Int))
    omega
end
end Go.Proofs.Ytegjollhajgcdaa.P.OwnSt
