/- Lemmas for the statement StemmaFewest of the given program, for every input that its row lets in. Conditions: none beyond those that each lemma tells. -/
import Derived.BigQuiet
import Derived.Deep.CutBlock
import Derived.Deep.Slices
import Derived.Deep.Strs
import Derived.ChangeArms
import Derived.WideShapes
import Derived.SizedLaws
import Derived.ChangeSlices
import Derived.Test.YtegjollhajgcdaaMStemmaFewest6
set_option linter.unusedVariables false
set_option linter.unusedSimpArgs false
namespace Go.Proofs.Ytegjollhajgcdaa.P.OwnSt
open Go.RowKit Go.Proofs.YtegjollhajgcdaaW.PrintWords Go.Proofs.YtegjollhajgcdaaW.PrintLast Go.Proofs.YtegjollhajgcdaaW.PrintMore
set_option linter.unusedVariables false
set_option linter.unusedSimpArgs false
def okOne (l : List S24) (fs : Nat → Int) (b : ByteArray) (i : Nat) : Bool := fs i != -1 || decide (apN b (rd_T24 l (i : Int)).f0 b.size ≤ (rd_T24 l (i : Int)).f1)
def okB (l : List S24) (fs : Nat → Int) (b : ByteArray) : Bool := (List.range l.length).all (okOne l fs b)
theorem okB_iff {l : List S24} {fs : Nat → Int} {b : ByteArray} : okB l fs b = true ↔ ∀ i, i < l.length → fs i = -1 → apN b (rd_T24 l (i : Int)).f0 b.size ≤ (rd_T24 l (i : Int)).f1 := by
  unfold okB
  rw [List.all_eq_true]
  constructor
  · intro h i hi e
    have := h i (List.mem_range.2 hi)
    unfold okOne at this
    rw [e] at this
    simpa using this
  · intro h i hi
    unfold okOne
    by_cases e : fs i = -1
    · rw [decide_eq_true (h i (List.mem_range.1 hi) e)]; simp
    · simp [e]
def mayS (l : List S24) (p : Nat) : Nat → ByteArray
  | 0 => strOfNums [42]
  | i + 1 => if hasB (mayS l p i) (bt (rd_T24 l (i : Int)).f0 (p : Int)) = true then mayS l p i else mayS l p i ++ (rd_T24 l (i : Int)).f0.extract p (p + 1)
def stonesV (l : List S24) (fs : Nat → Int) : Nat → ByteArray → List ByteArray
  | 0, b => if okB l fs b = true then [b] else []
  | rem + 1, b => if okB l fs b = true then (List.range (mayS l b.size l.length).size).flatMap fun j => stonesV l fs rem (b ++ (mayS l b.size l.length).extract j (j + 1)) else []
section
variable {l : List S24}
theorem mayS_size (hv : Valid l) (p : Nat) (hp : p < (rd_T24 l 0).f0.size) : ∀ i, i ≤ l.length → 1 ≤ (mayS l p i).size ∧ (mayS l p i).size ≤ i + 1 := by
  intro i
  induction i with
  | zero => intro _; exact ⟨Nat.le_refl _, Nat.le_refl _⟩
  | succ i ih =>
    intro hi
    have h1 := ih (by omega)
    unfold mayS
    split
    · omega
    · rw [ByteArray.size_append, cut_size _ _ (by rw [hv.size i (by omega)]; exact hp)]
      omega
theorem mayS_has (hv : Valid l) (p : Nat) (hp : p < (rd_T24 l 0).f0.size) (c : Int) : ∀ i, i ≤ l.length → (hasB (mayS l p i) c = true ↔ c = 42 ∨ ∃ k, k < i ∧ bt (rd_T24 l (k : Int)).f0 (p : Int) = c) := by
  intro i
  induction i with
  | zero =>
    intro _
    rw [hasB_iff]
    constructor
    · rintro ⟨q, hq, h⟩
      have hq : q < 1 := hq
      rw [show q = 0 by omega] at h
      exact .inl h.symm
    · rintro (h | ⟨k, hk, _⟩)
      · exact ⟨0, Nat.zero_lt_one, h.symm⟩
      · omega
  | succ i ih =>
    intro hi
    have h1 := ih (by omega)
    unfold mayS
    by_cases e : hasB (mayS l p i) (bt (rd_T24 l (i : Int)).f0 (p : Int)) = true
    · rw [if_pos e, h1]
      constructor
      · rintro (h | ⟨k, hk, h⟩)
        · exact .inl h
        · exact .inr ⟨k, by omega, h⟩
      · rintro (h | ⟨k, hk, h⟩)
        · exact .inl h
        · by_cases ek : k = i
          · subst ek
            rw [h] at e
            exact h1.1 e
          · exact .inr ⟨k, by omega, h⟩
    · rw [if_neg e]
      have hsz := cut_size (rd_T24 l (i : Int)).f0 p (by rw [hv.size i (by omega)]; exact hp)
      have hcut : bt ((rd_T24 l (i : Int)).f0.extract p (p + 1)) ((0 : Nat) : Int) = bt (rd_T24 l (i : Int)).f0 (p : Int) := by
        rw [btR_cut _ p (p + 1) 0 (by omega) (by rw [hv.size i (by omega)]; omega)]; rfl
      rw [hasB_iff]
      constructor
      · rintro ⟨q, hq, h⟩
        rw [ByteArray.size_append, hsz] at hq
        by_cases eq : q < (mayS l p i).size
        · rw [btR_left _ _ q eq] at h
          rcases h1.1 ((hasB_iff _ _).2 ⟨q, eq, h⟩) with h | ⟨k, hk, h⟩
          · exact .inl h
          · exact .inr ⟨k, by omega, h⟩
        · have h2 := btR_right (mayS l p i) ((rd_T24 l (i : Int)).f0.extract p (p + 1)) 0 (by omega)
          rw [show q = (mayS l p i).size + 0 by omega, h2, hcut] at h
          exact .inr ⟨i, by omega, h⟩
      · rintro h
        have h3 : (c = 42 ∨ ∃ k, k < i ∧ bt (rd_T24 l (k : Int)).f0 (p : Int) = c) ∨ bt (rd_T24 l (i : Int)).f0 (p : Int) = c := by
          rcases h with h | ⟨k, hk, h⟩
          · exact .inl (.inl h)
          · by_cases ek : k = i
            · subst ek; exact .inr h
            · exact .inl (.inr ⟨k, by omega, h⟩)
        rcases h3 with h | h
        · obtain ⟨q, hq, h⟩ := (hasB_iff _ _).1 (h1.2 h)
          exact ⟨q, by rw [ByteArray.size_append]; omega, by rw [btR_left _ _ q hq]; exact h⟩
        · refine ⟨(mayS l p i).size + 0, by rw [ByteArray.size_append]; omega, ?_⟩
          rw [btR_right _ _ 0 (by omega), hcut]
          exact h
theorem stonesV_len (hv : Valid l) (fs : Nat → Int) : ∀ rem b, b.size + rem = (rd_T24 l 0).f0.size → (stonesV l fs rem b).length ≤ 6 ^ rem := by
  have h5 := hv.five
  have key : ∀ rem b, (stonesV l fs rem b).length ≤ 6 ^ rem ∨ ¬ b.size + rem = (rd_T24 l 0).f0.size := by
    intro rem
    induction rem with
    | zero =>
      intro b
      left
      unfold stonesV
      split <;> simp
    | succ rem ih =>
      intro b
      by_cases hb : b.size + (rem + 1) = (rd_T24 l 0).f0.size
      · left
        unfold stonesV
        split
        · have hs := mayS_size hv b.size (by omega) l.length (Nat.le_refl _)
          have h1 : ∀ n, n ≤ (mayS l b.size l.length).size → ((List.range n).flatMap fun j => stonesV l fs rem (b ++ (mayS l b.size l.length).extract j (j + 1))).length ≤ n * 6 ^ rem := by
            intro n
            induction n with
            | zero => intro _; simp
            | succ n ihn =>
              intro hn
              rw [List.range_succ, List.flatMap_append, List.length_append, Nat.succ_mul]
              have h2 := ihn (by omega)
              have h3 : (stonesV l fs rem (b ++ (mayS l b.size l.length).extract n (n + 1))).length ≤ 6 ^ rem := by
                rcases ih (b ++ (mayS l b.size l.length).extract n (n + 1)) with h | h
                · exact h
                · exact absurd (by rw [ByteArray.size_append, cut_size _ _ (by omega)]; omega) h
              simp only [List.flatMap_cons, List.flatMap_nil, List.append_nil]
              exact Nat.add_le_add h2 h3
          have h2 := h1 _ (Nat.le_refl _)
          have h3 : (mayS l b.size l.length).size * 6 ^ rem ≤ 6 * 6 ^ rem := Nat.mul_le_mul_right _ (by omega)
          rw [Nat.pow_succ, Nat.mul_comm (6 ^ rem) 6]
          exact Nat.le_trans h2 h3
        · simp
      · exact .inr hb
  intro rem b hb
  rcases key rem b with h | h
  · exact h
  · exact absurd hb h
theorem okB_of {fs : Nat → Int} {b x : ByteArray} (hb : b.size ≤ x.size) (hp : ∀ p : Nat, p < b.size → bt x (p : Int) = bt b (p : Int)) (h : okB l fs x = true) : okB l fs b = true := by
  rw [okB_iff] at h ⊢
  intro i hi e
  have h1 := h i hi e
  have h2 := apN_mono x (rd_T24 l (i : Int)).f0 b.size x.size hb
  rw [apN_congr (a := b) (a' := x) (b' := (rd_T24 l (i : Int)).f0) (fun p hp2 => (hp p hp2).symm) (fun _ _ => rfl)]
  omega
theorem mem_stones (hv : Valid l) (fs : Nat → Int) : ∀ rem b x, b.size + rem = (rd_T24 l 0).f0.size → (x ∈ stonesV l fs rem b ↔ x.size = (rd_T24 l 0).f0.size ∧ (∀ p : Nat, p < b.size → bt x (p : Int) = bt b (p : Int)) ∧ (∀ p : Nat, b.size ≤ p → p < (rd_T24 l 0).f0.size → hasB (mayS l p l.length) (bt x (p : Int)) = true) ∧ okB l fs x = true) := by
  intro rem
  induction rem with
  | zero =>
    intro b x hb
    unfold stonesV
    constructor
    · intro h
      by_cases e : okB l fs b = true
      · rw [if_pos e, List.mem_singleton] at h
        subst h
        exact ⟨by omega, fun _ _ => rfl, fun p h1 h2 => by omega, e⟩
      · rw [if_neg e] at h
        simp at h
    · rintro ⟨h1, h2, _, h4⟩
      have : x = b := btR_ext _ _ (by omega) (fun p hp => h2 p (by omega))
      subst this
      rw [if_pos h4]
      simp
  | succ rem ih =>
    intro b x hb
    have hs := mayS_size hv b.size (by omega) l.length (Nat.le_refl _)
    have hsz : ∀ j, j < (mayS l b.size l.length).size → (b ++ (mayS l b.size l.length).extract j (j + 1)).size = b.size + 1 := fun j hj => by rw [ByteArray.size_append, cut_size _ _ hj]
    have hlast : ∀ j, j < (mayS l b.size l.length).size → bt (b ++ (mayS l b.size l.length).extract j (j + 1)) (b.size : Int) = bt (mayS l b.size l.length) (j : Int) := fun j hj => by
      have h1 := btR_right b ((mayS l b.size l.length).extract j (j + 1)) 0 (by rw [cut_size _ _ hj]; omega)
      rw [btR_cut _ j (j + 1) 0 (by omega) (by omega)] at h1
      exact h1
    unfold stonesV
    constructor
    · intro h
      by_cases e : okB l fs b = true
      · rw [if_pos e, List.mem_flatMap] at h
        obtain ⟨j, hj, h⟩ := h
        have hj := List.mem_range.1 hj
        obtain ⟨h1, h2, h3, h4⟩ := (ih _ x (by rw [hsz j hj]; omega)).1 h
        rw [hsz j hj] at h2 h3
        refine ⟨h1, fun p hp => ?_, fun p hp1 hp2 => ?_, h4⟩
        · rw [h2 p (by omega), btR_left _ _ p hp]
        · by_cases ep : p = b.size
          · subst ep
            rw [h2 _ (by omega), hlast j hj, hasB_iff]
            exact ⟨j, hj, rfl⟩
          · exact h3 p (by omega) hp2
      · rw [if_neg e] at h
        simp at h
    · rintro ⟨h1, h2, h3, h4⟩
      rw [if_pos (okB_of (by omega) h2 h4), List.mem_flatMap]
      obtain ⟨j, hj, e⟩ := (hasB_iff _ _).1 (h3 b.size (Nat.le_refl _) (by omega))
      refine ⟨j, List.mem_range.2 hj, (ih _ x (by rw [hsz j hj]; omega)).2 ⟨h1, fun p hp => ?_, fun p hp1 hp2 => h3 p (by rw [hsz j hj] at hp1; omega) hp2, h4⟩⟩
      rw [hsz j hj] at hp
      by_cases ep : p = b.size
      · subst ep
        rw [hlast j hj, e]
      · rw [btR_left _ _ p (by omega)]
        exact h2 p (by omega)
theorem stones_l1 (hv : Valid l) (fs : Nat → Int) (b : ByteArray) (hb : b.size < (rd_T24 l 0).f0.size) (R : List ByteArray) (hR : Ev (fun k => cippusref07_stones.l2 k l (srcL l.length fs) b (mayS l b.size l.length) [] 0) R) : ∀ rem i, i + rem = l.length →
    Ev (fun k => cippusref07_stones.l1 k l (srcL l.length fs) b (b.size : Int) (mayS l b.size i) (i : Int)) R := by
  intro rem
  have h5 := hv.five
  have h8 := hv.high
  induction rem with
  | zero =>
    intro i hi
    refine Ev.step (fun k => by rw [cippusref07_stones.l1]) ?_
    rw [show i = l.length by omega]
    exact Ev.if_neg' (by omega) hR
  | succ rem ih =>
    intro i hi
    have h1 := ih (i + 1) (by omega)
    have hs := hv.size i (by omega)
    have hm := mayS_size hv b.size hb i (by omega)
    have hc := cut_size (rd_T24 l (i : Int)).f0 b.size (by omega)
    refine Ev.step (fun k => by rw [cippusref07_stones.l1]) ?_
    rw [next64 i (by omega), next64 b.size (by omega)]
    refine Ev.if_pos' (by omega) (Ev.if_pos' (by omega) (Ev.if_pos' (by omega) (Ev.if_pos' (by omega) (Ev.bind (rhas_ev _ _ (by omega)) ?_))))
    simp only [Int.toNat_natCast]
    unfold mayS at h1
    by_cases e : hasB (mayS l b.size i) (bt (rd_T24 l (i : Int)).f0 (b.size : Int)) = true
    · rw [if_pos e] at h1
      exact Ev.if_pos' e h1
    · rw [if_neg e] at h1
      exact Ev.if_neg' e (Ev.if_pos' (by omega) (Ev.if_pos' (by omega) (Ev.if_pos' (by omega) h1)))
theorem stones_l0 (hv : Valid l) (fs : Nat → Int) (b : ByteArray) (hb : b.size ≤ (rd_T24 l 0).f0.size) (R : List ByteArray) (hR : okB l fs b = true → Ev (fun k => if 0 < (l.length : Int) then (if (b.size : Int) = ((rd_T24 l 0).f0.size : Int) then some [b] else cippusref07_stones.l1 k l (srcL l.length fs) b (b.size : Int) (strOfNums [42]) 0) else none) R) (hN : okB l fs b = false → R = []) : ∀ rem i, i + rem = l.length → (∀ j, j < i → okOne l fs b j = true) →
    Ev (fun k => cippusref07_stones.l0 k l (srcL l.length fs) b (b.size : Int) (i : Int)) R := by
  intro rem
  have h5 := hv.five
  have h8 := hv.high
  induction rem with
  | zero =>
    intro i hi hok
    refine Ev.step (fun k => by rw [cippusref07_stones.l0]) ?_
    refine Ev.if_neg' (by omega) (hR ?_)
    unfold okB
    rw [List.all_eq_true]
    exact fun j hj => hok j (by have := List.mem_range.1 hj; omega)
  | succ rem ih =>
    intro i hi hok
    have hs := hv.size i (by omega)
    refine Ev.step (fun k => by rw [cippusref07_stones.l0]) ?_
    rw [srcL_len, srcL_rd _ _ i (by omega), next64 i (by omega)]
    refine Ev.if_pos' (by omega) (Ev.if_pos' (by omega) (Ev.if_pos' (by omega) ?_))
    have hnext : okOne l fs b i = true → Ev (fun k => cippusref07_stones.l0 k l (srcL l.length fs) b (b.size : Int) ((i + 1 : Nat) : Int)) R := fun h1 => ih (i + 1) (by omega) (fun j hj => by
      by_cases ej : j = i
      · subst ej; exact h1
      · exact hok j (by omega))
    by_cases e : fs i = -1
    · refine Ev.if_pos' e (Ev.if_pos' (by omega) (Ev.if_pos' (by omega) ?_))
      simp only [Int.toNat_natCast]
      have hx : ((rd_T24 l (i : Int)).f0.extract 0 b.size).size = b.size := by rw [ByteArray.size_extract]; omega
      refine Ev.bind (apart_ev _ _ (by omega) (by omega)) ?_
      rw [apN_congr (a' := b) (b' := (rd_T24 l (i : Int)).f0) (fun _ _ => rfl) (fun p hp => by rw [btR_cut _ 0 b.size p (by omega) (by omega), Nat.zero_add])]
      by_cases e2 : apN b (rd_T24 l (i : Int)).f0 b.size > (rd_T24 l (i : Int)).f1
      · refine Ev.if_pos' e2 ?_
        rw [hN (by
          rw [← Bool.not_eq_true, okB_iff]
          intro h
          have := h i (by omega) e
          omega)]
        exact Ev.now _
      · refine Ev.if_neg' e2 (hnext ?_)
        unfold okOne
        rw [decide_eq_true (by omega)]
        simp
    · refine Ev.if_neg' e (hnext ?_)
      unfold okOne
      simp [e]
theorem stones_ev (hv : Valid l) (fs : Nat → Int) : ∀ rem b, b.size + rem = (rd_T24 l 0).f0.size → Ev (fun k => cippusref07_stones.f k l (srcL l.length fs) b) (stonesV l fs rem b) := by
  intro rem
  have h1 := hv.one
  have h5 := hv.five
  have h8 := hv.high
  induction rem with
  | zero =>
    intro b hb
    refine Ev.step (fun k => by rw [cippusref07_stones.f]) ?_
    refine stones_l0 hv fs b (by omega) _ (fun hok => ?_) (fun hno => ?_) l.length 0 (by omega) (fun j hj => by omega)
    · refine Ev.if_pos' (by omega) (Ev.if_pos' (by omega) ?_)
      unfold stonesV
      rw [if_pos hok]
      exact Ev.now _
    · unfold stonesV
      rw [hno]
      rfl
  | succ rem ih =>
    intro b hb
    refine Ev.step (fun k => by rw [cippusref07_stones.f]) ?_
    refine stones_l0 hv fs b (by omega) _ (fun hok => ?_) (fun hno => ?_) l.length 0 (by omega) (fun j hj => by omega)
    · refine Ev.if_pos' (by omega) (Ev.if_neg' (by omega) ?_)
      refine stones_l1 hv fs b (by omega) _ ?_ l.length 0 (by omega)
      unfold stonesV
      rw [if_pos hok]
      have hs := mayS_size hv b.size (by omega) l.length (Nat.le_refl _)
      have h6 : 6 ^ rem ≤ 6 ^ 8 := Nat.pow_le_pow_right (by decide) (by omega)
      have h7 : (6 : Nat) ^ 8 = 1679616 := by decide
      rw [h7] at h6
      have hlen : ∀ j, j < (mayS l b.size l.length).size → (stonesV l fs rem (b ++ (mayS l b.size l.length).extract j (j + 1))).length ≤ 1679616 := fun j hj =>
        Nat.le_trans (stonesV_len hv fs rem _ (by rw [ByteArray.size_append, cut_size _ _ hj]; omega)) h6
      clear h6 h7
      have : ∀ r j, j + r = (mayS l b.size l.length).size → ((List.range j).flatMap fun j => stonesV l fs rem (b ++ (mayS l b.size l.length).extract j (j + 1))).length ≤ j * 1679616 → Ev (fun k => cippusref07_stones.l2 k l (srcL l.length fs) b (mayS l b.size l.length) ((List.range j).flatMap fun j => stonesV l fs rem (b ++ (mayS l b.size l.length).extract j (j + 1))) (j : Int)) ((List.range (mayS l b.size l.length).size).flatMap fun j => stonesV l fs rem (b ++ (mayS l b.size l.length).extract j (j + 1))) := by
        intro r
        induction r with
        | zero =>
          intro j hj _
          refine Ev.step (fun k => by rw [cippusref07_stones.l2]) ?_
          rw [show j = (mayS l b.size l.length).size by omega]
          exact Ev.if_neg' (by omega) (Ev.now _)
        | succ r ihr =>
          intro j hj hl
          have hj2 : j < (mayS l b.size l.length).size := by omega
          have hc := cut_size (mayS l b.size l.length) j hj2
          have hln := hlen j hj2
          refine Ev.step (fun k => by rw [cippusref07_stones.l2]) ?_
          rw [next64 j (by omega)]
          simp only [Int.toNat_natCast]
          refine Ev.if_pos' (by omega) (Ev.if_pos' (by omega) (Ev.if_pos' (by omega) (Ev.if_pos' (by omega) (Ev.if_pos' (by omega) ?_))))
          refine Ev.bind (ih _ (by rw [ByteArray.size_append, hc]; omega)) (Ev.if_pos' (by omega) ?_)
          have h3 := ihr (j + 1) (by omega)
          rw [List.range_succ, List.flatMap_append, List.length_append, Nat.succ_mul] at h3
          simp only [List.flatMap_cons, List.flatMap_nil, List.append_nil] at h3
          exact h3 (Nat.add_le_add hl hln)
      simpa using this (mayS l b.size l.length).size 0 (by omega) (by simp)
    · unfold stonesV
      rw [hno]
      rfl
end
end Go.Proofs.Ytegjollhajgcdaa.P.OwnSt
namespace Go.Proofs.Ytegjollhajgcdaa.P.OwnSt
open Go.RowKit Go.Proofs.YtegjollhajgcdaaW.PrintWords Go.Proofs.YtegjollhajgcdaaW.PrintLast Go.Proofs.YtegjollhajgcdaaW.PrintMore
set_option linter.unusedVariables false
set_option linter.unusedSimpArgs false
theorem rcheck_l1 (l : List S24) (i : Nat) (hi : i < l.length) (hl : l.length ≤ 5) (x : S24) (hx : x = rd_T24 l (i : Int)) (h8 : x.f0.size ≤ 8) (R : Int)
    (hR : Ev (fun k => cippusref07_Check.l0 k l ((i + 1 : Nat) : Int)) R) : ∀ (rem p : Nat), p + rem = x.f0.size → (∀ j, j < p → goodAt x.f0 j = true) →
    Ev (fun k => cippusref07_Check.l1 k l (i : Int) x.f0 (p : Int)) (if goodText x.f0 = false then 2 else if x.f1 < 0 then 1 else if 3 < x.f1 then 1 else R) := by
  intro rem
  induction rem with
  | zero =>
    intro p hp hg
    have hgt : goodText x.f0 = true := goodText_from p hg (by omega)
    refine Ev.step (fun k => by rw [cippusref07_Check.l1]) ?_
    refine Ev.if_neg' (by omega) (Ev.if_pos' (by omega) (Ev.if_pos' (by omega) ?_))
    rw [if_neg (by rw [hgt]; simp), ← hx]
    by_cases h0 : x.f1 < 0
    · rw [if_pos h0]
      exact Ev.if_pos' h0 (Ev.now _)
    · rw [if_neg h0]
      refine Ev.if_neg' h0 ?_
      by_cases h3 : 3 < x.f1
      · rw [if_pos h3]
        exact Ev.if_pos' h3 (Ev.now _)
      · rw [if_neg h3]
        refine Ev.if_neg' h3 ?_
        rw [wrap64_small (by omega) (by omega)]
        exact hR
  | succ rem ih =>
    intro p hp hg
    refine Ev.step (fun k => by rw [cippusref07_Check.l1]) ?_
    refine Ev.if_pos' (by omega) (Ev.if_pos' (by omega) ?_)
    by_cases h1 : bt x.f0 p < 65
    · rw [if_pos (goodText_bad p (by omega) (by simp [goodAt]; omega))]
      exact Ev.if_pos' h1 (Ev.now _)
    · refine Ev.if_neg' h1 ?_
      by_cases h2 : bt x.f0 p > 90
      · rw [if_pos (goodText_bad p (by omega) (by simp [goodAt]; omega))]
        exact Ev.if_pos' h2 (Ev.now _)
      · refine Ev.if_neg' h2 ?_
        rw [wrap64_small (by omega) (by omega)]
        have := ih (p + 1) (by omega) (fun j hj => by
          by_cases e : j = p
          · subst e
            simp [goodAt]
            omega
          · exact hg j (by omega))
        simpa using this
theorem rcheck_l0 (l : List S24) (hl : l.length ≤ 5) : ∀ (rem i : Nat), i + rem = l.length → Ev (fun k => cippusref07_Check.l0 k l (i : Int)) (checkF l rem i) := by
  intro rem
  induction rem with
  | zero =>
    intro i hi
    refine Ev.step (fun k => by rw [cippusref07_Check.l0]) ?_
    exact Ev.if_neg' (by omega) (Ev.now _)
  | succ rem ih =>
    intro i hi
    have hR := ih (i + 1) (by omega)
    refine Ev.step (fun k => by rw [cippusref07_Check.l0]) ?_
    refine Ev.if_pos' (by omega) (Ev.if_pos' (by omega) ?_)
    obtain ⟨x, hx⟩ : ∃ x, x = rd_T24 l (i : Int) := ⟨_, rfl⟩
    rw [← hx]
    unfold checkF
    rw [← hx]
    by_cases h1 : (x.f0.size : Int) < 1
    · refine Ev.if_pos' h1 ?_
      have : oneV l x = 2 := by unfold oneV; rw [if_pos (.inl (by omega))]
      rw [this, if_neg (by decide)]
      exact Ev.step (fun k => by rw [cippusref07_Check.j1]) (Ev.if_pos' rfl (Ev.now _))
    · refine Ev.if_neg' h1 ?_
      by_cases h8 : (x.f0.size : Int) > 8
      · refine Ev.if_pos' h8 ?_
        have : oneV l x = 2 := by unfold oneV; rw [if_pos (.inr (by omega))]
        rw [this, if_neg (by decide)]
        exact Ev.step (fun k => by rw [cippusref07_Check.j1]) (Ev.if_pos' rfl (Ev.now _))
      · refine Ev.if_neg' h8 (Ev.if_pos' (by omega) ?_)
        by_cases hs : x.f0.size = (rd_T24 l 0).f0.size
        · rw [show ((x.f0.size : Int) != ((rd_T24 l 0).f0.size : Int)) = false from by rw [hs]; simp]
          refine Ev.step (fun k => by rw [cippusref07_Check.j1]) (Ev.if_neg' (by decide) ?_)
          have h := rcheck_l1 l i (by omega) hl x hx (by omega) _ hR x.f0.size 0 (by omega) (fun j hj => by omega)
          have e : (if oneV l x = 0 then checkF l rem (i + 1) else oneV l x) = (if goodText x.f0 = false then 2 else if x.f1 < 0 then 1 else if 3 < x.f1 then 1 else checkF l rem (i + 1)) := by
            unfold oneV
            rw [if_neg (show ¬ (x.f0.size < 1 ∨ 8 < x.f0.size) by omega)]
            split
            · simp
            · rw [if_neg (show ¬ (x.f0.size ≠ (rd_T24 l 0).f0.size) by simp [hs])]
              split
              · simp
              · split <;> simp
          rw [e]
          simpa using h
        · have : oneV l x = 2 := by
            unfold oneV
            rw [if_neg (show ¬ (x.f0.size < 1 ∨ 8 < x.f0.size) by omega)]
            split
            · rfl
            · first | rfl | rw [if_pos hs]
          rw [this, if_neg (by decide), show ((x.f0.size : Int) != ((rd_T24 l 0).f0.size : Int)) = true from bne_iff_ne.2 (by omega)]
          exact Ev.step (fun k => by rw [cippusref07_Check.j1]) (Ev.if_pos' rfl (Ev.now _))
theorem rcheck_ev (l : List S24) : Ev (fun k => cippusref07_Check.f k l) (checkV l) := by
  unfold cippusref07_Check.f checkV
  by_cases h0 : l.length = 0
  · rw [if_pos h0]
    exact Ev.if_pos' (by omega) (Ev.now _)
  · rw [if_neg h0]
    refine Ev.if_neg' (by omega) ?_
    by_cases h5 : 5 < l.length
    · rw [if_pos h5]
      exact Ev.if_pos' (by omega) (Ev.now _)
    · rw [if_neg h5]
      refine Ev.if_neg' (by omega) ?_
      simpa using rcheck_l0 l (by omega) l.length 0 (by omega)
end Go.Proofs.Ytegjollhajgcdaa.P.OwnSt
namespace Go.Proofs.Ytegjollhajgcdaa.P.OwnSt
open Go.RowKit Go.Proofs.YtegjollhajgcdaaW.PrintWords Go.Proofs.YtegjollhajgcdaaW.PrintLast Go.Proofs.YtegjollhajgcdaaW.PrintMore
set_option linter.unusedVariables false
set_option linter.unusedSimpArgs false
theorem sumTo_mono {f g : Nat → Int} : ∀ n, (∀ i, i < n → f i ≤ g i) → sumTo f n ≤ sumTo g n := by
  intro n
  induction n with
  | zero => intro _; exact Int.le_refl _
  | succ n ih =>
    intro h
    have h1 := ih (fun i hi => h i (by omega))
    have h2 := h n (by omega)
    show sumTo f n + f n ≤ sumTo g n + g n
    omega
theorem sumTo_const (c : Int) : ∀ n : Nat, sumTo (fun _ => c) n = n * c := by
  intro n
  induction n with
  | zero => simp [sumTo]
  | succ n ih =>
    show sumTo (fun _ => c) n + c = _
    rw [ih, Int.natCast_add, Int.add_mul]
    simp
theorem sumTo_nonneg {f : Nat → Int} (h : ∀ i, 0 ≤ f i) : ∀ n, 0 ≤ sumTo f n := by
  intro n
  induction n with
  | zero => exact Int.le_refl _
  | succ n ih => have := h n; show 0 ≤ sumTo f n + f n; omega
theorem sumTo_pos {f : Nat → Int} (h : ∀ i, 0 ≤ f i) (k : Nat) (hk : 1 ≤ f k) : ∀ n, k < n → 1 ≤ sumTo f n := by
  intro n
  induction n with
  | zero => intro h; omega
  | succ n ih =>
    intro hn
    show 1 ≤ sumTo f n + f n
    by_cases e : k = n
    · subst e
      have := sumTo_nonneg h k
      omega
    · have := ih (by omega)
      have := h n
      omega
theorem free_letter (f : Nat → Int) (n : Nat) (hn : n ≤ 5) : ∃ c : Int, (65 ≤ c ∧ c ≤ 90) ∧ ∀ i, i < n → f i ≠ c := by
  refine Classical.byContradiction fun hno => ?_
  have h1 : ∀ c : Nat, c < 6 → 1 ≤ sumTo (fun i => if f i = 65 + (c : Int) then 1 else 0) n := by
    intro c hc
    refine Classical.byContradiction fun h2 => hno ⟨65 + (c : Int), by omega, fun i hi e => h2 ?_⟩
    exact sumTo_pos (fun i => by split <;> omega) i (by rw [if_pos e]; exact Int.le_refl _) n hi
  have h2 : ∀ i, i < n → sumTo (fun c => if f i = 65 + (c : Int) then 1 else 0) 6 ≤ 1 := by
    intro i _
    have h3 := sumTo_one (f i - 65).toNat 1 6
    have h4 := sumTo_mono (f := fun c : Nat => if f i = 65 + (c : Int) then 1 else 0) (g := fun q => if q = (f i - 65).toNat then 1 else 0) 6 (fun c hc => by
      show (if f i = 65 + (c : Int) then (1 : Int) else 0) ≤ (if c = (f i - 65).toNat then 1 else 0)
      by_cases e : f i = 65 + (c : Int)
      · rw [if_pos e, if_pos (by omega)]
        exact Int.le_refl _
      · rw [if_neg e]
        split <;> omega)
    rw [h3] at h4
    have h5 : (if (f i - 65).toNat < 6 then (1 : Int) else 0) ≤ 1 := by split <;> omega
    omega
  have h3 := sumTo_swap (fun (c : Nat) (i : Nat) => if f i = 65 + (c : Int) then (1 : Int) else 0) n 6
  have h4 := sumTo_mono (f := fun _ => 1) (g := fun (c : Nat) => sumTo (fun i => if f i = 65 + (c : Int) then (1 : Int) else 0) n) 6 h1
  have h5 := sumTo_mono (f := fun (i : Nat) => sumTo (fun (c : Nat) => if f i = 65 + (c : Int) then (1 : Int) else 0) 6) (g := fun _ => 1) n h2
  rw [sumTo_const] at h4 h5
  omega
def stT (L : Nat) (fr : Nat → Int) (x : ByteArray) (p : Nat) : Int := if p < L then (if bt x (p : Int) = 42 then fr p else bt x (p : Int)) else 65
def stX (l : List S24) (t : Nat → Int) : ByteArray := strOfNums ((List.range (rd_T24 l 0).f0.size).map fun (p : Nat) => if hasB (mayS l p l.length) (t p) = true then t p else 42)
def FreeF (l : List S24) (fr : Nat → Int) : Prop := ∀ p : Nat, (65 ≤ fr p ∧ fr p ≤ 90) ∧ ∀ i : Nat, i < l.length → bt (rd_T24 l (i : Int)).f0 (p : Int) ≠ fr p
section
variable {l : List S24}
theorem free_ex (hv : Valid l) : ∃ fr, FreeF l fr := by
  have h : ∀ p : Nat, ∃ c : Int, (65 ≤ c ∧ c ≤ 90) ∧ ∀ i : Nat, i < l.length → bt (rd_T24 l (i : Int)).f0 (p : Int) ≠ c := fun p => free_letter (fun i => bt (rd_T24 l (i : Int)).f0 (p : Int)) l.length hv.five
  exact Classical.axiomOfChoice h
theorem stones_iff (hv : Valid l) (s : Nat → Int) (x : ByteArray) : x ∈ stonesV l s (rd_T24 l 0).f0.size ⟨#[]⟩ ↔ x.size = (rd_T24 l 0).f0.size ∧ (∀ p : Nat, p < (rd_T24 l 0).f0.size → bt x (p : Int) = 42 ∨ ∃ k, k < l.length ∧ bt (rd_T24 l (k : Int)).f0 (p : Int) = bt x (p : Int)) ∧ okB l s x = true := by
  have h0 : (⟨#[]⟩ : ByteArray).size = 0 := rfl
  rw [mem_stones hv s _ ⟨#[]⟩ x (by rw [h0]; omega), h0]
  constructor
  · rintro ⟨h1, _, h2, h3⟩
    exact ⟨h1, fun p hp => (mayS_has hv p hp _ _ (Nat.le_refl _)).1 (h2 p (by omega) hp), h3⟩
  · rintro ⟨h1, h2, h3⟩
    exact ⟨h1, fun p hp => by omega, fun p _ hp => (mayS_has hv p hp _ _ (Nat.le_refl _)).2 (h2 p hp), h3⟩
theorem hsum_ap (hv : Valid l) (s t : Nat → Int) (x : ByteArray) (i : Nat) (hs : s i = -1) (hx : ∀ p : Nat, p < (rd_T24 l 0).f0.size → (bt x (p : Int) = bt (rd_T24 l (i : Int)).f0 (p : Int) ↔ t p = bt (rd_T24 l (i : Int)).f0 (p : Int))) : hsum l s t i (rd_T24 l 0).f0.size 0 = apN x (rd_T24 l (i : Int)).f0 (rd_T24 l 0).f0.size := by
  rw [hsum_all, apN_sum]
  refine sumTo_congr _ fun p hp => ?_
  show (if hit l s (p : Int) (t p) i = true then (1 : Int) else 0) = (if bt x (p : Int) = bt (rd_T24 l (i : Int)).f0 (p : Int) then 0 else 1)
  unfold hit
  rw [hs]
  by_cases e : bt x (p : Int) = bt (rd_T24 l (i : Int)).f0 (p : Int)
  · rw [if_pos e, (hx p hp).1 e]
    simp
  · rw [if_neg e, if_pos]
    have : t p ≠ bt (rd_T24 l (i : Int)).f0 (p : Int) := fun h => e ((hx p hp).2 h)
    simp
    exact fun h => this h.symm
theorem stT_hsum (hv : Valid l) {s : Nat → Int} {x : ByteArray} {fr : Nat → Int} (hf : FreeF l fr) (i : Nat) (hi : i < l.length) (hs : s i = -1) : hsum l s (stT (rd_T24 l 0).f0.size fr x) i (rd_T24 l 0).f0.size 0 = apN x (rd_T24 l (i : Int)).f0 (rd_T24 l 0).f0.size := by
  refine hsum_ap hv s _ x i hs fun p hp => ?_
  unfold stT
  rw [if_pos hp]
  have hg := hv.good i hi p hp
  by_cases e : bt x (p : Int) = 42
  · rw [if_pos e]
    have h1 := (hf p).2 i hi
    exact ⟨fun h => by omega, fun h => absurd h.symm h1⟩
  · rw [if_neg e]
theorem fit_of_stone (hv : Valid l) {s : Nat → Int} {x : ByteArray} (hx : x ∈ stonesV l s (rd_T24 l 0).f0.size ⟨#[]⟩) {fr : Nat → Int} (hf : FreeF l fr) : FitT l s (stT (rd_T24 l 0).f0.size fr x) := by
  obtain ⟨h1, h2, h3⟩ := (stones_iff hv s x).1 hx
  refine ⟨fun p => ?_, fun i hi h => ?_⟩
  · unfold stT
    by_cases hp : p < (rd_T24 l 0).f0.size
    · rw [if_pos hp]
      by_cases e : bt x (p : Int) = 42
      · rw [if_pos e]; exact (hf p).1
      · rw [if_neg e]
        rcases h2 p hp with h | ⟨k, hk, h⟩
        · exact absurd h e
        · rw [← h]; exact hv.good k hk p hp
    · rw [if_neg hp]; omega
  · by_cases e : s i = -1
    · rw [stT_hsum hv hf i hi e]
      have := (okB_iff.1 h3) i hi e
      rw [h1] at this
      exact this
    · exact absurd (hsum_none e _ _) h
theorem stX_at (hv : Valid l) {t : Nat → Int} (ht : GoodT t) (p : Nat) (hp : p < (rd_T24 l 0).f0.size) : bt (stX l t) (p : Int) = if hasB (mayS l p l.length) (t p) = true then t p else 42 := by
  unfold stX
  rw [bt_str _ p (fun z hz => by
    rw [List.mem_map] at hz
    obtain ⟨q, _, rfl⟩ := hz
    have := ht q
    split <;> omega) (by simpa using hp)]
  simp [List.getD_eq_getElem?_getD, hp]
theorem stX_size (hv : Valid l) (t : Nat → Int) : (stX l t).size = (rd_T24 l 0).f0.size := by
  unfold stX
  rw [strOfNums_size]
  simp
theorem stX_hsum (hv : Valid l) {s t : Nat → Int} (ht : GoodT t) (i : Nat) (hi : i < l.length) (hs : s i = -1) : hsum l s t i (rd_T24 l 0).f0.size 0 = apN (stX l t) (rd_T24 l (i : Int)).f0 (rd_T24 l 0).f0.size := by
  refine hsum_ap hv s _ _ i hs fun p hp => ?_
  rw [stX_at hv ht p hp]
  have hg := hv.good i hi p hp
  have h1 := mayS_has hv p hp (t p) l.length (Nat.le_refl _)
  by_cases e : hasB (mayS l p l.length) (t p) = true
  · rw [if_pos e]
  · rw [if_neg e]
    exact ⟨fun h => by omega, fun h => absurd (h1.2 (.inr ⟨i, hi, h.symm⟩)) e⟩
theorem stone_of_fit (hv : Valid l) {s t : Nat → Int} (ht : FitT l s t) : stX l t ∈ stonesV l s (rd_T24 l 0).f0.size ⟨#[]⟩ := by
  refine (stones_iff hv s _).2 ⟨stX_size hv t, fun p hp => ?_, okB_iff.2 fun i hi e => ?_⟩
  · rw [stX_at hv ht.1 p hp]
    by_cases e : hasB (mayS l p l.length) (t p) = true
    · rw [if_pos e]
      rcases (mayS_has hv p hp (t p) l.length (Nat.le_refl _)).1 e with h | h
      · exact .inl h
      · exact .inr h
    · rw [if_neg e]; exact .inl rfl
  · rw [stX_size hv, ← stX_hsum hv ht.1 i hi e]
    have h1 := ht.2 i hi
    have h2 := hv.err i hi
    by_cases e0 : hsum l s t i (rd_T24 l 0).f0.size 0 = 0
    · omega
    · exact h1 e0
theorem stones_lies (hv : Valid l) (s : Nat → Int) : (0 < (stonesV l s (rd_T24 l 0).f0.size ⟨#[]⟩).length) ↔ liesB l s = true := by
  constructor
  · intro h
    obtain ⟨x, hx⟩ := List.exists_mem_of_length_pos h
    obtain ⟨fr, hf⟩ := free_ex hv
    exact lies_of_fit hv (fit_of_stone hv hx hf)
  · intro h
    obtain ⟨t, ht, _⟩ := fit_of_lies h
    exact List.length_pos_of_mem (stone_of_fit hv ht)
def truthsV (l : List S24) : List S95 := (knownV l).map fun s => ⟨srcL l.length s, stonesV l s (rd_T24 l 0).f0.size ⟨#[]⟩⟩
theorem rd_L4_map (n : Nat) (ts : List (Nat → Int)) (i : Nat) (s : Nat → Int) (h : ts[i]? = some s) : rd_L4 (ts.map (srcL n)) (i : Int) = srcL n s := by
  unfold rd_L4
  rw [List.getD_eq_getElem?_getD, Int.toNat_natCast, List.getElem?_map, h]
  rfl
theorem truths_ev (hv : Valid l) : Ev (fun k => cippusref07_Truths.f k l) (truthsV l) := by
  unfold cippusref07_Truths.f
  refine Ev.bind (trees_all hv) ?_
  have hlen := treesG_len l l.length 0 (fun _ => 0) (by have := hv.five; omega)
  have h6 : 6 ^ l.length ≤ 6 ^ 5 := Nat.pow_le_pow_right (by decide) hv.five
  have h7 : (6 : Nat) ^ 5 = 7776 := by decide
  rw [h7] at h6
  have hlen2 := Nat.le_trans hlen h6
  clear hlen h6 h7
  have hT : truthsV l = ((treesG l l.length 0 (fun _ => 0)).filter (liesB l)).map fun s => ⟨srcL l.length s, stonesV l s (rd_T24 l 0).f0.size ⟨#[]⟩⟩ := rfl
  rw [hT]
  generalize treesG l l.length 0 (fun _ => 0) = ts at hlen2 ⊢
  have : ∀ r j, j + r = ts.length → Ev (fun k => cippusref07_Truths.l0 k l (((ts.take j).filter (liesB l)).map fun s => ⟨srcL l.length s, stonesV l s (rd_T24 l 0).f0.size ⟨#[]⟩⟩) (ts.map (srcL l.length)) (j : Int)) ((ts.filter (liesB l)).map fun s => ⟨srcL l.length s, stonesV l s (rd_T24 l 0).f0.size ⟨#[]⟩⟩) := by
    intro r
    induction r with
    | zero =>
      intro j hj
      refine Ev.step (fun k => by rw [cippusref07_Truths.l0]) ?_
      rw [show j = ts.length by omega, List.take_length]
      exact Ev.if_neg' (by rw [List.length_map]; omega) (Ev.now _)
    | succ r ih =>
      intro j hj
      have h1 := ih (j + 1) (by omega)
      have hj2 : j < ts.length := by omega
      have hget : ts[j]? = some ts[j] := List.getElem?_eq_getElem hj2
      have htk : ts.take (j + 1) = ts.take j ++ [ts[j]] := by rw [List.take_add_one, hget]; rfl
      have hfl : ((ts.take j).filter (liesB l)).length ≤ j := Nat.le_trans (List.length_filter_le _ _) (by rw [List.length_take]; omega)
      refine Ev.step (fun k => by rw [cippusref07_Truths.l0]) ?_
      rw [rd_L4_map _ _ _ _ hget, next64 j (by omega)]
      refine Ev.if_pos' (by rw [List.length_map]; omega) (Ev.if_pos' (by omega) ?_)
      refine Ev.bind (stones_ev hv _ (rd_T24 l 0).f0.size ⟨#[]⟩ (by show 0 + _ = _; omega)) ?_
      have hs := stones_lies hv ts[j]
      rw [htk, List.filter_append, List.map_append] at h1
      by_cases e : liesB l ts[j] = true
      · have h2 := hs.2 e
        refine Ev.if_pos' (by omega) (Ev.if_pos' (by rw [List.length_map]; omega) ?_)
        rw [show [ts[j]].filter (liesB l) = [ts[j]] by simp [e]] at h1
        exact h1
      · have h2 : ¬ 0 < (stonesV l ts[j] (rd_T24 l 0).f0.size ⟨#[]⟩).length := fun h => e (hs.1 h)
        refine Ev.if_neg' (by omega) ?_
        rw [show [ts[j]].filter (liesB l) = [] by simp [e]] at h1
        simpa using h1
  simpa using this ts.length 0 (by omega)
end
theorem checkV_valid {l : List S24} (h : checkV l = 0) : Valid l := valid_of_check h
theorem rknown_ev (l : List S24) : Ev (fun k => cippusref07_known.f k l) (if knownE l = 0 then (truthsV l, 0) else ([], knownE l)) := by
  unfold cippusref07_known.f
  refine Ev.bind (rcheck_ev l) ?_
  by_cases hc : checkV l = 0
  · have hv := checkV_valid hc
    refine Ev.if_pos' hc (Ev.bind (truths_ev hv) ?_)
    by_cases hk : knownV l = []
    · have e : knownE l = 9 := by unfold knownE; rw [if_neg (by rw [hc]; decide), if_pos hk]
      rw [if_neg (show ¬ knownE l = 0 by rw [e]; decide), e]
      exact Ev.if_pos' (show ((truthsV l).length : Int) = 0 by unfold truthsV; rw [hk]; rfl) (Ev.now _)
    · have e : knownE l = 0 := by unfold knownE; rw [if_neg (by rw [hc]; decide), if_neg hk]
      rw [if_pos e]
      refine Ev.if_neg' ?_ (Ev.now _)
      unfold truthsV
      rw [List.length_map]
      have := List.length_pos_iff.2 hk
      omega
  · have e : knownE l = checkV l := by unfold knownE; rw [if_pos hc]
    rw [e, if_neg hc]
    exact Ev.if_neg' hc (Ev.now _)
theorem valid_of_known {l : List S24} (h : knownE l = 0) : Valid l := checkV_valid (knownE_zero h).1
theorem truthsV_len (l : List S24) : (truthsV l).length = (knownV l).length := by simp [truthsV]
theorem truthsV_at (l : List S24) (j : Nat) (s : Nat → Int) (h : (knownV l)[j]? = some s) : rd_T95 (truthsV l) (j : Int) = ⟨srcL l.length s, stonesV l s (rd_T24 l 0).f0.size ⟨#[]⟩⟩ := by
  unfold rd_T95 truthsV
  rw [List.getD_eq_getElem?_getD, Int.toNat_natCast, List.getElem?_map, h]
  rfl
end Go.Proofs.Ytegjollhajgcdaa.P.OwnSt
namespace Go.Proofs.Ytegjollhajgcdaa.P.OwnSt
open Go.RowKit Go.Proofs.YtegjollhajgcdaaW.PrintWords Go.Proofs.YtegjollhajgcdaaW.PrintLast Go.Proofs.YtegjollhajgcdaaW.PrintMore
set_option linter.unusedVariables false
set_option linter.unusedSimpArgs false
section
variable {l : List S24}
theorem stonesV_len8 (hv : Valid l) (s : Nat → Int) : (stonesV l s (rd_T24 l 0).f0.size ⟨#[]⟩).length ≤ 1679616 := by
  have h1 := stonesV_len hv s (rd_T24 l 0).f0.size ⟨#[]⟩ (by show 0 + _ = _; omega)
  have h6 : 6 ^ (rd_T24 l 0).f0.size ≤ 6 ^ 8 := Nat.pow_le_pow_right (by decide) hv.high
  have h7 : (6 : Nat) ^ 8 = 1679616 := by decide
  rw [h7] at h6
  exact Nat.le_trans h1 h6
end
def errsX (l : List S24) (s : Nat → Int) (x : ByteArray) (n : Nat) : Int := sumTo (fun i => if s i = -1 then apN x (rd_T24 l (i : Int)).f0 x.size else apN (rd_T24 l (s i)).f0 (rd_T24 l (i : Int)).f0 (rd_T24 l (s i)).f0.size) n
section
variable {l : List S24}
theorem errsX_sum (hv : Valid l) (s : Nat → Int) (x : ByteArray) (hx : x.size = (rd_T24 l 0).f0.size) (t : Nat → Int) (ht : ∀ i, i < l.length → s i = -1 → hsum l s t i (rd_T24 l 0).f0.size 0 = apN x (rd_T24 l (i : Int)).f0 (rd_T24 l 0).f0.size) : errsX l s x l.length = costT l s t + apTo l s l.length := by
  unfold errsX costT
  rw [cost_sum, apTo_sum, ← sumTo_add]
  refine sumTo_congr _ fun i hi => ?_
  show (if s i = -1 then apN x (rd_T24 l (i : Int)).f0 x.size else apN (rd_T24 l (s i)).f0 (rd_T24 l (i : Int)).f0 (rd_T24 l (s i)).f0.size) = hsum l s t i (rd_T24 l 0).f0.size 0 + (if s i = -1 then 0 else apN (rd_T24 l (s i)).f0 (rd_T24 l (i : Int)).f0 (rd_T24 l (s i)).f0.size)
  by_cases e : s i = -1
  · rw [if_pos e, if_pos e, ht i hi e, hx, Int.add_zero]
  · rw [if_neg e, if_neg e, hsum_none e, Int.zero_add]
theorem errsX_ge (hv : Valid l) (hk : knownE l = 0) {s : Nat → Int} (hs : s ∈ knownV l) {x : ByteArray} (hx : x ∈ stonesV l s (rd_T24 l 0).f0.size ⟨#[]⟩) : (fewestV l).1 ≤ errsX l s x l.length := by
  obtain ⟨fr, hf⟩ := free_ex hv
  have h1 := fit_of_stone hv hx hf
  rw [errsX_sum hv s x ((stones_iff hv s x).1 hx).1 _ (fun i hi e => stT_hsum hv hf i hi e)]
  have h2 := numF_le h1
  have h3 := fewest_le hk hs
  omega
theorem errsX_att (hv : Valid l) (hk : knownE l = 0) : ∃ s ∈ knownV l, ∃ x ∈ stonesV l s (rd_T24 l 0).f0.size ⟨#[]⟩, (fewestV l).1 = errsX l s x l.length := by
  obtain ⟨s, hs, e⟩ := fewest_att hk
  obtain ⟨t, ht, e2⟩ := numF_att (knownV_mem hs).2.2
  refine ⟨s, hs, _, stone_of_fit hv ht, ?_⟩
  rw [errsX_sum hv s _ (stX_size hv t) t (fun i hi e => stX_hsum hv ht.1 i hi e)]
  omega
theorem errsX_bound (hv : Valid l) {s : Nat → Int} (hs : s ∈ knownV l) {x : ByteArray} (hx : x.size = (rd_T24 l 0).f0.size) : ∀ n, n ≤ l.length → 0 ≤ errsX l s x n ∧ errsX l s x n ≤ 8 * n := by
  intro n
  have h8 := hv.high
  have hk := knownV_mem hs
  induction n with
  | zero => intro _; exact ⟨Int.le_refl _, Int.le_refl _⟩
  | succ n ih =>
    intro hn
    have h1 := ih (by omega)
    have e : errsX l s x (n + 1) = errsX l s x n + (if s n = -1 then apN x (rd_T24 l (n : Int)).f0 x.size else apN (rd_T24 l (s n)).f0 (rd_T24 l (n : Int)).f0 (rd_T24 l (s n)).f0.size) := rfl
    rw [e]
    by_cases e2 : s n = -1
    · rw [if_pos e2]
      have := apN_bound x (rd_T24 l (n : Int)).f0 x.size
      omega
    · rw [if_neg e2]
      have h2 := hk.1 n (by omega)
      obtain ⟨y, hy⟩ : ∃ y : Nat, s n = (y : Int) := ⟨(s n).toNat, by omega⟩
      rw [hy]
      have := apN_bound (rd_T24 l (y : Int)).f0 (rd_T24 l (n : Int)).f0 (rd_T24 l (y : Int)).f0.size
      have := hv.size y (by omega)
      omega
def BestAt (l : List S24) (q j : Nat) (b : Int) : Prop := (fewestV l).1 ≤ b ∧ b ≤ 40 ∧ (∀ s ∈ (knownV l).take q, ∀ x ∈ stonesV l s (rd_T24 l 0).f0.size ⟨#[]⟩, b ≤ errsX l s x l.length) ∧ (∀ s, (knownV l)[q]? = some s → ∀ x ∈ (stonesV l s (rd_T24 l 0).f0.size ⟨#[]⟩).take j, b ≤ errsX l s x l.length)
theorem best_next {q : Nat} {s : Nat → Int} (hs : (knownV l)[q]? = some s) {b : Int} (h : BestAt l q (stonesV l s (rd_T24 l 0).f0.size ⟨#[]⟩).length b) : BestAt l (q + 1) 0 b := by
  refine ⟨h.1, h.2.1, fun s' hs' x hx => ?_, fun s' _ x hx => by simp at hx⟩
  rw [List.take_add_one, hs, List.mem_append] at hs'
  rcases hs' with h1 | h1
  · exact h.2.2.1 s' h1 x hx
  · have e : s' = s := by simpa using h1
    subst e
    exact h.2.2.2 s' hs x (by rw [List.take_length]; exact hx)
theorem best_step (hv : Valid l) (hk : knownE l = 0) {q j : Nat} {s : Nat → Int} (hs : (knownV l)[q]? = some s) {x : ByteArray} (hx : (stonesV l s (rd_T24 l 0).f0.size ⟨#[]⟩)[j]? = some x) {b : Int} (h : BestAt l q j b) : BestAt l q (j + 1) (mn b (errsX l s x l.length)) := by
  have hxm : x ∈ stonesV l s (rd_T24 l 0).f0.size ⟨#[]⟩ := List.mem_of_getElem? hx
  have hsm : s ∈ knownV l := List.mem_of_getElem? hs
  have h1 := errsX_ge hv hk hsm hxm
  have h2 : mn b (errsX l s x l.length) ≤ b ∧ mn b (errsX l s x l.length) ≤ errsX l s x l.length ∧ (fewestV l).1 ≤ mn b (errsX l s x l.length) := by
    have := h.1
    unfold mn
    split <;> omega
  refine ⟨h2.2.2, by have := h.2.1; omega, fun s' hs' y hy => by have := h.2.2.1 s' hs' y hy; omega, fun s' hs' y hy => ?_⟩
  have e : s = s' := Option.some.inj (hs.symm.trans hs')
  subst e
  rw [List.take_add_one, hx, List.mem_append] at hy
  rcases hy with hy | hy
  · have := h.2.2.2 s hs y hy
    omega
  · have : y = x := by simpa using hy
    subst this
    exact h2.2.1
theorem best_end (hv : Valid l) (hk : knownE l = 0) {b : Int} (h : BestAt l (knownV l).length 0 b) : b = (fewestV l).1 := by
  obtain ⟨s, hs, x, hx, e⟩ := errsX_att hv hk
  have h1 := h.2.2.1 s (by rw [List.take_length]; exact hs) x hx
  have := h.1
  omega
theorem rfewest_l2 (hv : Valid l) (hk : knownE l = 0) (q j : Nat) (s : Nat → Int) (hs : (knownV l)[q]? = some s) (x : ByteArray) (hx : (stonesV l s (rd_T24 l 0).f0.size ⟨#[]⟩)[j]? = some x) (b : Int) (R : Int × Int)
    (hR : Ev (fun k => cippusref07_Fewest.l1 k l (truthsV l) (mn b (errsX l s x l.length)) (q : Int) ((j + 1 : Nat) : Int) (srcL l.length s) (stonesV l s (rd_T24 l 0).f0.size ⟨#[]⟩)) R) : ∀ r i, i + r = l.length →
    Ev (fun k => cippusref07_Fewest.l2 k l (truthsV l) b (q : Int) (j : Int) (errsX l s x i) (i : Int) (srcL l.length s) (stonesV l s (rd_T24 l 0).f0.size ⟨#[]⟩)) R := by
  intro r
  have h5 := hv.five
  have h8 := hv.high
  have hsm : s ∈ knownV l := List.mem_of_getElem? hs
  have hxm : x ∈ stonesV l s (rd_T24 l 0).f0.size ⟨#[]⟩ := List.mem_of_getElem? hx
  have hxs := ((stones_iff hv s x).1 hxm).1
  have hln := stonesV_len8 hv s
  have hj : j < (stonesV l s (rd_T24 l 0).f0.size ⟨#[]⟩).length := by
    rw [List.getElem?_eq_some_iff] at hx
    exact hx.1
  have hrd : rdOf ByteArray.empty (stonesV l s (rd_T24 l 0).f0.size ⟨#[]⟩) (j : Int) = x := by
    unfold rdOf
    rw [List.getD_eq_getElem?_getD, Int.toNat_natCast, hx]
    rfl
  induction r with
  | zero =>
    intro i hi
    refine Ev.step (fun k => by rw [cippusref07_Fewest.l2]) ?_
    rw [show i = l.length by omega, wrap64_small (x := (j : Int) + 1) (by omega) (by omega), show ((j : Int) + 1) = ((j + 1 : Nat) : Int) by omega]
    exact Ev.if_neg' (by omega) hR
  | succ r ih =>
    intro i hi
    have hi2 : i < l.length := by omega
    have h1 := ih (i + 1) (by omega)
    have hb := errsX_bound hv hsm hxs i (by omega)
    have hb2 := errsX_bound hv hsm hxs (i + 1) (by omega)
    have hsi := hv.size i hi2
    have e : errsX l s x (i + 1) = errsX l s x i + (if s i = -1 then apN x (rd_T24 l (i : Int)).f0 x.size else apN (rd_T24 l (s i)).f0 (rd_T24 l (i : Int)).f0 (rd_T24 l (s i)).f0.size) := rfl
    have hki := (knownV_mem hsm).1 i hi2
    refine Ev.step (fun k => by rw [cippusref07_Fewest.l2]) ?_
    rw [srcL_len, srcL_rd _ _ i hi2, next64 i (by omega), hrd]
    refine Ev.if_pos' (by omega) (Ev.if_pos' (by omega) (Ev.if_pos' (by omega) ?_))
    by_cases e2 : s i = -1
    · rw [if_pos e2] at e
      refine Ev.if_pos' e2 (Ev.if_pos' (by omega) (Ev.if_pos' (by omega) (Ev.bind (apart_ev _ _ (by omega) (by omega)) ?_)))
      rw [← e, wrap64_small (by omega) (by omega)]
      exact h1
    · rw [if_neg e2] at e
      obtain ⟨y, hy⟩ : ∃ y : Nat, s i = (y : Int) := ⟨(s i).toNat, by omega⟩
      have hsy := hv.size y (by omega)
      refine Ev.if_neg' e2 (Ev.if_pos' (by omega) (Ev.if_pos' (by omega) ?_))
      rw [hy] at e ⊢
      refine Ev.bind (apart_ev _ _ (by omega) (by omega)) ?_
      rw [← e, wrap64_small (by omega) (by omega)]
      exact h1
theorem rfewest_l1 (hv : Valid l) (hk : knownE l = 0) (q : Nat) (s : Nat → Int) (hs : (knownV l)[q]? = some s) (R : Int × Int)
    (hR : ∀ b, BestAt l (q + 1) 0 b → Ev (fun k => cippusref07_Fewest.l0 k l (truthsV l) b ((q + 1 : Nat) : Int)) R) : ∀ r j b, j + r = (stonesV l s (rd_T24 l 0).f0.size ⟨#[]⟩).length → BestAt l q j b →
    Ev (fun k => cippusref07_Fewest.l1 k l (truthsV l) b (q : Int) (j : Int) (srcL l.length s) (stonesV l s (rd_T24 l 0).f0.size ⟨#[]⟩)) R := by
  intro r
  have hn := known_len l hv.five
  have hq : q < (knownV l).length := by
    rw [List.getElem?_eq_some_iff] at hs
    exact hs.1
  induction r with
  | zero =>
    intro j b hj hb
    refine Ev.step (fun k => by rw [cippusref07_Fewest.l1]) ?_
    rw [next64 q (by omega)]
    refine Ev.if_neg' (by omega) (hR b (best_next hs ?_))
    rw [show (stonesV l s (rd_T24 l 0).f0.size ⟨#[]⟩).length = j by omega]
    exact hb
  | succ r ih =>
    intro j b hj hb
    have hj2 : j < (stonesV l s (rd_T24 l 0).f0.size ⟨#[]⟩).length := by omega
    have hget : (stonesV l s (rd_T24 l 0).f0.size ⟨#[]⟩)[j]? = some (stonesV l s (rd_T24 l 0).f0.size ⟨#[]⟩)[j] := List.getElem?_eq_getElem hj2
    refine Ev.step (fun k => by rw [cippusref07_Fewest.l1]) ?_
    refine Ev.if_pos' (by omega) ?_
    exact rfewest_l2 hv hk q j s hs _ hget b R (ih (j + 1) _ (by omega) (best_step hv hk hs hget hb)) l.length 0 (by omega)
end
theorem rfewest_ev (l : List S24) : Ev (fun k => cippusref07_Fewest.f k l) (fewestV l) := by
  unfold cippusref07_Fewest.f
  refine Ev.bind (rknown_ev l) ?_
  by_cases hk : knownE l = 0
  · rw [if_pos (show knownE l = 0 from hk)]
    refine Ev.if_pos' rfl ?_
    have hv := valid_of_known hk
    have h5 := hv.five
    have hn := known_len l h5
    have htl := truthsV_len l
    have hF : fewestV l = ((fewestV l).1, 0) := by unfold fewestV; rw [if_pos hk]
    have h0 : BestAt l 0 0 ((l.length : Int) * 8) := by
      obtain ⟨s, hs, x, hx, e⟩ := errsX_att hv hk
      have := errsX_bound hv hs ((stones_iff hv s x).1 hx).1 l.length (Nat.le_refl _)
      exact ⟨by omega, by omega, fun s hs => by simp at hs, fun s _ x hx => by simp at hx⟩
    have : ∀ r q b, q + r = (knownV l).length → BestAt l q 0 b → Ev (fun k => cippusref07_Fewest.l0 k l (truthsV l) b (q : Int)) ((fewestV l).1, 0) := by
      intro r
      induction r with
      | zero =>
        intro q b hq hb
        refine Ev.step (fun k => by rw [cippusref07_Fewest.l0]) ?_
        rw [show q = (knownV l).length by omega] at hb ⊢
        rw [best_end hv hk hb]
        exact Ev.if_neg' (by omega) (Ev.now _)
      | succ r ih =>
        intro q b hq hb
        have hq2 : q < (knownV l).length := by omega
        have hget : (knownV l)[q]? = some (knownV l)[q] := List.getElem?_eq_getElem hq2
        refine Ev.step (fun k => by rw [cippusref07_Fewest.l0]) ?_
        rw [truthsV_at l q _ hget]
        refine Ev.if_pos' (by omega) (Ev.if_pos' (by omega) ?_)
        exact rfewest_l1 hv hk q _ hget _ (fun b' hb' => ih (q + 1) b' (by omega) hb') (stonesV l (knownV l)[q] (rd_T24 l 0).f0.size ⟨#[]⟩).length 0 b (by omega) hb
    rw [hF, wrap64_small (by omega) (by omega)]
    exact this (knownV l).length 0 _ (by omega) h0
  · have e : fewestV l = (0, knownE l) := by unfold fewestV; rw [if_neg hk]
    rw [if_neg (show ¬ knownE l = 0 from hk), e]
    exact Ev.if_neg' hk (Ev.now _)
end Go.Proofs.Ytegjollhajgcdaa.P.OwnSt
namespace Go.Proofs.Ytegjollhajgcdaa.P.OwnSt
open Go.RowKit Go.Proofs.YtegjollhajgcdaaW.PrintWords Go.Proofs.YtegjollhajgcdaaW.PrintLast Go.Proofs.YtegjollhajgcdaaW.PrintMore
set_option linter.unusedVariables false
set_option linter.unusedSimpArgs false
theorem sameCopies_ev (a : List S24) (h8 : a.length < 1000000) : Ev (fun k => cippuskit_SameCopies.f k a a) true := by
  have : ∀ rem i, i + rem = a.length → Ev (fun k => cippuskit_SameCopies.l0 k a a true (i : Int)) true := by
    intro rem
    induction rem with
    | zero =>
      intro i hi
      refine Ev.step (fun k => by rw [cippuskit_SameCopies.l0]) ?_
      exact Ev.if_pos' rfl (Ev.if_neg' (by omega) (Ev.now _))
    | succ rem ih =>
      intro i hi
      refine Ev.step (fun k => by rw [cippuskit_SameCopies.l0]) ?_
      refine Ev.if_pos' rfl (Ev.if_pos' (by omega) (Ev.if_pos' (by omega) (Ev.if_pos' (by omega) ?_)))
      simp only [beq_self_eq_true, Bool.and_self]
      rw [next64 i (by omega)]
      exact ih (i + 1) (by omega)
  have h := this a.length 0 (by omega)
  unfold cippuskit_SameCopies.f
  rw [beq_self_eq_true]
  exact h
theorem large_end (l : List S24) (s : Int) (i : Int) : ∃ b, Ev (fun k => cippuslaw07_large.j1 k l s i false) b ∧ (b = false → l.length ≤ 20) := by
  by_cases h : (l.length : Int) > 20
  · refine ⟨true, Ev.step (fun k => by rw [cippuslaw07_large.j1]) (Ev.if_neg' (by decide) (Ev.if_pos' h (Ev.now _))), by simp⟩
  · by_cases h2 : s > 5
    · exact ⟨_, Ev.step (fun k => by rw [cippuslaw07_large.j1]) (Ev.if_neg' (by decide) (Ev.if_neg' h (Ev.if_pos' h2 (Ev.bind (rcheck_ev l) (Ev.now _))))), fun _ => by omega⟩
    · exact ⟨_, Ev.step (fun k => by rw [cippuslaw07_large.j1]) (Ev.if_neg' (by decide) (Ev.if_neg' h (Ev.if_neg' h2 (Ev.now _)))), fun _ => by omega⟩
theorem large_ev (l : List S24) : ∃ b, Ev (fun k => cippuslaw07_large.f k l) b ∧ (b = false → l.length ≤ 20) := by
  have : ∀ r i s, i + r = min l.length 20 → 0 ≤ s → s ≤ 9 * (i : Int) → ∃ b, Ev (fun k => cippuslaw07_large.l0 k l s (i : Int)) b ∧ (b = false → l.length ≤ 20) := by
    intro r
    induction r with
    | zero =>
      intro i s hi h0 h9
      obtain ⟨b, hb, h⟩ := large_end l s (i : Int)
      refine ⟨b, Ev.step (fun k => by rw [cippuslaw07_large.l0]) ?_, h⟩
      by_cases e : (i : Int) < (l.length : Int)
      · refine Ev.if_pos' e ?_
        rw [decide_eq_false (by omega)]
        exact hb
      · exact Ev.if_neg' e hb
    | succ r ih =>
      intro i s hi h0 h9
      have hm : 0 ≤ mx 0 (mn 9 (rd_T24 l (i : Int)).f1) ∧ mx 0 (mn 9 (rd_T24 l (i : Int)).f1) ≤ 9 := by
        unfold mx mn
        split <;> split <;> omega
      by_cases e : ((rd_T24 l (i : Int)).f0.size : Int) > 40
      · refine ⟨true, Ev.step (fun k => by rw [cippuslaw07_large.l0]) (Ev.if_pos' (by omega) ?_), by simp⟩
        rw [decide_eq_true (by omega)]
        exact Ev.step (fun k => by rw [cippuslaw07_large.j1]) (Ev.if_pos' rfl (Ev.if_pos' (by omega) (Ev.if_pos' (by omega) (Ev.if_pos' e (Ev.now _)))))
      · obtain ⟨b, hb, h⟩ := ih (i + 1) (s + mx 0 (mn 9 (rd_T24 l (i : Int)).f1)) (by omega) (by omega) (by omega)
        refine ⟨b, Ev.step (fun k => by rw [cippuslaw07_large.l0]) (Ev.if_pos' (by omega) ?_), h⟩
        rw [decide_eq_true (by omega)]
        refine Ev.step (fun k => by rw [cippuslaw07_large.j1]) (Ev.if_pos' rfl (Ev.if_pos' (by omega) (Ev.if_pos' (by omega) (Ev.if_neg' e ?_))))
        rw [next64 i (by omega), wrap64_small (by omega) (by omega)]
        exact hb
  unfold cippuslaw07_large.f
  exact this (min l.length 20) 0 0 (by omega) (by omega) (by omega)
end Go.Proofs.Ytegjollhajgcdaa.P.OwnSt
namespace Go.Proofs.Ytegjollhajgcdaa.Pure
open Go.RowKit Go.Proofs.Ytegjollhajgcdaa.P Go.Proofs.Ytegjollhajgcdaa.P.OwnSt Go.Proofs.YtegjollhajgcdaaW.PrintWords Go.Proofs.YtegjollhajgcdaaW.PrintLast
set_option linter.unusedVariables false
set_option linter.unusedSimpArgs false
theorem every4_some {l0 l1 l2 : List S24} {r : Bool} (h : cippuslaw07_every4.f l0 l1 l2 = some r) : l0.length ≤ 20 ∧ l1.length ≤ 20 ∧ l2.length ≤ 20 := by
  unfold cippuslaw07_every4.f at h
  by_cases e : l0.length ≤ 20 ∧ l1.length ≤ 20 ∧ l2.length ≤ 20
  · exact e
  · rw [if_neg e] at h
    cases h
theorem loop4_ev (ls : List (List S24)) (hl : ls.length ≤ 10) (h : ∀ j : Nat, j < ls.length → (rd_L8 ls (j : Int)).length ≤ 20) : Ev (fun k => cippuslaw07_loop4.f k ls) true := by
  have : ∀ r j, j + r = ls.length → Ev (fun k => cippuslaw07_loop4.l0 k ls (j : Int)) true := by
    intro r
    induction r with
    | zero =>
      intro j hj
      refine Ev.step (fun k => by rw [cippuslaw07_loop4.l0]) ?_
      exact Ev.if_neg' (by omega) (Ev.now _)
    | succ r ih =>
      intro j hj
      have h20 := h j (by omega)
      refine Ev.step (fun k => by rw [cippuslaw07_loop4.l0]) ?_
      refine Ev.if_pos' (by omega) (Ev.if_pos' (by omega) ?_)
      rw [copyCopies_eq _ (by omega), next64 j (by omega)]
      unfold stemma_Fewest.f
      simp only [Option.bind_some]
      refine Ev.bind (rfewest_ev _) (Ev.if_pos' rfl (Ev.if_pos' rfl (Ev.bind (sameCopies_ev _ (by omega)) (Ev.if_pos' rfl ?_))))
      exact ih (j + 1) (by omega)
  unfold cippuslaw07_loop4.f
  exact this ls.length 0 (by omega)
theorem fewest_pure (l0 : List S24) (b : ByteArray) (e : Int) (s : Bool) (l2 : List Int) (hl : l2.length < 4611686018427387904) : ∃ k, cippuslaw07_StemmaFewest.f k l0 b e s l2 = some true := by
  obtain ⟨a1, b1, e1⟩ := newUrn_ok l2 (by have : maxLen = 9223372036854775807 := rfl; omega)
  obtain ⟨l, st, src, a2, b2, e2, h, hn, hp⟩ := copiesOf_made a1 b1 4 5 1 (by omega) (by omega) (by omega) (by omega) (by omega) (by omega)
  refine Ev.rounds ?_
  unfold cippuslaw07_StemmaFewest.f cippuskit_NewUrn.f cippuskit_CopiesOf.f
  rw [e1]
  simp only [Option.bind_some, e2]
  have h5 := h.five
  rw [copyCopies_eq _ (by omega)]
  simp only [Option.bind_some]
  refine Ev.if_pos' (by rw [List.length_singleton]; omega) ?_
  obtain ⟨x, hx, hx2⟩ := large_ev l0
  obtain ⟨y, hy, hy2⟩ := large_ev (l ++ [(⟨b, e, s⟩ : S24)])
  have hj : ∀ z : Bool, (z = false → l0.length ≤ 20) → Ev (fun k => cippuslaw07_StemmaFewest.j0 k l0 l (l ++ [(⟨b, e, s⟩ : S24)]) z) true := by
    intro z hz
    refine Ev.step (fun k => by rw [cippuslaw07_StemmaFewest.j0]) ?_
    cases z with
    | true => exact Ev.if_pos' rfl (Ev.bind found_ev (Ev.now _))
    | false =>
      refine Ev.if_neg' (by decide) ?_
      unfold cippuslaw07_every4.f
      rw [if_pos ⟨hz rfl, by omega, by rw [List.length_append, List.length_singleton]; omega⟩]
      simp only [Option.bind_some]
      exact Ev.bind found_ev (Ev.now _)
  refine Ev.bind hx ?_
  cases x with
  | true => exact Ev.if_pos' rfl (hj true (by simp))
  | false => exact Ev.if_neg' (by decide) (Ev.bind hy (hj y (fun _ => hx2 rfl)))
end Go.Proofs.Ytegjollhajgcdaa.Pure
namespace Go.Proofs.Ytegjollhajgcdaa.P
open Go.RowKit Go.Proofs.YtegjollhajgcdaaW.PrintWords Go.Proofs.YtegjollhajgcdaaW.PrintLast Go.Proofs.YtegjollhajgcdaaW.PrintMore
attribute [local go_sem] max2_int min2_int max_two min_two max_three min_three max_four min_four   -- for this text's walks alone
open OwnSt
set_option linter.unusedVariables false
set_option linter.unusedSimpArgs false
set_option maxHeartbeats 8000000 in
set_option maxRecDepth 100000 in
theorem cippuslaw07_StemmaFewest.calls (k : Nat) (A0 : Option Addr) (c0 : Nat) (l0 : List (S24)) (a1_0 : ByteArray) (a1_1 : Int) (a1_2 : Bool) (A2 : Option Addr) (c2 : Nat) (l2 : List Int) (r : Bool) (w : World) (hr0 : Kd.C k24 w A0 l0.length l0) (hc0 : l0.length ≤ c0) (hr2 : Kd.C (Kd.int .i64) w A2 l2.length l2) (hc2 : l2.length ≤ c2) (h : cippuslaw07_StemmaFewest.f k l0 a1_0 a1_1 a1_2 l2 = some r) :
    Calls Try.prog 4 #[.slice A0 l0.length c0, .agg #[.string a1_0, .int .i64 a1_1, .bool a1_2], .slice A2 l2.length c2] w fun e w' => e = .returned (.bool r) ∧ Below w.heap.size w w' := by
  have hu24 := Try.underlying24
  have hu27 := Try.underlying27
  have HR0 := Aside0.mk hr0
  have HC0 := Aside0.mk hc0
  clear hr0 hc0
  have HR2 := Aside0.mk hr2
  have HC2 := Aside0.mk hc2
  clear hr2 hc2
  have HB := Aside0.mk (Below.refl w.heap.size w)
  have H : ((cippuskit_NewUrn.f l2).bind fun bt361 => ((cippuskit_CopiesOf.f bt361.1 bt361.2 4 5 1).bind fun bt364 => ((cippuskit_CopyCopies.f bt364.1).bind fun t374 => ((some (([(⟨a1_0, a1_1, a1_2⟩ : S24)] : List (S24)) : List (S24))).bind fun y377 => (if t374.length + y377.length < 4398046511104 then ((some (t374 ++ y377 : List (S24))).bind fun y380 => ((cippuslaw07_large.f k l0).bind fun t383 => (if t383 = true then (cippuslaw07_StemmaFewest.j0 k l0 bt364.1 y380 true) else ((cippuslaw07_large.f k y380).bind fun t384 => (cippuslaw07_StemmaFewest.j0 k l0 bt364.1 y380 t384))))) else (none)))))) = some r := h
  clear h
  replace H := Option.bind_eq_some_iff.mp H
  obtain ⟨⟨t361, t362⟩, A40, H⟩ := H
  replace H : ((cippuskit_CopiesOf.f t361 t362 4 5 1).bind fun bt364 => ((cippuskit_CopyCopies.f bt364.1).bind fun t374 => ((some (([(⟨a1_0, a1_1, a1_2⟩ : S24)] : List (S24)) : List (S24))).bind fun y377 => (if t374.length + y377.length < 4398046511104 then ((some (t374 ++ y377 : List (S24))).bind fun y380 => ((cippuslaw07_large.f k l0).bind fun t383 => (if t383 = true then (cippuslaw07_StemmaFewest.j0 k l0 bt364.1 y380 true) else ((cippuslaw07_large.f k y380).bind fun t384 => (cippuslaw07_StemmaFewest.j0 k l0 bt364.1 y380 t384))))) else (none))))) = some r := H
  have A4 := Aside0.mk A40
  clear A40
  replace H := Option.bind_eq_some_iff.mp H
  obtain ⟨⟨t364, t367, t368, t371, t372⟩, A50, H⟩ := H
  replace H : ((cippuskit_CopyCopies.f t364).bind fun t374 => ((some (([(⟨a1_0, a1_1, a1_2⟩ : S24)] : List (S24)) : List (S24))).bind fun y377 => (if t374.length + y377.length < 4398046511104 then ((some (t374 ++ y377 : List (S24))).bind fun y380 => ((cippuslaw07_large.f k l0).bind fun t383 => (if t383 = true then (cippuslaw07_StemmaFewest.j0 k l0 t364 y380 true) else ((cippuslaw07_large.f k y380).bind fun t384 => (cippuslaw07_StemmaFewest.j0 k l0 t364 y380 t384))))) else (none)))) = some r := H
  have A5 := Aside0.mk A50
  clear A50
  replace H := Option.bind_eq_some_iff.mp H
  obtain ⟨t374, A60, H⟩ := H
  replace H : ((some (([(⟨a1_0, a1_1, a1_2⟩ : S24)] : List (S24)) : List (S24))).bind fun y377 => (if t374.length + y377.length < 4398046511104 then ((some (t374 ++ y377 : List (S24))).bind fun y380 => ((cippuslaw07_large.f k l0).bind fun t383 => (if t383 = true then (cippuslaw07_StemmaFewest.j0 k l0 t364 y380 true) else ((cippuslaw07_large.f k y380).bind fun t384 => (cippuslaw07_StemmaFewest.j0 k l0 t364 y380 t384))))) else (none))) = some r := H
  have A6 := Aside0.mk A60
  clear A60
  obtain ⟨y377, hy377⟩ : ∃ y_ : List (S24), y_ = (([(⟨a1_0, a1_1, a1_2⟩ : S24)] : List (S24))) := ⟨_, rfl⟩
  replace H : (if t374.length + y377.length < 4398046511104 then ((some (t374 ++ y377 : List (S24))).bind fun y380 => ((cippuslaw07_large.f k l0).bind fun t383 => (if t383 = true then (cippuslaw07_StemmaFewest.j0 k l0 t364 y380 true) else ((cippuslaw07_large.f k y380).bind fun t384 => (cippuslaw07_StemmaFewest.j0 k l0 t364 y380 t384))))) else (none)) = some r := by first | (rw [hy377]; with_reducible exact H) | (have H2_ := (Option.bind_some _ _).symm.trans H; rw [hy377]; with_reducible exact H2_) | (have H2_ := (Option.bind_some _ _).symm.trans H; with_reducible exact H2_) | with_reducible exact H | (rw [hy377]; exact H) | exact H
  have Ny377 := Aside0.mk hy377
  clear hy377
  by_cases c7 : t374.length + y377.length < 4398046511104
  · rw [if_pos c7] at H
    have LMc7 := Aside0.mk c7
    clear c7
    obtain ⟨y380, hy380⟩ : ∃ y_ : List (S24), y_ = (t374 ++ y377) := ⟨_, rfl⟩
    replace H : ((cippuslaw07_large.f k l0).bind fun t383 => (if t383 = true then (cippuslaw07_StemmaFewest.j0 k l0 t364 y380 true) else ((cippuslaw07_large.f k y380).bind fun t384 => (cippuslaw07_StemmaFewest.j0 k l0 t364 y380 t384)))) = some r := by first | (rw [hy380]; with_reducible exact H) | (have H2_ := (Option.bind_some _ _).symm.trans H; rw [hy380]; with_reducible exact H2_) | (have H2_ := (Option.bind_some _ _).symm.trans H; with_reducible exact H2_) | with_reducible exact H | (rw [hy380]; exact H) | exact H
    have Ny380 := Aside0.mk hy380
    clear hy380
    have HC8 := Aside0.mk H
    clear H
    go_enter Try.func4, Try.ntmps4
    try go_wp2_with (first | ((with_reducible refine gate_dst (N := 4) rfl ?_); refine box_event ?hg (N := 4) ?hd (cs := #[.string a1_0, .int .i64 a1_1, .bool a1_2]) (t := 24) ?hr ?_; (case hd => rfl); (case hg => rfl); (case hr => first | (go_simp; done) | (go_simp; rfl)); intro gb360 hg w9 hbox hb; have n0_ := Aside0.mk (below_step (by repeat (first | (with_reducible first | exact HB.out | apply below_alloc | apply pw_below_drewN | apply below_drew1) | exact HB.out)) hb); have n1_ := Aside0.mk (hbox); have n2_ := Aside0.mk ((by rw [hg]; exact (below_size (by repeat (first | (with_reducible first | exact HB.out | apply below_alloc | apply pw_below_drewN | apply below_drew1) | exact HB.out))) : w.heap.size ≤ gb360)); have n3_ := Aside0.mk ((by rw [hg]; exact (below_size (by repeat (first | (with_reducible first | exact HB.out | apply below_alloc | apply pw_below_drewN | apply below_drew1) | exact HB.out))) : w.heap.size ≤ gb360)); clear HB; have HB := n0_; have BK360 := n1_; have GW360 := n2_; have GE360 := n3_; clear n0_ n1_ n2_ n3_; clear hb hbox hg) | ((with_reducible refine gate_callee (f := 14) rfl ?_); refine goesL_ (some 19) rfl rfl Try.func14 (by kernel_rfl) rfl #[.slice A2 l2.length c2] rfl (by (try simp only [List.map_toArray, List.map_cons, List.map_nil]); first | done | rfl | (simp only [List.length_drop, List.length_take]; rfl)) ?_; (with_reducible refine (cippuskit_NewUrn.calls _ _ l2 t361 t362 w _ ?side1 ?side2 ?side3 A4.out).mono ?_); (case side1 => repeat (first | (with_reducible first | exact HB.out | apply below_alloc | apply pw_below_drewN | apply below_drew1 | refine below_set ?_ GE360.out) | exact HB.out)); (case side2 => exact HR2.out); (case side3 => exact HC2.out); rintro e w10 ⟨g363, rfl, hi, hb, hb2⟩; refine ⟨_, rfl, ?_⟩; have n0_ := Aside0.mk (blk_below (g := gb360) (o := .cells #[.string a1_0, .int .i64 a1_1, .bool a1_2] 24 (0, 0)) (by (with_reducible repeat (first | refine blk_drewN ?_ _ | refine blk_drew ?_ | refine blk_alloc ?_ _)); exact BK360.out) hb2); have n1_ := Aside0.mk (hb); have n2_ := Aside0.mk (hi); have n3_ := Aside0.mk (IsS72.ne_blk hi (blk_below (g := gb360) (o := .cells #[.string a1_0, .int .i64 a1_1, .bool a1_2] 24 (0, 0)) (by (with_reducible repeat (first | refine blk_drewN ?_ _ | refine blk_drew ?_ | refine blk_alloc ?_ _)); exact BK360.out) hb2) (by decide)); have n4_ := Aside0.mk (Ne.symm (IsS72.ne_blk hi (blk_below (g := gb360) (o := .cells #[.string a1_0, .int .i64 a1_1, .bool a1_2] 24 (0, 0)) (by (with_reducible repeat (first | refine blk_drewN ?_ _ | refine blk_drew ?_ | refine blk_alloc ?_ _)); exact BK360.out) hb2) (by decide))); clear BK360; clear HB; have BK360 := n0_; have HB := n1_; have HI363 := n2_; have NB363_360 := n3_; have NB360_363 := n4_; clear n0_ n1_ n2_ n3_ n4_; (try clear hb); (try clear hb2); (try clear hk); (try clear hi)) | ((with_reducible refine gate_callee (f := 13) rfl ?_); refine goesL_ (some 20) rfl rfl Try.func13 (by kernel_rfl) rfl #[.pointer (some ⟨g363, 0, none⟩), .int .i64 4, .int .i64 5, .int .i64 1] rfl (by (try simp only [List.map_toArray, List.map_cons, List.map_nil]); first | done | rfl | (simp only [List.length_drop, List.length_take]; rfl)) ?_; (with_reducible refine (cippuskit_CopiesOf.calls g363 t361 t362 4 5 1 t364 t367 t368 t371 t372 w _ ?side1 ?side2 A5.out).mono ?_); (case side1 => repeat (first | (with_reducible first | exact HI363.out | apply IsS72.alloc | apply IsS72.drewN | apply IsS72.drew | apply IsS72.set_0 | apply IsS72.set_1 | refine IsS72.far ?_ NB363_360.out _) | exact HI363.out)); (case side2 => repeat (first | (with_reducible first | exact HB.out | apply below_alloc | apply pw_below_drewN | apply below_drew1 | refine below_set ?_ (IsS72.ge HI363.out) | refine below_set ?_ GE360.out) | exact HB.out)); rintro e w11 ⟨v365, v369, rfl, ho0, ho1, hi, hb, hk⟩; refine ⟨_, rfl, ?_⟩; have n0_ := Aside0.mk (KeepBut.blk hk (g' := gb360) (o := .cells #[.string a1_0, .int .i64 a1_1, .bool a1_2] 24 (0, 0)) (by (with_reducible repeat (first | refine blk_drewN ?_ _ | refine blk_drew ?_ | refine blk_alloc ?_ _)); exact BK360.out) NB360_363.out (by simp)); have n1_ := Aside0.mk (Kd.R_lower (Kd.R_newB ho0 (g := gb360) (o := .cells #[.string a1_0, .int .i64 a1_1, .bool a1_2] 24 (0, 0)) (by (with_reducible repeat (first | refine blk_drewN ?_ _ | refine blk_drew ?_ | refine blk_alloc ?_ _)); exact BK360.out)) (below_size (by repeat (first | (with_reducible first | exact HB.out | apply below_alloc | apply pw_below_drewN | apply below_drew1 | refine below_set ?_ (IsS72.ge HI363.out) | refine below_set ?_ GE360.out) | exact HB.out)))); have n2_ := Aside0.mk (Kd.R_lower ho1 (below_size (by repeat (first | (with_reducible first | exact HB.out | apply below_alloc | apply pw_below_drewN | apply below_drew1 | refine below_set ?_ (IsS72.ge HI363.out) | refine below_set ?_ GE360.out) | exact HB.out)))); have n3_ := Aside0.mk (hb); have n4_ := Aside0.mk (hi); clear BK360; clear HB; clear HI363; have BK360 := n0_; have HO366 := n1_; have HO370 := n2_; have HB := n3_; have HI363 := n4_; clear n0_ n1_ n2_ n3_ n4_; (try clear hb); (try clear hb2); (try clear hk); (try clear hi); (try clear ho0); (try clear ho1)) | ((with_reducible refine gate_dst (N := 8) rfl ?_); refine box_event ?hg (N := 8) ?hd (cs := #[.string (⟨#[]⟩ : ByteArray), .slice none 0 0]) (t := 27) ?hr ?_; (case hd => rfl); (case hg => rfl); (case hr => first | (go_simp; done) | (go_simp; rfl)); intro gb373 hg w12 hbox hb; have n0_ := Aside0.mk (Kd.R_below (by (with_reducible repeat (first | apply Kd.R_alloc | apply Kd.R_drewN | apply Kd.R_drew)); exact HO366.out) hb); have n1_ := Aside0.mk (Kd.R_below (by (with_reducible repeat (first | apply Kd.R_alloc | apply Kd.R_drewN | apply Kd.R_drew)); exact HO370.out) hb); have n2_ := Aside0.mk (blk_below (g := gb360) (o := .cells #[.string a1_0, .int .i64 a1_1, .bool a1_2] 24 (0, 0)) (by (with_reducible repeat (first | refine blk_drewN ?_ _ | refine blk_drew ?_ | refine blk_alloc ?_ _)); exact BK360.out) hb); have n3_ := Aside0.mk (IsS72.below (by repeat (first | (with_reducible first | exact HI363.out | apply IsS72.alloc | apply IsS72.drewN | apply IsS72.drew | apply IsS72.set_0 | apply IsS72.set_1 | refine IsS72.far ?_ NB363_360.out _) | exact HI363.out)) hb); have n4_ := Aside0.mk (below_step (by repeat (first | (with_reducible first | exact HB.out | apply below_alloc | apply pw_below_drewN | apply below_drew1 | refine below_set ?_ (IsS72.ge HI363.out) | refine below_set ?_ GE360.out) | exact HB.out)) hb); have n5_ := Aside0.mk (hbox); have n6_ := Aside0.mk ((by rw [hg]; exact (below_size (by repeat (first | (with_reducible first | exact HB.out | apply below_alloc | apply pw_below_drewN | apply below_drew1 | refine below_set ?_ (IsS72.ge HI363.out) | refine below_set ?_ GE360.out) | exact HB.out))) : w.heap.size ≤ gb373)); have n7_ := Aside0.mk ((by rw [hg]; exact (below_size (by repeat (first | (with_reducible first | exact HB.out | apply below_alloc | apply pw_below_drewN | apply below_drew1 | refine below_set ?_ (IsS72.ge HI363.out) | refine below_set ?_ GE360.out) | exact HB.out))) : w.heap.size ≤ gb373)); have n8_ := Aside0.mk ((by rw [hg]; exact Nat.ne_of_lt (blk_lt (g := gb360) (o := .cells #[.string a1_0, .int .i64 a1_1, .bool a1_2] 24 (0, 0)) (by (with_reducible repeat (first | refine blk_drewN ?_ _ | refine blk_drew ?_ | refine blk_alloc ?_ _)); exact BK360.out)) : gb360 ≠ gb373)); have n9_ := Aside0.mk ((by rw [hg]; exact Nat.ne_of_gt (blk_lt (g := gb360) (o := .cells #[.string a1_0, .int .i64 a1_1, .bool a1_2] 24 (0, 0)) (by (with_reducible repeat (first | refine blk_drewN ?_ _ | refine blk_drew ?_ | refine blk_alloc ?_ _)); exact BK360.out)) : gb373 ≠ gb360)); have n10_ := Aside0.mk ((by rw [hg]; exact Nat.ne_of_lt (IsS72.lt (show IsS72 w _ g363 t371 t372 from by repeat (first | (with_reducible first | exact HI363.out | apply IsS72.alloc | apply IsS72.drewN | apply IsS72.drew | apply IsS72.set_0 | apply IsS72.set_1 | refine IsS72.far ?_ NB363_360.out _) | exact HI363.out))) : g363 ≠ gb373)); have n11_ := Aside0.mk ((by rw [hg]; exact Nat.ne_of_gt (IsS72.lt (show IsS72 w _ g363 t371 t372 from by repeat (first | (with_reducible first | exact HI363.out | apply IsS72.alloc | apply IsS72.drewN | apply IsS72.drew | apply IsS72.set_0 | apply IsS72.set_1 | refine IsS72.far ?_ NB363_360.out _) | exact HI363.out))) : gb373 ≠ g363)); clear HO366; clear HO370; clear BK360; clear HI363; clear HB; have HO366 := n0_; have HO370 := n1_; have BK360 := n2_; have HI363 := n3_; have HB := n4_; have BK373 := n5_; have GW373 := n6_; have GE373 := n7_; have NB360_373 := n8_; have NB373_360 := n9_; have NB363_373 := n10_; have NB373_363 := n11_; clear n0_ n1_ n2_ n3_ n4_ n5_ n6_ n7_ n8_ n9_ n10_ n11_; clear hb hbox hg; have hnb13 := NB373_360.out; have hnc13 := NB360_373.out; have hnb14 := NB373_363.out; have hnc14 := NB363_373.out; have hcz15_0 : w12.cell? ⟨gb373, 0, none⟩ = some (.string (⟨#[]⟩ : ByteArray)) := (blk_cell BK373.out 0).trans rfl; have hcz15_1 : w12.cell? ⟨gb373, 1, none⟩ = some (.slice none 0 0) := (blk_cell BK373.out 1).trans rfl; have hfz15_0 := blk_frozen BK373.out 0; have hfz15_1 := blk_frozen BK373.out 1; obtain ⟨Ao16, co16, eo16⟩ := Kd.R_slice HO370.out; subst eo16; obtain ⟨Ao17, co17, eo17⟩ := Kd.R_slice HO366.out; subst eo17))
    have n0_ : Aside0 (Kd.R k24 24 ((w12.setCell ⟨gb373, 0, none⟩ (.string t367)).setCell ⟨gb373, 1, none⟩ (.slice Ao16 t368.length co16)) w.heap.size (fun k_ => k_ ≠ gb360) (.slice Ao17 t364.length co17) t364) := ⟨by (with_reducible repeat (first | apply Kd.R_alloc | apply Kd.R_drewN | apply Kd.R_drew)); exact Kd.R_mono (Kd.R_far (p := ⟨gb373, 1, none⟩) (Kd.R_far (p := ⟨gb373, 0, none⟩) (Kd.R_types HO366.out BK373.out (by decide)) (fun _ hk => hk.2) (.string t367)) (fun _ hk => hk.2) (.slice Ao16 t368.length co16)) (fun _ hk => hk.1.2)⟩
    have n1_ : Aside0 (Kd.R (Kd.int .i64) 3 ((w12.setCell ⟨gb373, 0, none⟩ (.string t367)).setCell ⟨gb373, 1, none⟩ (.slice Ao16 t368.length co16)) w.heap.size (fun _ => True) (.slice Ao16 t368.length co16) t368) := ⟨by (with_reducible repeat (first | apply Kd.R_alloc | apply Kd.R_drewN | apply Kd.R_drew)); exact Kd.R_mono (Kd.R_far (p := ⟨gb373, 1, none⟩) (Kd.R_far (p := ⟨gb373, 0, none⟩) (Kd.R_types HO370.out BK373.out (by decide)) (fun _ hk => hk.2) (.string t367)) (fun _ hk => hk.2) (.slice Ao16 t368.length co16)) (fun _ hk => trivial)⟩
    have n2_ : Aside0 (((w12.setCell ⟨gb373, 0, none⟩ (.string t367)).setCell ⟨gb373, 1, none⟩ (.slice Ao16 t368.length co16)).heap[gb360]? = some (.cells #[.string a1_0, .int .i64 a1_1, .bool a1_2] 24 (0, 0))) := ⟨by (with_reducible repeat (first | refine blk_drewN ?_ _ | refine blk_drew ?_ | refine blk_alloc ?_ _)); refine blk_far ?_ NB360_373.out _; (with_reducible repeat (first | refine blk_drewN ?_ _ | refine blk_drew ?_ | refine blk_alloc ?_ _)); refine blk_far ?_ NB360_373.out _; (with_reducible repeat (first | refine blk_drewN ?_ _ | refine blk_drew ?_ | refine blk_alloc ?_ _)); exact BK360.out⟩
    have n3_ : Aside0 (((w12.setCell ⟨gb373, 0, none⟩ (.string t367)).setCell ⟨gb373, 1, none⟩ (.slice Ao16 t368.length co16)).heap[gb373]? = some (.cells #[.string t367, .slice Ao16 t368.length co16] 27 (0, 0))) := ⟨by (with_reducible repeat (first | refine blk_drewN ?_ _ | refine blk_drew ?_ | refine blk_alloc ?_ _)); refine blk_put (cs := #[.string t367, .slice none 0 0]) ?_ 1 _ rfl; (with_reducible repeat (first | refine blk_drewN ?_ _ | refine blk_drew ?_ | refine blk_alloc ?_ _)); refine blk_put (cs := #[.string (⟨#[]⟩ : ByteArray), .slice none 0 0]) ?_ 0 _ rfl; (with_reducible repeat (first | refine blk_drewN ?_ _ | refine blk_drew ?_ | refine blk_alloc ?_ _)); exact BK373.out⟩
    have n4_ : Aside0 (IsS72 w ((w12.setCell ⟨gb373, 0, none⟩ (.string t367)).setCell ⟨gb373, 1, none⟩ (.slice Ao16 t368.length co16)) g363 t371 t372) := ⟨by repeat (first | (with_reducible first | exact HI363.out | apply IsS72.alloc | apply IsS72.drewN | apply IsS72.drew | apply IsS72.set_0 | apply IsS72.set_1 | refine IsS72.far ?_ NB363_360.out _ | refine IsS72.far ?_ NB363_373.out _) | exact HI363.out)⟩
    have n5_ : Aside0 (Below w.heap.size w ((w12.setCell ⟨gb373, 0, none⟩ (.string t367)).setCell ⟨gb373, 1, none⟩ (.slice Ao16 t368.length co16))) := ⟨by repeat (first | (with_reducible first | exact HB.out | apply below_alloc | apply pw_below_drewN | apply below_drew1 | refine below_set ?_ (IsS72.ge HI363.out) | refine below_set ?_ GE360.out | refine below_set ?_ GE373.out) | exact HB.out)⟩
    (try clear HO366)
    (try clear HO370)
    (try clear BK360)
    (try clear BK373)
    (try clear HI363)
    (try clear HB)
    generalize ((w12.setCell ⟨gb373, 0, none⟩ (.string t367)).setCell ⟨gb373, 1, none⟩ (.slice Ao16 t368.length co16)) = w18 at n0_ n1_ n2_ n3_ n4_ n5_ ⊢
    have HO366 := n0_
    have HO370 := n1_
    have BK360 := n2_
    have BK373 := n3_
    have HI363 := n4_
    have HB := n5_
    clear n0_ n1_ n2_ n3_ n4_ n5_
    have n0_ := Aside0.mk (Kd.R_drew HO366.out)
    have n1_ := Aside0.mk (Kd.R_drew HO370.out)
    have n2_ := Aside0.mk (blk_drew BK360.out)
    have n3_ := Aside0.mk (blk_drew BK373.out)
    have n4_ := Aside0.mk (IsS72.drew HI363.out)
    have n5_ := Aside0.mk (below_drew1 HB.out)
    clear HO366
    clear HO370
    clear BK360
    clear BK373
    clear HI363
    clear HB
    have HO366 := n0_
    have HO370 := n1_
    have BK360 := n2_
    have BK373 := n3_
    have HI363 := n4_
    have HB := n5_
    clear n0_ n1_ n2_ n3_ n4_ n5_
    refine start_ (n := 6) (S := fun w' => w'.cell? ⟨gb360, 0, none⟩ = some (.string a1_0) ∧ w'.cell? ⟨gb360, 1, none⟩ = some (.int .i64 a1_1) ∧ w'.cell? ⟨gb360, 2, none⟩ = some (.bool a1_2)) (ds := []) #[false, false, false, false, false, false] (by kernel_rfl) rfl rfl ⟨(blk_cell BK360.out 0).trans rfl, (blk_cell BK360.out 1).trans rfl, (blk_cell BK360.out 2).trans rfl⟩ (fun hHeld => ?_)
    generalize w18.drew = w19 at HO366 HO370 BK360 BK373 HI363 HB hHeld ⊢
    refine pure_ (i := 0) (N := some 23) (v := ?_) (a' := ?_) #[true, false, false, false, false, false] rfl rfl (by kernel_rfl) (fun _ _ _ h => h) (Or.inl ⟨by rfl, ?_⟩) ?_ ?_
    rotate_left
    · intro w'
      go_simp
      with_reducible rfl
    rotate_left
    · simp only [Act.put, List.setIfInBounds_toArray, List.set_cons_zero, List.set_cons_succ, i64_w, i32_w]
      rfl
    refine take_ (i := 2) (N := some 25) (v := ?_) (a' := ?_) #[true, false, true, false, false, false] rfl rfl (by kernel_rfl) (fun _ _ _ h => h) (Or.inl ⟨by rfl, ?_⟩) hHeld ?_ ?_
    rotate_left
    · rintro w' ⟨s0, s1, s2⟩
      go_simp
      with_reducible rfl
    rotate_left
    · simp only [Act.put, List.setIfInBounds_toArray, List.set_cons_zero, List.set_cons_succ, i64_w, i32_w]
      rfl
    refine join_ (σ := Value × Value) 2 #[true, true, true, true, false, false] (fun s_ => [(24, s_.1), (26, s_.2)]) (fun s_ w' => (w'.cell? ⟨gb360, 0, none⟩ = some (.string a1_0) ∧ w'.cell? ⟨gb360, 1, none⟩ = some (.int .i64 a1_1) ∧ w'.cell? ⟨gb360, 2, none⟩ = some (.bool a1_2)) ∧ (Kd.R k24 24 w' w.heap.size (fun k_ => some k_ ≠ (s_.1 : Value).ownBlock ∧ some k_ ≠ (s_.2 : Value).ownBlock ∧ k_ ≠ gb360) (.slice Ao17 t364.length co17) t364) ∧ (Kd.R (Kd.int .i64) 3 w' w.heap.size (fun _ => True) (.slice Ao16 t368.length co16) t368) ∧ (Kd.R k24 24 w' w.heap.size (fun k_ => some k_ ≠ (.slice Ao17 t364.length co17 : Value).ownBlock ∧ some k_ ≠ (s_.2 : Value).ownBlock ∧ k_ ≠ gb360) s_.1 t374) ∧ (Kd.R k24 24 w' w.heap.size (fun k_ => some k_ ≠ (.slice Ao17 t364.length co17 : Value).ownBlock ∧ some k_ ≠ (s_.1 : Value).ownBlock ∧ k_ ≠ gb360) s_.2 y377) ∧ (w'.heap[gb360]? = some (.cells #[.string a1_0, .int .i64 a1_1, .bool a1_2] 24 (0, 0))) ∧ (w'.heap[gb373]? = some (.cells #[.string t367, .slice Ao16 t368.length co16] 27 (0, 0))) ∧ (IsS72 w w' g363 t371 t372) ∧ (Below w.heap.size w w')) ?_ ?_
    rotate_left
    · intro hCont
      refine two_ (i := 1) (j := 3) (Ni := some 24) (Nj := some 26) #[true, true, true, false, false, false] #[true, false, true, true, false, false] rfl rfl rfl rfl (by kernel_rfl) (by decide) (by decide) (fun K hK => ?_) (fun K hK => ?_)
      · skip
        refine goes_ Try.func15 (by kernel_rfl) rfl #[.slice Ao17 t364.length co17] (by rfl) rfl rfl (by (try simp only [List.map_toArray, List.map_cons, List.map_nil]); first | done | rfl | (simp only [List.length_drop, List.length_take]; rfl)) ?_
        with_reducible refine (cippuskit_CopyCopies.calls _ _ t364 t374 _ ?side1 ?side2 A6.out).mono ?_
        (case side1 => repeat (first | exact (Kd.R_reads' HO366.out).2.2 | (with_reducible refine Kd.C_alloc ?_ _) | (with_reducible refine Kd.C_drewN ?_ _) | (with_reducible refine Kd.C_drew ?_)))
        (case side2 => exact (Kd.R_reads' HO366.out).2.1)
        rintro e w20 ⟨v375, rfl, ho0, hb⟩
        refine ⟨_, rfl, ?_⟩
        have n0_ := Aside0.mk (Kd.R_elder' (by (with_reducible repeat (first | apply Kd.R_alloc | apply Kd.R_drewN | apply Kd.R_drew)); exact HO366.out) (Kd.R_base ho0) hb)
        have n1_ := Aside0.mk (Kd.R_below (by (with_reducible repeat (first | apply Kd.R_alloc | apply Kd.R_drewN | apply Kd.R_drew)); exact HO370.out) hb)
        have n2_ := Aside0.mk (Kd.R_lower (Kd.R_newB (Kd.R_new' ho0 (Kd.R_lt (by (with_reducible repeat (first | apply Kd.R_alloc | apply Kd.R_drewN | apply Kd.R_drew)); exact HO366.out))) (g := gb360) (o := .cells #[.string a1_0, .int .i64 a1_1, .bool a1_2] 24 (0, 0)) (by (with_reducible repeat (first | refine blk_drewN ?_ _ | refine blk_drew ?_ | refine blk_alloc ?_ _)); exact BK360.out)) (below_size (by repeat (first | (with_reducible first | exact HB.out | apply below_alloc | apply pw_below_drewN | apply below_drew1 | refine below_set ?_ (IsS72.ge HI363.out) | refine below_set ?_ GE360.out | refine below_set ?_ GE373.out) | exact HB.out))))
        have n3_ := Aside0.mk (blk_below (g := gb360) (o := .cells #[.string a1_0, .int .i64 a1_1, .bool a1_2] 24 (0, 0)) (by (with_reducible repeat (first | refine blk_drewN ?_ _ | refine blk_drew ?_ | refine blk_alloc ?_ _)); exact BK360.out) hb)
        have n4_ := Aside0.mk (IsS72.below (by repeat (first | (with_reducible first | exact HI363.out | apply IsS72.alloc | apply IsS72.drewN | apply IsS72.drew | apply IsS72.set_0 | apply IsS72.set_1 | refine IsS72.far ?_ NB363_360.out _ | refine IsS72.far ?_ NB363_373.out _) | exact HI363.out)) hb)
        have n5_ := Aside0.mk (blk_below (g := gb373) (o := .cells #[.string t367, .slice Ao16 t368.length co16] 27 (0, 0)) (by (with_reducible repeat (first | refine blk_drewN ?_ _ | refine blk_drew ?_ | refine blk_alloc ?_ _)); exact BK373.out) hb)
        have n6_ := Aside0.mk (below_step (by repeat (first | (with_reducible first | exact HB.out | apply below_alloc | apply pw_below_drewN | apply below_drew1 | refine below_set ?_ (IsS72.ge HI363.out) | refine below_set ?_ GE360.out | refine below_set ?_ GE373.out) | exact HB.out)) hb)
        clear HO366
        clear HO370
        clear BK360
        clear HI363
        clear BK373
        clear HB
        have HO366 := n0_
        have HO370 := n1_
        have HO376 := n2_
        have BK360 := n3_
        have HI363 := n4_
        have BK373 := n5_
        have HB := n6_
        clear n0_ n1_ n2_ n3_ n4_ n5_ n6_
        (try clear hb)
        (try clear hb2)
        (try clear hk)
        (try clear hi)
        (try clear ho0)
        refine hK.out _ _ ⟨(blk_cell BK360.out 0).trans rfl, (blk_cell BK360.out 1).trans rfl, (blk_cell BK360.out 2).trans rfl⟩ (fun hHeld => ?_)
        clear hK K
        refine norm_ (a' := ?_) ?_ ?_
        rotate_left
        · show Act.put _ (some 24) _ = _
          simp only [Act.put, List.setIfInBounds_toArray, List.set_cons_zero, List.set_cons_succ, i64_w, i32_w]
          rfl
        refine one_ (i := 3) (N := some 26) #[true, true, true, true, false, false] rfl rfl (by kernel_rfl) (by decide) (fun K hK => ?_)
        refine Kd.R_lit_step k24 _ 24 ?hg (N := 26) ?hd (xs := ([(⟨a1_0, a1_1, a1_2⟩ : S24)] : List (S24))) (inner := [.string a1_0, .int .i64 a1_1, .bool a1_2]) (ok := fun _ => True) (okp := fun _ => True) ?hr ?hp (fun _ hk => hk) trivial (Below.refl _ _) (Nat.le_refl _) (by simp) ?_; (case hd => rfl); (case hg => rfl); (case hr => first | (go_simp; done) | (go_simp; rfl)); (case hp => exact (Reps.c3 (show Kd.M k24 _ _ _ (⟨a1_0, a1_1, a1_2⟩ : S24) [.string a1_0, .int .i64 a1_1, .bool a1_2] from (k24_mkM _ _ _ (⟨a1_0, a1_1, a1_2⟩ : S24) )) (Reps.none _ _)))
        intro v378 w21 ho22 hb hg_ hnew_
        clear hg_ hnew_
        (first | rw [← Ny377.out] at ho22 | (simp only [Int.reduceToNat] at ho22; rw [← Ny377.out] at ho22))
        have n0_ := Aside0.mk (Kd.R_elder' (by (with_reducible repeat (first | apply Kd.R_alloc | apply Kd.R_drewN | apply Kd.R_drew)); exact HO366.out) (Kd.R_base ho22) hb)
        have n1_ := Aside0.mk (Kd.R_below (by (with_reducible repeat (first | apply Kd.R_alloc | apply Kd.R_drewN | apply Kd.R_drew)); exact HO370.out) hb)
        have n2_ := Aside0.mk (Kd.R_elder' (by (with_reducible repeat (first | apply Kd.R_alloc | apply Kd.R_drewN | apply Kd.R_drew)); exact HO376.out) (Kd.R_base ho22) hb)
        have n3_ := Aside0.mk (Kd.R_lower (Kd.R_newB (Kd.R_new' (Kd.R_new' ho22 (Kd.R_lt (by (with_reducible repeat (first | apply Kd.R_alloc | apply Kd.R_drewN | apply Kd.R_drew)); exact HO366.out))) (Kd.R_lt (by (with_reducible repeat (first | apply Kd.R_alloc | apply Kd.R_drewN | apply Kd.R_drew)); exact HO376.out))) (g := gb360) (o := .cells #[.string a1_0, .int .i64 a1_1, .bool a1_2] 24 (0, 0)) (by (with_reducible repeat (first | refine blk_drewN ?_ _ | refine blk_drew ?_ | refine blk_alloc ?_ _)); exact BK360.out)) (below_size (by repeat (first | (with_reducible first | exact HB.out | apply below_alloc | apply pw_below_drewN | apply below_drew1 | refine below_set ?_ (IsS72.ge HI363.out) | refine below_set ?_ GE360.out | refine below_set ?_ GE373.out) | exact HB.out))))
        have n4_ := Aside0.mk (blk_below (g := gb360) (o := .cells #[.string a1_0, .int .i64 a1_1, .bool a1_2] 24 (0, 0)) (by (with_reducible repeat (first | refine blk_drewN ?_ _ | refine blk_drew ?_ | refine blk_alloc ?_ _)); exact BK360.out) hb)
        have n5_ := Aside0.mk (IsS72.below (by repeat (first | (with_reducible first | exact HI363.out | apply IsS72.alloc | apply IsS72.drewN | apply IsS72.drew | apply IsS72.set_0 | apply IsS72.set_1 | refine IsS72.far ?_ NB363_360.out _ | refine IsS72.far ?_ NB363_373.out _) | exact HI363.out)) hb)
        have n6_ := Aside0.mk (blk_below (g := gb373) (o := .cells #[.string t367, .slice Ao16 t368.length co16] 27 (0, 0)) (by (with_reducible repeat (first | refine blk_drewN ?_ _ | refine blk_drew ?_ | refine blk_alloc ?_ _)); exact BK373.out) hb)
        have n7_ := Aside0.mk (below_step (by repeat (first | (with_reducible first | exact HB.out | apply below_alloc | apply pw_below_drewN | apply below_drew1 | refine below_set ?_ (IsS72.ge HI363.out) | refine below_set ?_ GE360.out | refine below_set ?_ GE373.out) | exact HB.out)) hb)
        clear HO366
        clear HO370
        clear HO376
        clear BK360
        clear HI363
        clear BK373
        clear HB
        have HO366 := n0_
        have HO370 := n1_
        have HO376 := n2_
        have HO379 := n3_
        have BK360 := n4_
        have HI363 := n5_
        have BK373 := n6_
        have HB := n7_
        clear n0_ n1_ n2_ n3_ n4_ n5_ n6_ n7_
        clear hb ho22
        refine hK.out _ _ ⟨(blk_cell BK360.out 0).trans rfl, (blk_cell BK360.out 1).trans rfl, (blk_cell BK360.out 2).trans rfl⟩ (fun hHeld => ?_)
        clear hK K
        refine norm_ (a' := ?_) ?_ ?_
        rotate_left
        · show Act.put _ (some 26) _ = _
          simp only [Act.put, List.setIfInBounds_toArray, List.set_cons_zero, List.set_cons_succ, i64_w, i32_w]
          rfl
        exact norm_ (by simp only [putAll, Act.put, List.setIfInBounds_toArray, List.set_cons_zero, List.set_cons_succ]) (hCont (v375, v378) _ ⟨hHeld, (by (with_reducible repeat (first | apply Kd.R_alloc | apply Kd.R_drewN | apply Kd.R_drew)); exact Kd.R_mono HO366.out (fun _ hk => ⟨hk.1.2, ⟨hk.2, hk.1.1⟩⟩)), (by (with_reducible repeat (first | apply Kd.R_alloc | apply Kd.R_drewN | apply Kd.R_drew)); exact HO370.out), (by (with_reducible repeat (first | apply Kd.R_alloc | apply Kd.R_drewN | apply Kd.R_drew)); exact Kd.R_mono HO376.out (fun _ hk => ⟨hk.1.1.2, ⟨hk.2, hk.1.2⟩⟩)), (by (with_reducible repeat (first | apply Kd.R_alloc | apply Kd.R_drewN | apply Kd.R_drew)); exact Kd.R_mono HO379.out (fun _ hk => ⟨hk.1.1.2, ⟨hk.1.2, hk.2⟩⟩)), (by (with_reducible repeat (first | refine blk_drewN ?_ _ | refine blk_drew ?_ | refine blk_alloc ?_ _)); exact BK360.out), (by (with_reducible repeat (first | refine blk_drewN ?_ _ | refine blk_drew ?_ | refine blk_alloc ?_ _)); exact BK373.out), (by repeat (first | (with_reducible first | exact HI363.out | apply IsS72.alloc | apply IsS72.drewN | apply IsS72.drew | apply IsS72.set_0 | apply IsS72.set_1 | refine IsS72.far ?_ NB363_360.out _ | refine IsS72.far ?_ NB363_373.out _) | exact HI363.out)), (by repeat (first | (with_reducible first | exact HB.out | apply below_alloc | apply pw_below_drewN | apply below_drew1 | refine below_set ?_ (IsS72.ge HI363.out) | refine below_set ?_ GE360.out | refine below_set ?_ GE373.out) | exact HB.out))⟩)
      · skip
        refine Kd.R_lit_step k24 _ 24 ?hg (N := 26) ?hd (xs := ([(⟨a1_0, a1_1, a1_2⟩ : S24)] : List (S24))) (inner := [.string a1_0, .int .i64 a1_1, .bool a1_2]) (ok := fun _ => True) (okp := fun _ => True) ?hr ?hp (fun _ hk => hk) trivial (Below.refl _ _) (Nat.le_refl _) (by simp) ?_; (case hd => rfl); (case hg => rfl); (case hr => first | (go_simp; done) | (go_simp; rfl)); (case hp => exact (Reps.c3 (show Kd.M k24 _ _ _ (⟨a1_0, a1_1, a1_2⟩ : S24) [.string a1_0, .int .i64 a1_1, .bool a1_2] from (k24_mkM _ _ _ (⟨a1_0, a1_1, a1_2⟩ : S24) )) (Reps.none _ _)))
        intro v378 w20 ho21 hb hg_ hnew_
        clear hg_ hnew_
        (first | rw [← Ny377.out] at ho21 | (simp only [Int.reduceToNat] at ho21; rw [← Ny377.out] at ho21))
        have n0_ := Aside0.mk (Kd.R_elder' (by (with_reducible repeat (first | apply Kd.R_alloc | apply Kd.R_drewN | apply Kd.R_drew)); exact HO366.out) (Kd.R_base ho21) hb)
        have n1_ := Aside0.mk (Kd.R_below (by (with_reducible repeat (first | apply Kd.R_alloc | apply Kd.R_drewN | apply Kd.R_drew)); exact HO370.out) hb)
        have n2_ := Aside0.mk (Kd.R_lower (Kd.R_newB (Kd.R_new' ho21 (Kd.R_lt (by (with_reducible repeat (first | apply Kd.R_alloc | apply Kd.R_drewN | apply Kd.R_drew)); exact HO366.out))) (g := gb360) (o := .cells #[.string a1_0, .int .i64 a1_1, .bool a1_2] 24 (0, 0)) (by (with_reducible repeat (first | refine blk_drewN ?_ _ | refine blk_drew ?_ | refine blk_alloc ?_ _)); exact BK360.out)) (below_size (by repeat (first | (with_reducible first | exact HB.out | apply below_alloc | apply pw_below_drewN | apply below_drew1 | refine below_set ?_ (IsS72.ge HI363.out) | refine below_set ?_ GE360.out | refine below_set ?_ GE373.out) | exact HB.out))))
        have n3_ := Aside0.mk (blk_below (g := gb360) (o := .cells #[.string a1_0, .int .i64 a1_1, .bool a1_2] 24 (0, 0)) (by (with_reducible repeat (first | refine blk_drewN ?_ _ | refine blk_drew ?_ | refine blk_alloc ?_ _)); exact BK360.out) hb)
        have n4_ := Aside0.mk (IsS72.below (by repeat (first | (with_reducible first | exact HI363.out | apply IsS72.alloc | apply IsS72.drewN | apply IsS72.drew | apply IsS72.set_0 | apply IsS72.set_1 | refine IsS72.far ?_ NB363_360.out _ | refine IsS72.far ?_ NB363_373.out _) | exact HI363.out)) hb)
        have n5_ := Aside0.mk (blk_below (g := gb373) (o := .cells #[.string t367, .slice Ao16 t368.length co16] 27 (0, 0)) (by (with_reducible repeat (first | refine blk_drewN ?_ _ | refine blk_drew ?_ | refine blk_alloc ?_ _)); exact BK373.out) hb)
        have n6_ := Aside0.mk (below_step (by repeat (first | (with_reducible first | exact HB.out | apply below_alloc | apply pw_below_drewN | apply below_drew1 | refine below_set ?_ (IsS72.ge HI363.out) | refine below_set ?_ GE360.out | refine below_set ?_ GE373.out) | exact HB.out)) hb)
        clear HO366
        clear HO370
        clear BK360
        clear HI363
        clear BK373
        clear HB
        have HO366 := n0_
        have HO370 := n1_
        have HO379 := n2_
        have BK360 := n3_
        have HI363 := n4_
        have BK373 := n5_
        have HB := n6_
        clear n0_ n1_ n2_ n3_ n4_ n5_ n6_
        clear hb ho21
        refine hK.out _ _ ⟨(blk_cell BK360.out 0).trans rfl, (blk_cell BK360.out 1).trans rfl, (blk_cell BK360.out 2).trans rfl⟩ (fun hHeld => ?_)
        clear hK K
        refine norm_ (a' := ?_) ?_ ?_
        rotate_left
        · show Act.put _ (some 26) _ = _
          simp only [Act.put, List.setIfInBounds_toArray, List.set_cons_zero, List.set_cons_succ, i64_w, i32_w]
          rfl
        refine one_ (i := 1) (N := some 24) #[true, true, true, true, false, false] rfl rfl (by kernel_rfl) (by decide) (fun K hK => ?_)
        refine goes_ Try.func15 (by kernel_rfl) rfl #[.slice Ao17 t364.length co17] (by rfl) rfl rfl (by (try simp only [List.map_toArray, List.map_cons, List.map_nil]); first | done | rfl | (simp only [List.length_drop, List.length_take]; rfl)) ?_
        with_reducible refine (cippuskit_CopyCopies.calls _ _ t364 t374 _ ?side1 ?side2 A6.out).mono ?_
        (case side1 => repeat (first | exact (Kd.R_reads' HO366.out).2.2 | (with_reducible refine Kd.C_alloc ?_ _) | (with_reducible refine Kd.C_drewN ?_ _) | (with_reducible refine Kd.C_drew ?_)))
        (case side2 => exact (Kd.R_reads' HO366.out).2.1)
        rintro e w22 ⟨v375, rfl, ho0, hb⟩
        refine ⟨_, rfl, ?_⟩
        have n0_ := Aside0.mk (Kd.R_elder' (by (with_reducible repeat (first | apply Kd.R_alloc | apply Kd.R_drewN | apply Kd.R_drew)); exact HO366.out) (Kd.R_base ho0) hb)
        have n1_ := Aside0.mk (Kd.R_below (by (with_reducible repeat (first | apply Kd.R_alloc | apply Kd.R_drewN | apply Kd.R_drew)); exact HO370.out) hb)
        have n2_ := Aside0.mk (Kd.R_elder' (by (with_reducible repeat (first | apply Kd.R_alloc | apply Kd.R_drewN | apply Kd.R_drew)); exact HO379.out) (Kd.R_base ho0) hb)
        have n3_ := Aside0.mk (Kd.R_lower (Kd.R_newB (Kd.R_new' (Kd.R_new' ho0 (Kd.R_lt (by (with_reducible repeat (first | apply Kd.R_alloc | apply Kd.R_drewN | apply Kd.R_drew)); exact HO366.out))) (Kd.R_lt (by (with_reducible repeat (first | apply Kd.R_alloc | apply Kd.R_drewN | apply Kd.R_drew)); exact HO379.out))) (g := gb360) (o := .cells #[.string a1_0, .int .i64 a1_1, .bool a1_2] 24 (0, 0)) (by (with_reducible repeat (first | refine blk_drewN ?_ _ | refine blk_drew ?_ | refine blk_alloc ?_ _)); exact BK360.out)) (below_size (by repeat (first | (with_reducible first | exact HB.out | apply below_alloc | apply pw_below_drewN | apply below_drew1 | refine below_set ?_ (IsS72.ge HI363.out) | refine below_set ?_ GE360.out | refine below_set ?_ GE373.out) | exact HB.out))))
        have n4_ := Aside0.mk (blk_below (g := gb360) (o := .cells #[.string a1_0, .int .i64 a1_1, .bool a1_2] 24 (0, 0)) (by (with_reducible repeat (first | refine blk_drewN ?_ _ | refine blk_drew ?_ | refine blk_alloc ?_ _)); exact BK360.out) hb)
        have n5_ := Aside0.mk (IsS72.below (by repeat (first | (with_reducible first | exact HI363.out | apply IsS72.alloc | apply IsS72.drewN | apply IsS72.drew | apply IsS72.set_0 | apply IsS72.set_1 | refine IsS72.far ?_ NB363_360.out _ | refine IsS72.far ?_ NB363_373.out _) | exact HI363.out)) hb)
        have n6_ := Aside0.mk (blk_below (g := gb373) (o := .cells #[.string t367, .slice Ao16 t368.length co16] 27 (0, 0)) (by (with_reducible repeat (first | refine blk_drewN ?_ _ | refine blk_drew ?_ | refine blk_alloc ?_ _)); exact BK373.out) hb)
        have n7_ := Aside0.mk (below_step (by repeat (first | (with_reducible first | exact HB.out | apply below_alloc | apply pw_below_drewN | apply below_drew1 | refine below_set ?_ (IsS72.ge HI363.out) | refine below_set ?_ GE360.out | refine below_set ?_ GE373.out) | exact HB.out)) hb)
        clear HO366
        clear HO370
        clear HO379
        clear BK360
        clear HI363
        clear BK373
        clear HB
        have HO366 := n0_
        have HO370 := n1_
        have HO379 := n2_
        have HO376 := n3_
        have BK360 := n4_
        have HI363 := n5_
        have BK373 := n6_
        have HB := n7_
        clear n0_ n1_ n2_ n3_ n4_ n5_ n6_ n7_
        (try clear hb)
        (try clear hb2)
        (try clear hk)
        (try clear hi)
        (try clear ho0)
        refine hK.out _ _ ⟨(blk_cell BK360.out 0).trans rfl, (blk_cell BK360.out 1).trans rfl, (blk_cell BK360.out 2).trans rfl⟩ (fun hHeld => ?_)
        clear hK K
        refine norm_ (a' := ?_) ?_ ?_
        rotate_left
        · show Act.put _ (some 24) _ = _
          simp only [Act.put, List.setIfInBounds_toArray, List.set_cons_zero, List.set_cons_succ, i64_w, i32_w]
          rfl
        exact norm_ (by simp only [putAll, Act.put, List.setIfInBounds_toArray, List.set_cons_zero, List.set_cons_succ]) (hCont (v375, v378) _ ⟨hHeld, (by (with_reducible repeat (first | apply Kd.R_alloc | apply Kd.R_drewN | apply Kd.R_drew)); exact Kd.R_mono HO366.out (fun _ hk => ⟨hk.2, ⟨hk.1.2, hk.1.1⟩⟩)), (by (with_reducible repeat (first | apply Kd.R_alloc | apply Kd.R_drewN | apply Kd.R_drew)); exact HO370.out), (by (with_reducible repeat (first | apply Kd.R_alloc | apply Kd.R_drewN | apply Kd.R_drew)); exact Kd.R_mono HO376.out (fun _ hk => ⟨hk.1.1.2, ⟨hk.1.2, hk.2⟩⟩)), (by (with_reducible repeat (first | apply Kd.R_alloc | apply Kd.R_drewN | apply Kd.R_drew)); exact Kd.R_mono HO379.out (fun _ hk => ⟨hk.1.1.2, ⟨hk.2, hk.1.2⟩⟩)), (by (with_reducible repeat (first | refine blk_drewN ?_ _ | refine blk_drew ?_ | refine blk_alloc ?_ _)); exact BK360.out), (by (with_reducible repeat (first | refine blk_drewN ?_ _ | refine blk_drew ?_ | refine blk_alloc ?_ _)); exact BK373.out), (by repeat (first | (with_reducible first | exact HI363.out | apply IsS72.alloc | apply IsS72.drewN | apply IsS72.drew | apply IsS72.set_0 | apply IsS72.set_1 | refine IsS72.far ?_ NB363_360.out _ | refine IsS72.far ?_ NB363_373.out _) | exact HI363.out)), (by repeat (first | (with_reducible first | exact HB.out | apply below_alloc | apply pw_below_drewN | apply below_drew1 | refine below_set ?_ (IsS72.ge HI363.out) | refine below_set ?_ GE360.out | refine below_set ?_ GE373.out) | exact HB.out))⟩)
    rintro ⟨v375, v378⟩ w23 ⟨hS_, h0_, h1_, h2_, h3_, h4_, h5_, h6_, h7_⟩
    have n0_ : Aside0 (Kd.R k24 24 w23 w.heap.size (fun k_ => some k_ ≠ (v375 : Value).ownBlock ∧ some k_ ≠ (v378 : Value).ownBlock ∧ k_ ≠ gb360) (.slice Ao17 t364.length co17) t364) := ⟨h0_⟩
    have n1_ : Aside0 (Kd.R (Kd.int .i64) 3 w23 w.heap.size (fun _ => True) (.slice Ao16 t368.length co16) t368) := ⟨h1_⟩
    have n2_ : Aside0 (Kd.R k24 24 w23 w.heap.size (fun k_ => some k_ ≠ (.slice Ao17 t364.length co17 : Value).ownBlock ∧ some k_ ≠ (v378 : Value).ownBlock ∧ k_ ≠ gb360) v375 t374) := ⟨h2_⟩
    have n3_ : Aside0 (Kd.R k24 24 w23 w.heap.size (fun k_ => some k_ ≠ (.slice Ao17 t364.length co17 : Value).ownBlock ∧ some k_ ≠ (v375 : Value).ownBlock ∧ k_ ≠ gb360) v378 y377) := ⟨h3_⟩
    have n4_ : Aside0 (w23.heap[gb360]? = some (.cells #[.string a1_0, .int .i64 a1_1, .bool a1_2] 24 (0, 0))) := ⟨h4_⟩
    have n5_ : Aside0 (w23.heap[gb373]? = some (.cells #[.string t367, .slice Ao16 t368.length co16] 27 (0, 0))) := ⟨h5_⟩
    have n6_ : Aside0 (IsS72 w w23 g363 t371 t372) := ⟨h6_⟩
    have n7_ : Aside0 (Below w.heap.size w w23) := ⟨h7_⟩
    clear HO366
    clear HO370
    clear BK360
    clear BK373
    clear HI363
    clear HB
    clear h0_ h1_ h2_ h3_ h4_ h5_ h6_ h7_
    have HO366 := n0_
    have HO370 := n1_
    have HO376 := n2_
    have HO379 := n3_
    have BK360 := n4_
    have BK373 := n5_
    have HI363 := n6_
    have HB := n7_
    clear n0_ n1_ n2_ n3_ n4_ n5_ n6_ n7_
    have hHeld : w23.cell? ⟨gb360, 0, none⟩ = some (.string a1_0) ∧ w23.cell? ⟨gb360, 1, none⟩ = some (.int .i64 a1_1) ∧ w23.cell? ⟨gb360, 2, none⟩ = some (.bool a1_2) := hS_
    obtain ⟨Ao25, co25, eo25⟩ := Kd.R_slice HO379.out
    (first | subst eo25 | (injection eo25 with f1_ f2_ f3_; have f4_ := f1_.symm; have f5_ := f3_.symm; clear f1_ f2_ f3_; subst f4_; subst f5_))
    refine norm_ (a' := ?_) ?_ ?_
    rotate_left
    · simp only [putAll, Act.put, List.setIfInBounds_toArray, List.set_cons_zero, List.set_cons_succ]
      rfl
    refine one_ (i := 4) (N := some 27) #[true, true, true, true, true, false] rfl rfl (by kernel_rfl) (by decide) (fun K hK => ?_)
    refine Kd.R_append_rows_step k24 (w0 := w) w.heap.size (by rfl) (.tmp 24) (.tmp 26) 22 24 (.agg #[(.string ⟨#[]⟩), (.int .i64 0), (.bool false)]) 32 rfl Try.underlying22 info24 rfl (by decide) (by omega) v375 t374 y377 _ _ _ (fun k_ => some k_ ≠ (.slice Ao17 t364.length co17 : Value).ownBlock ∧ some k_ ≠ (.slice Ao25 y377.length co25 : Value).ownBlock ∧ k_ ≠ gb360) (fun _ => False) rfl rfl ?aO ?aR (fun _ _ h => h) (fun _ h => h.elim) ?aF ?aB ?aS ?aL ?_
    (case aR => repeat (first | exact (Kd.R_reads' HO379.out).2.2 | (with_reducible refine Kd.C_alloc ?_ _) | (with_reducible refine Kd.C_drewN ?_ _) | (with_reducible refine Kd.C_drew ?_)))
    (case aB => exact (by repeat (first | (with_reducible first | exact HB.out | apply below_alloc | apply pw_below_drewN | apply below_drew1 | refine below_set ?_ (IsS72.ge HI363.out) | refine below_set ?_ GE360.out | refine below_set ?_ GE373.out) | exact HB.out)))
    (case aF => exact (fun k_ hk => ⟨Kd.fresh' (Kd.R_lt (by (with_reducible repeat (first | apply Kd.R_alloc | apply Kd.R_drewN | apply Kd.R_drew)); exact HO366.out)) k_ hk, Kd.fresh' (Kd.R_lt (by (with_reducible repeat (first | apply Kd.R_alloc | apply Kd.R_drewN | apply Kd.R_drew)); exact HO379.out)) k_ hk, Kd.freshB (g := gb360) (o := .cells #[.string a1_0, .int .i64 a1_1, .bool a1_2] 24 (0, 0)) (by (with_reducible repeat (first | refine blk_drewN ?_ _ | refine blk_drew ?_ | refine blk_alloc ?_ _)); exact BK360.out) k_ hk⟩))
    (case aO => exact (by (with_reducible repeat (first | apply Kd.R_alloc | apply Kd.R_drewN | apply Kd.R_drew)); exact HO376.out))
    (case aS => exact (below_size (by repeat (first | (with_reducible first | exact HB.out | apply below_alloc | apply pw_below_drewN | apply below_drew1 | refine below_set ?_ (IsS72.ge HI363.out) | refine below_set ?_ GE360.out | refine below_set ?_ GE373.out) | exact HB.out))))
    (case aL => have := LMc7.out; omega)
    intro v381 w24 ho hb hg hat
    rw [← Ny380.out] at ho
    have n0_ := Aside0.mk (blk_grown (g := gb360) (o := .cells #[.string a1_0, .int .i64 a1_1, .bool a1_2] 24 (0, 0)) (by (with_reducible repeat (first | refine blk_drewN ?_ _ | refine blk_drew ?_ | refine blk_alloc ?_ _)); exact BK360.out) hg (Kd.R_away HO376.out (fun _ hk => hk.2.2)))
    have n1_ := Aside0.mk (IsS72.grown (by repeat (first | (with_reducible first | exact HI363.out | apply IsS72.alloc | apply IsS72.drewN | apply IsS72.drew | apply IsS72.set_0 | apply IsS72.set_1 | refine IsS72.far ?_ NB363_360.out _ | refine IsS72.far ?_ NB363_373.out _) | exact HI363.out)) hg (IsS72.own_ne HI363.out HO376.out (by decide)))
    have n2_ := Aside0.mk (Kd.R_after (ok := (fun k_ => some k_ ≠ (.slice Ao25 y377.length co25 : Value).ownBlock ∧ k_ ≠ gb360)) (by (with_reducible repeat (first | apply Kd.R_alloc | apply Kd.R_drewN | apply Kd.R_drew)); exact Kd.R_mono HO366.out (fun _ hk => ⟨⟨hk.2.1, hk.2.2⟩, hk.1⟩)) hg hat)
    have n3_ := Aside0.mk (Kd.R_over' (by (with_reducible repeat (first | apply Kd.R_alloc | apply Kd.R_drewN | apply Kd.R_drew)); exact HO370.out) (Kd.R_typed (by (with_reducible repeat (first | apply Kd.R_alloc | apply Kd.R_drewN | apply Kd.R_drew)); exact HO376.out)) (by decide) hg)
    have n4_ := Aside0.mk (blk_grown (g := gb373) (o := .cells #[.string t367, .slice Ao16 t368.length co16] 27 (0, 0)) (by (with_reducible repeat (first | refine blk_drewN ?_ _ | refine blk_drew ?_ | refine blk_alloc ?_ _)); exact BK373.out) hg (Kd.R_ne HO376.out BK373.out (by decide)))
    have n5_ := Aside0.mk (Kd.R_after (ok := (fun k_ => some k_ ≠ (.slice Ao17 t364.length co17 : Value).ownBlock ∧ k_ ≠ gb360)) (by (with_reducible repeat (first | apply Kd.R_alloc | apply Kd.R_drewN | apply Kd.R_drew)); exact Kd.R_mono HO379.out (fun _ hk => ⟨⟨hk.1, hk.2.2⟩, hk.2.1⟩)) hg hat)
    have n6_ := Aside0.mk (hb)
    have n7_ := Aside0.mk (ho)
    clear BK360
    clear HI363
    clear HO366
    clear HO370
    clear BK373
    clear HO379
    clear HB
    clear HO376
    have BK360 := n0_
    have HI363 := n1_
    have HO366 := n2_
    have HO370 := n3_
    have BK373 := n4_
    have HO379 := n5_
    have HB := n6_
    have HO382 := n7_
    clear n0_ n1_ n2_ n3_ n4_ n5_ n6_ n7_
    clear ho hb hg hat
    refine hK.out _ _ ⟨(blk_cell BK360.out 0).trans rfl, (blk_cell BK360.out 1).trans rfl, (blk_cell BK360.out 2).trans rfl⟩ (fun hHeld => ?_)
    clear hK K
    refine norm_ (a' := ?_) ?_ ?_
    rotate_left
    · show Act.put _ (some 27) _ = _
      simp only [Act.put, List.setIfInBounds_toArray, List.set_cons_zero, List.set_cons_succ, i64_w, i32_w]
      rfl
    refine pure_ (i := 5) (N := some 9) (v := ?_) (a' := ?_) #[true, true, true, true, true, true] rfl rfl (by kernel_rfl) (fun _ _ _ h => h) (Or.inl ⟨by rfl, ?_⟩) ?_ ?_
    rotate_left
    · intro w'
      go_simp
      with_reducible rfl
    rotate_left
    · simp only [Act.put, List.setIfInBounds_toArray, List.set_cons_zero, List.set_cons_succ, i64_w, i32_w]
      rfl
    refine done_ (by kernel_rfl) ?_
    go_upto_region 3 with (fail)
    go_cut [33] (fun v33 wc => ∃ (kq : Nat) (x33_7 : Bool), v33 = .bool x33_7 ∧ Aside0 (cippuslaw07_StemmaFewest.j0 kq l0 t364 y380 x33_7 = some r) ∧ Aside0 (kq ≤ k) ∧ Aside0 (Kd.R k24 24 wc w.heap.size (fun k_ => some k_ ≠ (v381 : Value).ownBlock ∧ k_ ≠ gb360) (.slice Ao17 t364.length co17) t364) ∧ Aside0 (Kd.R k24 24 wc w.heap.size (fun k_ => some k_ ≠ ((.slice Ao17 t364.length co17) : Value).ownBlock ∧ k_ ≠ gb360) v381 y380) ∧ Aside0 (Kd.R (Kd.int .i64) 3 wc w.heap.size (fun _ => True) (.slice Ao16 t368.length co16) t368) ∧ Aside0 (wc.heap[gb360]? = some (.cells #[.string a1_0, .int .i64 a1_1, .bool a1_2] 24 (0, 0))) ∧ Aside0 (wc.heap[gb373]? = some (.cells #[.string t367, (.slice Ao16 t368.length co16)] 27 (0, 0))) ∧ Aside0 (Below w.heap.size w wc))
    case first =>
      have H := HC8.out
      clear HC8
      replace H := Option.bind_eq_some_iff.mp H
      obtain ⟨t383, A260, H⟩ := H
      replace H : (if t383 = true then (cippuslaw07_StemmaFewest.j0 k l0 t364 y380 true) else ((cippuslaw07_large.f k y380).bind fun t384 => (cippuslaw07_StemmaFewest.j0 k l0 t364 y380 t384))) = some r := H
      have A26 := Aside0.mk A260
      clear A260
      by_cases c27 : t383 = true
      · subst c27
        have H1 : (cippuslaw07_StemmaFewest.j0 k l0 t364 y380 true) = some r := by rw [if_pos rfl] at H; exact H
        clear H
        have H := H1
        clear H1
        have H' := Aside0.mk H
        clear H
        go_wp2_with (first | ((with_reducible refine gate_callee (f := 16) rfl ?_); refine goesL_ (some 29) rfl rfl Try.func16 (by kernel_rfl) rfl #[.slice A0 l0.length c0] rfl (by (try simp only [List.map_toArray, List.map_cons, List.map_nil]); first | done | rfl | (simp only [List.length_drop, List.length_take]; rfl)) ?_; (with_reducible refine (cippuslaw07_large.calls k _ _ l0 true _ ?side1 ?side2 A26.out).mono ?_); (case side1 => repeat (first | exact (Kd.C_below HR0.out HB.out) | (with_reducible refine Kd.C_alloc ?_ _) | (with_reducible refine Kd.C_drewN ?_ _) | (with_reducible refine Kd.C_drew ?_))); (case side2 => exact HC0.out); rintro e w28 ⟨rfl, hb⟩; refine ⟨_, rfl, ?_⟩; have n0_ := Aside0.mk (Kd.R_below (by (with_reducible repeat (first | apply Kd.R_alloc | apply Kd.R_drewN | apply Kd.R_drew)); exact HO366.out) hb); have n1_ := Aside0.mk (Kd.R_below (by (with_reducible repeat (first | apply Kd.R_alloc | apply Kd.R_drewN | apply Kd.R_drew)); exact HO370.out) hb); have n2_ := Aside0.mk (Kd.R_below (by (with_reducible repeat (first | apply Kd.R_alloc | apply Kd.R_drewN | apply Kd.R_drew)); exact HO379.out) hb); have n3_ := Aside0.mk (Kd.R_below (by (with_reducible repeat (first | apply Kd.R_alloc | apply Kd.R_drewN | apply Kd.R_drew)); exact HO382.out) hb); have n4_ := Aside0.mk (blk_below (g := gb360) (o := .cells #[.string a1_0, .int .i64 a1_1, .bool a1_2] 24 (0, 0)) (by (with_reducible repeat (first | refine blk_drewN ?_ _ | refine blk_drew ?_ | refine blk_alloc ?_ _)); exact BK360.out) hb); have n5_ := Aside0.mk (IsS72.below (by repeat (first | (with_reducible first | exact HI363.out | apply IsS72.alloc | apply IsS72.drewN | apply IsS72.drew | apply IsS72.set_0 | apply IsS72.set_1 | refine IsS72.far ?_ NB363_360.out _ | refine IsS72.far ?_ NB363_373.out _) | exact HI363.out)) hb); have n6_ := Aside0.mk (blk_below (g := gb373) (o := .cells #[.string t367, .slice Ao16 t368.length co16] 27 (0, 0)) (by (with_reducible repeat (first | refine blk_drewN ?_ _ | refine blk_drew ?_ | refine blk_alloc ?_ _)); exact BK373.out) hb); have n7_ := Aside0.mk (below_step (by repeat (first | (with_reducible first | exact HB.out | apply below_alloc | apply pw_below_drewN | apply below_drew1 | refine below_set ?_ (IsS72.ge HI363.out) | refine below_set ?_ GE360.out | refine below_set ?_ GE373.out) | exact HB.out)) hb); clear HO366; clear HO370; clear HO379; clear HO382; clear BK360; clear HI363; clear BK373; clear HB; have HO366 := n0_; have HO370 := n1_; have HO379 := n2_; have HO382 := n3_; have BK360 := n4_; have HI363 := n5_; have BK373 := n6_; have HB := n7_; clear n0_ n1_ n2_ n3_ n4_ n5_ n6_ n7_; (try clear hb); (try clear hb2); (try clear hk); (try clear hi)))
        go_meet
        case rel => exact ⟨_, (true), (by first | rfl | (simp; done) | (simp [*]; done)), H', ⟨by first | omega | exact Nat.le_refl _⟩, ⟨by (with_reducible repeat (first | apply Kd.R_alloc | apply Kd.R_drewN | apply Kd.R_drew)); exact Kd.R_mono HO366.out (fun _ hk => ⟨hk.2, hk.1.2⟩)⟩, ⟨by (with_reducible repeat (first | apply Kd.R_alloc | apply Kd.R_drewN | apply Kd.R_drew)); exact Kd.R_mono HO382.out (fun _ hk => ⟨hk.1, hk.2.2⟩)⟩, ⟨by (with_reducible repeat (first | apply Kd.R_alloc | apply Kd.R_drewN | apply Kd.R_drew)); exact HO370.out⟩, ⟨by (with_reducible repeat (first | refine blk_drewN ?_ _ | refine blk_drew ?_ | refine blk_alloc ?_ _)); exact BK360.out⟩, ⟨by (with_reducible repeat (first | refine blk_drewN ?_ _ | refine blk_drew ?_ | refine blk_alloc ?_ _)); exact BK373.out⟩, ⟨by repeat (first | (with_reducible first | exact HB.out | apply below_alloc | apply pw_below_drewN | apply below_drew1 | refine below_set ?_ (IsS72.ge HI363.out) | refine below_set ?_ GE360.out | refine below_set ?_ GE373.out) | exact HB.out)⟩⟩
      · replace c27 := Bool.eq_false_iff.mpr c27
        subst c27
        have H1 : ((cippuslaw07_large.f k y380).bind fun t384 => (cippuslaw07_StemmaFewest.j0 k l0 t364 y380 t384)) = some r := by rw [if_neg (show ¬ (false = true) by decide)] at H; exact H
        clear H
        have H := H1
        clear H1
        replace H := Option.bind_eq_some_iff.mp H
        obtain ⟨t384, A290, H⟩ := H
        replace H : (cippuslaw07_StemmaFewest.j0 k l0 t364 y380 t384) = some r := H
        have A29 := Aside0.mk A290
        clear A290
        have H' := Aside0.mk H
        clear H
        go_wp2_with (first | ((with_reducible refine gate_callee (f := 16) rfl ?_); refine goesL_ (some 29) rfl rfl Try.func16 (by kernel_rfl) rfl #[.slice A0 l0.length c0] rfl (by (try simp only [List.map_toArray, List.map_cons, List.map_nil]); first | done | rfl | (simp only [List.length_drop, List.length_take]; rfl)) ?_; (with_reducible refine (cippuslaw07_large.calls k _ _ l0 false _ ?side1 ?side2 A26.out).mono ?_); (case side1 => repeat (first | exact (Kd.C_below HR0.out HB.out) | (with_reducible refine Kd.C_alloc ?_ _) | (with_reducible refine Kd.C_drewN ?_ _) | (with_reducible refine Kd.C_drew ?_))); (case side2 => exact HC0.out); rintro e w30 ⟨rfl, hb⟩; refine ⟨_, rfl, ?_⟩; have n0_ := Aside0.mk (Kd.R_below (by (with_reducible repeat (first | apply Kd.R_alloc | apply Kd.R_drewN | apply Kd.R_drew)); exact HO366.out) hb); have n1_ := Aside0.mk (Kd.R_below (by (with_reducible repeat (first | apply Kd.R_alloc | apply Kd.R_drewN | apply Kd.R_drew)); exact HO370.out) hb); have n2_ := Aside0.mk (Kd.R_below (by (with_reducible repeat (first | apply Kd.R_alloc | apply Kd.R_drewN | apply Kd.R_drew)); exact HO379.out) hb); have n3_ := Aside0.mk (Kd.R_below (by (with_reducible repeat (first | apply Kd.R_alloc | apply Kd.R_drewN | apply Kd.R_drew)); exact HO382.out) hb); have n4_ := Aside0.mk (blk_below (g := gb360) (o := .cells #[.string a1_0, .int .i64 a1_1, .bool a1_2] 24 (0, 0)) (by (with_reducible repeat (first | refine blk_drewN ?_ _ | refine blk_drew ?_ | refine blk_alloc ?_ _)); exact BK360.out) hb); have n5_ := Aside0.mk (IsS72.below (by repeat (first | (with_reducible first | exact HI363.out | apply IsS72.alloc | apply IsS72.drewN | apply IsS72.drew | apply IsS72.set_0 | apply IsS72.set_1 | refine IsS72.far ?_ NB363_360.out _ | refine IsS72.far ?_ NB363_373.out _) | exact HI363.out)) hb); have n6_ := Aside0.mk (blk_below (g := gb373) (o := .cells #[.string t367, .slice Ao16 t368.length co16] 27 (0, 0)) (by (with_reducible repeat (first | refine blk_drewN ?_ _ | refine blk_drew ?_ | refine blk_alloc ?_ _)); exact BK373.out) hb); have n7_ := Aside0.mk (below_step (by repeat (first | (with_reducible first | exact HB.out | apply below_alloc | apply pw_below_drewN | apply below_drew1 | refine below_set ?_ (IsS72.ge HI363.out) | refine below_set ?_ GE360.out | refine below_set ?_ GE373.out) | exact HB.out)) hb); clear HO366; clear HO370; clear HO379; clear HO382; clear BK360; clear HI363; clear BK373; clear HB; have HO366 := n0_; have HO370 := n1_; have HO379 := n2_; have HO382 := n3_; have BK360 := n4_; have HI363 := n5_; have BK373 := n6_; have HB := n7_; clear n0_ n1_ n2_ n3_ n4_ n5_ n6_ n7_; (try clear hb); (try clear hb2); (try clear hk); (try clear hi); obtain ⟨Ao31, co31, eo31⟩ := Kd.R_slice HO382.out; subst eo31) | (go_at_call 16; (with_reducible refine (cippuslaw07_large.calls k _ _ y380 t384 _ ?side1 ?side2 A29.out).mono ?_); (case side1 => repeat (first | exact (Kd.R_reads' HO382.out).2.2 | (with_reducible refine Kd.C_alloc ?_ _) | (with_reducible refine Kd.C_drewN ?_ _) | (with_reducible refine Kd.C_drew ?_))); (case side2 => exact (Kd.R_reads' HO382.out).2.1); rintro e w32 ⟨rfl, hb⟩; have n0_ := Aside0.mk (Kd.R_below (by (with_reducible repeat (first | apply Kd.R_alloc | apply Kd.R_drewN | apply Kd.R_drew)); exact HO366.out) hb); have n1_ := Aside0.mk (Kd.R_below (by (with_reducible repeat (first | apply Kd.R_alloc | apply Kd.R_drewN | apply Kd.R_drew)); exact HO370.out) hb); have n2_ := Aside0.mk (Kd.R_below (by (with_reducible repeat (first | apply Kd.R_alloc | apply Kd.R_drewN | apply Kd.R_drew)); exact HO379.out) hb); have n3_ := Aside0.mk (Kd.R_below (by (with_reducible repeat (first | apply Kd.R_alloc | apply Kd.R_drewN | apply Kd.R_drew)); exact HO382.out) hb); have n4_ := Aside0.mk (blk_below (g := gb360) (o := .cells #[.string a1_0, .int .i64 a1_1, .bool a1_2] 24 (0, 0)) (by (with_reducible repeat (first | refine blk_drewN ?_ _ | refine blk_drew ?_ | refine blk_alloc ?_ _)); exact BK360.out) hb); have n5_ := Aside0.mk (IsS72.below (by repeat (first | (with_reducible first | exact HI363.out | apply IsS72.alloc | apply IsS72.drewN | apply IsS72.drew | apply IsS72.set_0 | apply IsS72.set_1 | refine IsS72.far ?_ NB363_360.out _ | refine IsS72.far ?_ NB363_373.out _) | exact HI363.out)) hb); have n6_ := Aside0.mk (blk_below (g := gb373) (o := .cells #[.string t367, .slice Ao16 t368.length co16] 27 (0, 0)) (by (with_reducible repeat (first | refine blk_drewN ?_ _ | refine blk_drew ?_ | refine blk_alloc ?_ _)); exact BK373.out) hb); have n7_ := Aside0.mk (below_step (by repeat (first | (with_reducible first | exact HB.out | apply below_alloc | apply pw_below_drewN | apply below_drew1 | refine below_set ?_ (IsS72.ge HI363.out) | refine below_set ?_ GE360.out | refine below_set ?_ GE373.out) | exact HB.out)) hb); clear HO366; clear HO370; clear HO379; clear HO382; clear BK360; clear HI363; clear BK373; clear HB; have HO366 := n0_; have HO370 := n1_; have HO379 := n2_; have HO382 := n3_; have BK360 := n4_; have HI363 := n5_; have BK373 := n6_; have HB := n7_; clear n0_ n1_ n2_ n3_ n4_ n5_ n6_ n7_; (try clear hb); (try clear hb2); (try clear hk); (try clear hi)))
        go_meet
        case rel => exact ⟨_, (t384), (by first | rfl | (simp; done) | (simp [*]; done)), H', ⟨by first | omega | exact Nat.le_refl _⟩, ⟨by (with_reducible repeat (first | apply Kd.R_alloc | apply Kd.R_drewN | apply Kd.R_drew)); exact Kd.R_mono HO366.out (fun _ hk => ⟨hk.2, hk.1.2⟩)⟩, ⟨by (with_reducible repeat (first | apply Kd.R_alloc | apply Kd.R_drewN | apply Kd.R_drew)); exact Kd.R_mono HO382.out (fun _ hk => ⟨hk.1, hk.2.2⟩)⟩, ⟨by (with_reducible repeat (first | apply Kd.R_alloc | apply Kd.R_drewN | apply Kd.R_drew)); exact HO370.out⟩, ⟨by (with_reducible repeat (first | refine blk_drewN ?_ _ | refine blk_drew ?_ | refine blk_alloc ?_ _)); exact BK360.out⟩, ⟨by (with_reducible repeat (first | refine blk_drewN ?_ _ | refine blk_drew ?_ | refine blk_alloc ?_ _)); exact BK373.out⟩, ⟨by repeat (first | (with_reducible first | exact HB.out | apply below_alloc | apply pw_below_drewN | apply below_drew1 | refine below_set ?_ (IsS72.ge HI363.out) | refine below_set ?_ GE360.out | refine below_set ?_ GE373.out) | exact HB.out)⟩⟩
    case rest =>
      clear HC8
      try clear c1
      try clear c2
      try clear p2
      try clear c3
      try clear c4
      try clear c7
      try clear c13
      try clear c14
      try clear c15
      try clear c16
      try clear c27
      try clear hcz15_0
      try clear hcz15_1
      try clear hfz15_0
      try clear hfz15_1
      obtain ⟨kq, x33_7, rfl, HA, HJ7, HO_7, HO_9, HO_374001, BK360, BK373, HB⟩ := hcut
      cases kq with
      | zero => exact absurd HA.out (by simp [cippuslaw07_StemmaFewest.j0])
      | succ kj7 =>
        have H := HA.out
        clear HA
        simp only [cippuslaw07_StemmaFewest.j0] at H
        by_cases c33 : x33_7 = true
        · subst c33
          have H1 : ((cippuslaw07_found.f kj7).bind fun t385 => (some t385)) = some r := by rw [if_pos rfl] at H; exact H
          clear H
          have H := H1
          clear H1
          replace H := Option.bind_eq_some_iff.mp H
          obtain ⟨t385, A340, H⟩ := H
          replace H : (some t385) = some r := H
          have A34 := Aside0.mk A340
          clear A340
          obtain rfl := Option.some.inj H
          go_wp2_with (first | ((with_reducible refine gate_callee (f := 17) rfl ?_); refine goesL_ (some 34) rfl rfl Try.func17 (by kernel_rfl) rfl #[] rfl (by (try simp only [List.map_toArray, List.map_cons, List.map_nil]); first | done | rfl | (simp only [List.length_drop, List.length_take]; rfl)) ?_; (with_reducible refine (cippuslaw07_found.calls kj7  t385 _ A34.out).mono ?_); rintro e w35 ⟨rfl, hb⟩; refine ⟨_, rfl, ?_⟩; have n0_ := Aside0.mk (Kd.R_below (by (with_reducible repeat (first | apply Kd.R_alloc | apply Kd.R_drewN | apply Kd.R_drew)); exact HO_7.out) hb); have n1_ := Aside0.mk (Kd.R_below (by (with_reducible repeat (first | apply Kd.R_alloc | apply Kd.R_drewN | apply Kd.R_drew)); exact HO_9.out) hb); have n2_ := Aside0.mk (Kd.R_below (by (with_reducible repeat (first | apply Kd.R_alloc | apply Kd.R_drewN | apply Kd.R_drew)); exact HO_374001.out) hb); have n3_ := Aside0.mk (blk_below (g := gb360) (o := .cells #[.string a1_0, .int .i64 a1_1, .bool a1_2] 24 (0, 0)) (by (with_reducible repeat (first | refine blk_drewN ?_ _ | refine blk_drew ?_ | refine blk_alloc ?_ _)); exact BK360.out) hb); have n4_ := Aside0.mk (blk_below (g := gb373) (o := .cells #[.string t367, .slice Ao16 t368.length co16] 27 (0, 0)) (by (with_reducible repeat (first | refine blk_drewN ?_ _ | refine blk_drew ?_ | refine blk_alloc ?_ _)); exact BK373.out) hb); have n5_ := Aside0.mk (below_step (by repeat (first | (with_reducible first | exact HB.out | apply below_alloc | apply pw_below_drewN | apply below_drew1 | refine below_set ?_ GE360.out | refine below_set ?_ GE373.out) | exact HB.out)) hb); clear HO_7; clear HO_9; clear HO_374001; clear BK360; clear BK373; clear HB; have HO_7 := n0_; have HO_9 := n1_; have HO_374001 := n2_; have BK360 := n3_; have BK373 := n4_; have HB := n5_; clear n0_ n1_ n2_ n3_ n4_ n5_; (try clear hb); (try clear hb2); (try clear hk); (try clear hi)))
          go_ret
          exact ⟨by first | rfl | (simp [errW_none, errW_some] <;> rfl) | (simp [*, errW_none, errW_some] <;> rfl), by repeat (first | (with_reducible first | exact HB.out | apply below_alloc | apply pw_below_drewN | apply below_drew1 | refine below_set ?_ GE360.out | refine below_set ?_ GE373.out) | exact HB.out)⟩
        · replace c33 := Bool.eq_false_iff.mpr c33
          subst c33
          have H1 : ((cippuslaw07_every4.f l0 t364 y380).bind fun t386 => ((cippuslaw07_found.f kj7).bind fun t387 => (some t387))) = some r := by rw [if_neg (show ¬ (false = true) by decide)] at H; exact H
          clear H
          have H := H1
          clear H1
          replace H := Option.bind_eq_some_iff.mp H
          obtain ⟨t386, A360, H⟩ := H
          replace H : ((cippuslaw07_found.f kj7).bind fun t387 => (some t387)) = some r := H
          have A36 := Aside0.mk A360
          clear A360
          replace H := Option.bind_eq_some_iff.mp H
          obtain ⟨t387, A370, H⟩ := H
          replace H : (some t387) = some r := H
          have A37 := Aside0.mk A370
          clear A370
          obtain rfl := Option.some.inj H
          obtain ⟨Ao38, co38, eo38⟩ := Kd.R_slice HO_9.out
          subst eo38
          obtain ⟨hN0, hN1, hN2⟩ := Pure.every4_some A36.out
          go_upto_block 0 with (fail)
          obtain ⟨ls, hls⟩ : ∃ ls : List (List S24), ls = [l0, t364, y380] := ⟨_, rfl⟩
          have hlen : ls.length = 3 := by rw [hls]; rfl
          have HBw := Aside0.mk (below_alloc HB.out (.cells #[Value.slice A0 l0.length c0, Value.slice Ao17 t364.length co17, Value.slice Ao38 y380.length co38] 22))
          have HRa : Aside0 (Kd.C (Kd.slice 24 k24) (wc.alloc (.cells #[Value.slice A0 l0.length c0, Value.slice Ao17 t364.length co17, Value.slice Ao38 y380.length co38] 22)) (some ⟨wc.heap.size, 0, none⟩) ls.length ls) := ⟨by
            rw [hls]
            refine all_C (t := 22) (vs := [Value.slice A0 l0.length c0, Value.slice Ao17 t364.length co17, Value.slice Ao38 y380.length co38]) (blk_new _ _) rfl (by simp) (fun j x hx => ?_)
            rcases j with _ | _ | _ | j
            · have hx : l0 = x := by simpa using hx
              subst hx
              exact ⟨_, _, rfl, HC0.out, Kd.C_alloc (Kd.C_below HR0.out HB.out) _⟩
            · have hx : t364 = x := by simpa using hx
              subst hx
              exact ⟨_, _, rfl, (Kd.R_reads' HO_7.out).2.1, Kd.C_alloc (Kd.R_reads' HO_7.out).2.2 _⟩
            · have hx : y380 = x := by simpa using hx
              subst hx
              exact ⟨_, _, rfl, (Kd.R_reads' HO_9.out).2.1, Kd.C_alloc (Kd.R_reads' HO_9.out).2.2 _⟩
            · simp at hx⟩
          have HCa : Aside0 (ls.length ≤ 3) := ⟨by omega⟩
          obtain ⟨kz, HZ⟩ := (Pure.loop4_ev ls (by omega) (fun j hj => by
            rw [hls] at hj ⊢
            rcases j with _ | _ | _ | j
            · exact hN0
            · exact hN1
            · exact hN2
            · simp at hj; omega)).rounds
          have H : (cippuslaw07_loop4.l0 kz ls 0) = some true := HZ
          clear HZ hN0 hN1 hN2
          have H' := Aside0.mk H
          clear H
          rw [show (Value.slice (some ⟨wc.heap.size, 0, none⟩) 3 3) = Value.slice (some ⟨wc.heap.size, 0, none⟩) ls.length 3 by rw [hlen]]
          obtain ⟨Aa, hAa⟩ : ∃ Aa : Option Addr, Aa = some ⟨wc.heap.size, 0, none⟩ := ⟨_, rfl⟩
          rw [← hAa] at HRa ⊢
          clear hAa hls hlen HO_7 HO_9 HO_374001 BK360 BK373 HB
          generalize wc.alloc (.cells #[Value.slice A0 l0.length c0, Value.slice Ao17 t364.length co17, Value.slice Ao38 y380.length co38] 22) = wq at HBw HRa ⊢
          go_cut [] (fun wx => Aside0 (Below w.heap.size w wx))
          case first =>
            have HB := Aside0.mk (Below.refl wq.heap.size wq)
            go_wp2_with fail
            go_loopg [11] kz (fun kq v11 w' => ∃ (x11_1 : Int), v11 = .int .i64 x11_1 ∧ Aside0 (cippuslaw07_loop4.l0 kq ls x11_1 = some true) ∧ Aside0 (kq ≤ kz) ∧ Aside0 (Below wq.heap.size wq w'))
            case atStart => exact ⟨(0), (by first | rfl | (simp; done) | (simp [*]; done)), H', ⟨Nat.le_refl _⟩, ⟨by repeat (first | (with_reducible first | exact HB.out | apply below_alloc | apply pw_below_drewN | apply below_drew1) | exact HB.out)⟩⟩
            case round =>
              clear H'
              obtain ⟨x11_1, rfl, HA, HK1, HB⟩ := hrel
              cases gk with
              | zero => exact absurd HA.out (by simp [cippuslaw07_loop4.l0])
              | succ k1 =>
                have H := HA.out
                clear HA
                simp only [cippuslaw07_loop4.l0] at H
                by_cases c2 : x11_1 < (ls.length : Int)
                · rw [if_pos c2] at H
                  have c2b0 : decide (x11_1 < (ls.length : Int)) = true := decide_eq_true c2
                  clear c2
                  by_cases c3 : 0 ≤ x11_1
                  · rw [if_pos c3] at H
                    have c3b0 : decide (0 ≤ x11_1) = true := decide_eq_true c3
                    clear c3
                    replace H := Option.bind_eq_some_iff.mp H
                    obtain ⟨t358, A40, H⟩ := H
                    replace H : ((stemma_Fewest.f k1 t358).bind fun bt361 => ((cippusref07_Fewest.f k1 (rd_L8 ls x11_1)).bind fun bt364 => (if bt361.1 = bt364.1 then (if bt361.2 = bt364.2 then ((cippuskit_SameCopies.f k1 t358 (rd_L8 ls x11_1)).bind fun t367 => (if t367 = true then (cippuslaw07_loop4.l0 k1 ls (wrap64 (x11_1 + 1))) else (some false))) else (some false)) else (some false)))) = some true := H
                    have A4 := Aside0.mk A40
                    clear A40
                    replace H := Option.bind_eq_some_iff.mp H
                    obtain ⟨⟨t361, t362⟩, A50, H⟩ := H
                    replace H : ((cippusref07_Fewest.f k1 (rd_L8 ls x11_1)).bind fun bt364 => (if t361 = bt364.1 then (if t362 = bt364.2 then ((cippuskit_SameCopies.f k1 t358 (rd_L8 ls x11_1)).bind fun t367 => (if t367 = true then (cippuslaw07_loop4.l0 k1 ls (wrap64 (x11_1 + 1))) else (some false))) else (some false)) else (some false))) = some true := H
                    have A5 := Aside0.mk A50
                    clear A50
                    replace H := Option.bind_eq_some_iff.mp H
                    obtain ⟨⟨t364, t365⟩, A60, H⟩ := H
                    replace H : (if t361 = t364 then (if t362 = t365 then ((cippuskit_SameCopies.f k1 t358 (rd_L8 ls x11_1)).bind fun t367 => (if t367 = true then (cippuslaw07_loop4.l0 k1 ls (wrap64 (x11_1 + 1))) else (some false))) else (some false)) else (some false)) = some true := H
                    have A6 := Aside0.mk A60
                    clear A60
                    by_cases c7 : t361 = t364
                    · rw [if_pos c7] at H
                      have c7b0 : (t361 == t364) = true := beq_iff_eq.mpr c7
                      have c7b1 : (t361 != t364) = false := bne_eq_false_iff_eq.mpr c7
                      clear c7
                      by_cases c8 : t362 = t365
                      · rw [if_pos c8] at H
                        have c8b0 : (t362 == t365) = true := beq_iff_eq.mpr c8
                        have c8b1 : (t362 != t365) = false := bne_eq_false_iff_eq.mpr c8
                        clear c8
                        replace H := Option.bind_eq_some_iff.mp H
                        obtain ⟨t367, A90, H⟩ := H
                        replace H : (if t367 = true then (cippuslaw07_loop4.l0 k1 ls (wrap64 (x11_1 + 1))) else (some false)) = some true := H
                        have A9 := Aside0.mk A90
                        clear A90
                        by_cases c10 : t367 = true
                        · subst c10
                          have H1 : (cippuslaw07_loop4.l0 k1 ls (wrap64 (x11_1 + 1))) = some true := by rw [if_pos rfl] at H; exact H
                          clear H
                          have H := H1
                          clear H1
                          have H' := Aside0.mk H
                          clear H
                          have p357 : 0 ≤ (x11_1 : Int) := of_decide_eq_true (by first | (with_reducible assumption) | assumption)
                          have q357 : x11_1 < (ls.length : Int) := of_decide_eq_true (by first | (with_reducible assumption) | assumption)
                          obtain ⟨ad357, A357_0, c357_0, e357, hx357_0, hl357_0, hi357_0⟩ := at_L8 HRa.out x11_1 p357 q357
                          cases e357
                          try replace hx357_0 := (HB.out.cell (World.block_lt_of_cell? wq _ hx357_0)).trans hx357_0
                          have HR357_0 := Aside0.mk hi357_0
                          have HC357_0 := Aside0.mk hl357_0
                          clear hi357_0 hl357_0
                          replace p357 := eq_true p357
                          replace q357 := eq_true q357
                          go_wp2_with (first | ((with_reducible refine gate_callee (f := 15) rfl ?_); refine goesL_ (some 49) rfl rfl Try.func15 (by kernel_rfl) rfl #[.slice A357_0 (rd_L8 ls x11_1).length c357_0] rfl (by (try simp only [List.map_toArray, List.map_cons, List.map_nil]); first | done | rfl | (simp only [List.length_drop, List.length_take]; rfl)) ?_; (with_reducible refine (cippuskit_CopyCopies.calls _ _ (rd_L8 ls x11_1) t358 _ ?side1 ?side2 A4.out).mono ?_); (case side1 => repeat (first | exact (Kd.C_below HR357_0.out HB.out) | (with_reducible refine Kd.C_alloc ?_ _) | (with_reducible refine Kd.C_drewN ?_ _) | (with_reducible refine Kd.C_drew ?_))); (case side2 => exact HC357_0.out); rintro e w11 ⟨v359, rfl, ho0, hb⟩; refine ⟨_, rfl, ?_⟩; have n0_ := Aside0.mk (Kd.R_lower ho0 (below_size (by repeat (first | (with_reducible first | exact HB.out | apply below_alloc | apply pw_below_drewN | apply below_drew1) | exact HB.out)))); have n1_ := Aside0.mk (below_step (by repeat (first | (with_reducible first | exact HB.out | apply below_alloc | apply pw_below_drewN | apply below_drew1) | exact HB.out)) hb); clear HB; have HO360 := n0_; have HB := n1_; clear n0_ n1_; (try clear hb); (try clear hb2); (try clear hk); (try clear hi); (try clear ho0); obtain ⟨Ao12, co12, eo12⟩ := Kd.R_slice HO360.out; subst eo12) | ((with_reducible refine gate_callee (f := 24) rfl ?_); refine goesL_ (some 52) rfl rfl Try.func24 (by kernel_rfl) rfl #[.slice Ao12 t358.length co12] rfl (by (try simp only [List.map_toArray, List.map_cons, List.map_nil]); first | done | rfl | (simp only [List.length_drop, List.length_take]; rfl)) ?_; (with_reducible refine (stemma_Fewest.calls k1 _ _ t358 t361 t362 _ ?side1 ?side2 A5.out).mono ?_); (case side1 => repeat (first | exact (Kd.R_reads' HO360.out).2.2 | (with_reducible refine Kd.C_alloc ?_ _) | (with_reducible refine Kd.C_drewN ?_ _) | (with_reducible refine Kd.C_drew ?_))); (case side2 => exact (Kd.R_reads' HO360.out).2.1); rintro e w13 ⟨rfl, hb⟩; refine ⟨_, rfl, ?_⟩; have n0_ := Aside0.mk (Kd.R_below (by (with_reducible repeat (first | apply Kd.R_alloc | apply Kd.R_drewN | apply Kd.R_drew)); exact HO360.out) hb); have n1_ := Aside0.mk (below_step (by repeat (first | (with_reducible first | exact HB.out | apply below_alloc | apply pw_below_drewN | apply below_drew1) | exact HB.out)) hb); clear HO360; clear HB; have HO360 := n0_; have HB := n1_; clear n0_ n1_; (try clear hb); (try clear hb2); (try clear hk); (try clear hi); have p363 : 0 ≤ (x11_1 : Int) := of_decide_eq_true (by first | (with_reducible assumption) | assumption); have q363 : x11_1 < (ls.length : Int) := of_decide_eq_true (by first | (with_reducible assumption) | assumption); obtain ⟨ad363, A363_0, c363_0, e363, hx363_0, hl363_0, hi363_0⟩ := at_L8 HRa.out x11_1 p363 q363; obtain rfl : ad357 = ad363 := (by injection e363); replace hx363_0 := (HB.out.cell (World.block_lt_of_cell? wq _ hx363_0)).trans hx363_0; have HR363_0 := Aside0.mk hi363_0; have HC363_0 := Aside0.mk hl363_0; clear hi363_0 hl363_0; replace p363 := eq_true p363; replace q363 := eq_true q363) | ((with_reducible refine gate_callee (f := 25) rfl ?_); refine goesL_ (some 60) rfl rfl Try.func25 (by kernel_rfl) rfl #[.slice A363_0 (rd_L8 ls x11_1).length c363_0] rfl (by (try simp only [List.map_toArray, List.map_cons, List.map_nil]); first | done | rfl | (simp only [List.length_drop, List.length_take]; rfl)) ?_; (with_reducible refine (cippusref07_Fewest.calls k1 _ _ (rd_L8 ls x11_1) t364 t365 _ ?side1 ?side2 A6.out).mono ?_); (case side1 => repeat (first | exact (Kd.C_below HR363_0.out HB.out) | (with_reducible refine Kd.C_alloc ?_ _) | (with_reducible refine Kd.C_drewN ?_ _) | (with_reducible refine Kd.C_drew ?_))); (case side2 => exact HC363_0.out); rintro e w14 ⟨rfl, hb⟩; refine ⟨_, rfl, ?_⟩; have n0_ := Aside0.mk (Kd.R_below (by (with_reducible repeat (first | apply Kd.R_alloc | apply Kd.R_drewN | apply Kd.R_drew)); exact HO360.out) hb); have n1_ := Aside0.mk (below_step (by repeat (first | (with_reducible first | exact HB.out | apply below_alloc | apply pw_below_drewN | apply below_drew1) | exact HB.out)) hb); clear HO360; clear HB; have HO360 := n0_; have HB := n1_; clear n0_ n1_; (try clear hb); (try clear hb2); (try clear hk); (try clear hi); have p366 : 0 ≤ (x11_1 : Int) := of_decide_eq_true (by first | (with_reducible assumption) | assumption); have q366 : x11_1 < (ls.length : Int) := of_decide_eq_true (by first | (with_reducible assumption) | assumption); obtain ⟨ad366, A366_0, c366_0, e366, hx366_0, hl366_0, hi366_0⟩ := at_L8 HRa.out x11_1 p366 q366; obtain rfl : ad357 = ad366 := (by injection e366); replace hx366_0 := (HB.out.cell (World.block_lt_of_cell? wq _ hx366_0)).trans hx366_0; have HR366_0 := Aside0.mk hi366_0; have HC366_0 := Aside0.mk hl366_0; clear hi366_0 hl366_0; replace p366 := eq_true p366; replace q366 := eq_true q366) | (go_at_call 23; (with_reducible refine (cippuskit_SameCopies.calls k1 _ _ t358 _ _ (rd_L8 ls x11_1) true _ ?side1 ?side2 ?side3 ?side4 A9.out).mono ?_); (case side1 => repeat (first | exact (Kd.R_reads' HO360.out).2.2 | (with_reducible refine Kd.C_alloc ?_ _) | (with_reducible refine Kd.C_drewN ?_ _) | (with_reducible refine Kd.C_drew ?_))); (case side2 => exact (Kd.R_reads' HO360.out).2.1); (case side3 => repeat (first | exact (Kd.C_below HR366_0.out HB.out) | (with_reducible refine Kd.C_alloc ?_ _) | (with_reducible refine Kd.C_drewN ?_ _) | (with_reducible refine Kd.C_drew ?_))); (case side4 => exact HC366_0.out); rintro e w' ⟨rfl, ⟨nd, rfl⟩⟩))
                          go_roundg k1
                          case measure => have := HK1.out; omega
                          case rel => exact ⟨(wrap64 (x11_1 + 1)), (by first | rfl | (simp; done) | (simp [*]; done)), H', ⟨by have := HK1.out; omega⟩, ⟨by repeat (first | (with_reducible first | exact HB.out | apply below_alloc | apply pw_below_drewN | apply below_drew1) | exact HB.out)⟩⟩
                        · replace c10 := Bool.eq_false_iff.mpr c10
                          subst c10
                          have H1 : (some false) = some true := by rw [if_neg (show ¬ (false = true) by decide)] at H; exact H
                          clear H
                          have H := H1
                          clear H1
                          exact absurd (Option.some.inj H) (by decide)
                      · rw [if_neg c8] at H
                        have c8b0 : (t362 == t365) = false := beq_eq_false_iff_ne.mpr c8
                        have c8b1 : (t362 != t365) = true := bne_iff_ne.mpr c8
                        exact absurd (Option.some.inj H) (by decide)
                    · rw [if_neg c7] at H
                      have c7b0 : (t361 == t364) = false := beq_eq_false_iff_ne.mpr c7
                      have c7b1 : (t361 != t364) = true := bne_iff_ne.mpr c7
                      exact absurd (Option.some.inj H) (by decide)
                  · rw [if_neg c3] at H
                    exact absurd H (by simp)
                · rw [if_neg c2] at H
                  have c2b0 : decide (x11_1 < (ls.length : Int)) = false := decide_eq_false c2
                  clear c2
                  clear H
                  go_wp2
                  go_meet
                  case rel => exact ⟨below_step HBw.out (by repeat (first | (with_reducible first | exact HB.out | apply below_alloc | apply pw_below_drewN | apply below_drew1) | exact HB.out))⟩
          case rest =>
            have HB := hcut
            clear hcut
            go_wp2_with (first | ((with_reducible refine gate_callee (f := 17) rfl ?_); refine goesL_ (some 80) rfl rfl Try.func17 (by kernel_rfl) rfl #[] rfl (by (try simp only [List.map_toArray, List.map_cons, List.map_nil]); first | done | rfl) ?_; (with_reducible refine (cippuslaw07_found.calls kj7  t387 _ A37.out).mono ?_); rintro e w39 ⟨rfl, hb⟩; refine ⟨_, rfl, ?_⟩; have n0_ := Aside0.mk (below_step (by repeat (first | (with_reducible first | exact HB.out | apply below_alloc | apply pw_below_drewN | apply below_drew1) | exact HB.out)) hb); clear HB; have HB := n0_; clear n0_ hb))
            go_ret
            exact ⟨rfl, by repeat (first | (with_reducible first | exact HB.out | apply below_alloc | apply pw_below_drewN | apply below_drew1) | exact HB.out)⟩
  · rw [if_neg c7] at H
    exact absurd H (by simp)
end Go.Proofs.Ytegjollhajgcdaa.P
namespace Go.Proofs.Ytegjollhajgcdaa.P
open Go.RowKit Go.Deep Go.ChangeShapes Go.WideShapes Go.Proofs.YtegjollhajgcdaaW.PrintWords Go.Proofs.YtegjollhajgcdaaW.PrintLast Go.Proofs.YtegjollhajgcdaaW.PrintMore
set_option linter.unusedVariables false
set_option linter.unusedSimpArgs false
section
variable {H : Type} {enc : TypeId × Value → H} {w : World} {base : Nat} {spare : Nat → Bool} {held : Bool}
theorem cells24_ : Try.prog.cellsOf 24 = 3 := by kernel_rfl
theorem cells9_ : Try.prog.cellsOf 9 = 1 := by kernel_rfl
theorem cells3_ : Try.prog.cellsOf 3 = 1 := by kernel_rfl
theorem cells4_ : Try.prog.cellsOf 4 = 1 := by kernel_rfl
set_option maxRecDepth 100000 in
theorem open_copy {fuel : Nat} {cs : List Value} {x : DataW H × List MemPlace} (h : DataW.trod enc Try.prog w base spare held fuel 24 cs = some x) (hlen : cs.length = 3) : ∃ y : S24, cs = [.string y.f0, .int .i64 y.f1, .bool y.f2] := by
  obtain ⟨y0, y1, y2, k, hxy, _, u0, u1, u2⟩ := trod_struct3 Try.underlying24 h
  match cs, hlen with
  | [v0, v1, v2], _ =>
    simp only [cells9_, cells3_, cells4_, List.drop, List.take] at u0 u1 u2
    obtain ⟨s, e0, d0, _⟩ := DataW.trod_string Try.underlying9 u0
    obtain ⟨q, e1, d1, _⟩ := DataW.trod_int Try.underlying3 u1
    obtain ⟨b, e2, d2⟩ := DataW.trod_bool Try.underlying4 u2
    simp only [List.cons.injEq, and_true] at e0 e1 e2
    subst e0; subst e1; subst e2
    exact ⟨⟨s, q, b⟩, rfl⟩
set_option maxRecDepth 100000 in
theorem open_copies {a : Option Addr} {len cap : Nat} {d : DataW H} {ps : List MemPlace} (h : DataW.Trod enc Try.prog w base spare held 22 (.slice a len cap) d ps) : ∃ xs : List S24, xs.length = len ∧ len ≤ cap ∧ k24.C w a xs.length xs := by
  obtain ⟨fuel, hf⟩ := h
  rcases open_slice Try.underlying22 hf with ⟨hcs, _⟩ | ⟨a', l, c, m, n, D, Pl, hcs, _, hl, hm, hmm, _, hx⟩
  · simp [Value.cells] at hcs
    obtain ⟨rfl, rfl, rfl⟩ := hcs
    exact ⟨[], rfl, Nat.le_refl _, Kd.C_nil _ _⟩
  · simp [Value.cells] at hcs
    obtain ⟨rfl, rfl, rfl⟩ := hcs
    have hlm : len ≤ m := by rw [hmm]; split <;> omega
    have each : ∀ i, i < len → ∃ y : S24, ∀ j u, [Value.string y.f0, .int .i64 y.f1, .bool y.f2][j]? = some u → w.cell? (a'.add (i * 3 + j)) = some u := by
      intro i hi
      obtain ⟨cs', h1, h2⟩ := hx i (by omega)
      rw [cells24_] at h1
      obtain ⟨_, hlen, hcell⟩ := World.cells?_some h1
      obtain ⟨y, rfl⟩ := open_copy h2 hlen
      refine ⟨y, fun j u hu => ?_⟩
      have hj : j < 3 := by
        rw [List.getElem?_eq_some_iff] at hu
        exact hu.1
      have := hcell j hj
      rw [Go.Deep.add_add] at this
      rw [this]
      exact hu
    have hcap : cap ≤ 9223372036854775807 := hm
    haveI : Inhabited S24 := ⟨z24⟩
    obtain ⟨f, hf⟩ := choose_lt each
    have hxl : ((List.range len).map f).length = len := by simp
    refine ⟨(List.range len).map f, hxl, hl, rfl, by omega, fun _ => ⟨a', rfl, fun j p hp => ?_⟩⟩
    have hj : j < len := by
      rw [List.getElem?_eq_some_iff] at hp
      obtain ⟨h1, _⟩ := hp
      simpa using h1
    have e : p = f j := by
      rw [List.getElem?_map, List.getElem?_range hj] at hp
      simpa using hp.symm
    subst e
    exact ⟨_, rfl, k24_mk w (f j), fun i u hu => hf j hj i u hu⟩
set_option maxRecDepth 100000 in
theorem open_one {v : Value} {b0 : Nat} {d : DataW H} {ps : List MemPlace} (hval : Value.okWide Try.prog w .any b0 24 v) (h : DataW.Trod enc Try.prog w base spare held 24 v d ps) : ∃ s n b, v = .agg #[.string s, .int .i64 n, .bool b] := by
  obtain ⟨cs, rfl, hs⟩ := okWide_struct Try.underlying24 hval
  rw [cells24_] at hs
  obtain ⟨fuel, hf⟩ := h
  obtain ⟨y, hy⟩ := open_copy hf (by simpa [Value.cells] using hs)
  simp only [Value.cells] at hy
  refine ⟨y.f0, y.f1, y.f2, ?_⟩
  first | (rw [hy]; done) | (congr 1; first | exact hy | (apply Array.ext'; rw [hy]))
end
end Go.Proofs.Ytegjollhajgcdaa.P
namespace Go.Proofs.YtegjollhajgcdaaW.PrintWords
open Go.ChangeShapes Go.WideShapes
theorem sized_ints {H : Type} {enc : TypeId × Value → H} {P : Program} {W : World} {base : Nat} {spare : Nat → Bool} {held : Bool} {t e : TypeId} {k : IntKind} {a : Option Addr} {len cap : Nat} {d : DataW H} {ps : List MemPlace} {ts : List TypeId} {ds : List (DataW H)} {j : Nat}
    (hsz : (DataW.weightsEach P ts ds).all (· ≤ reachBytes) = true) (ht : ts[j]? = some t) (hd : ds[j]? = some d) (hu : P.underlying t = some (.slice e)) (he : P.underlying e = some (.int k)) (hc : P.cellsOf e = 1) {B : Nat} (hB : P.bytesOf e = B)
    (h : DataW.Trod enc P W base spare held t (.slice a len cap) d ps) : len * B ≤ 140737488351232 := by
  obtain ⟨fuel, hf⟩ := h
  rcases open_ints hu he hc hf with ⟨hcs, _⟩ | ⟨x, l, c, zs, hcs, _, hl, _, hz, hx, _, _⟩
  · simp [Value.cells] at hcs
    obtain ⟨rfl, rfl, rfl⟩ := hcs
    simp
  · simp [Value.cells] at hcs
    obtain ⟨rfl, rfl, rfl⟩ := hcs
    obtain ⟨hx, _⟩ := Prod.mk.inj hx
    subst hx
    have z := sized_slice hsz ht hd hu
    rw [hB] at z
    have hl2 : len ≤ zs.length := by
      rw [hz]
      split
      · exact hl
      · exact Nat.le_refl _
    have h1 : (lits (H := H) k (zs.take len)).length + (lits (H := H) k (zs.drop len)).length = zs.length := by
      simp [lits]
      omega
    rw [h1] at z
    exact Nat.le_trans (Nat.mul_le_mul_right _ hl2) z
end Go.Proofs.YtegjollhajgcdaaW.PrintWords
