/- Lemmas for the statement StemmaSources of the given program, for every input that its row lets in. Conditions: none beyond those that each lemma tells. -/
import Derived.BigQuiet
import Derived.Deep.CutBlock
import Derived.Deep.Slices
import Derived.Deep.Strs
import Derived.ChangeArms
import Derived.WideShapes
import Derived.SizedLaws
import Derived.ChangeSlices
import Derived.Test.YtegjollhajgcdaaMStemmaSources6
set_option linter.unusedVariables false
set_option linter.unusedSimpArgs false
namespace Go.Proofs.Ytegjollhajgcdaa.P.OwnSt
open Go.RowKit Go.Proofs.YtegjollhajgcdaaW.PrintWords Go.Proofs.YtegjollhajgcdaaW.PrintLast Go.Proofs.YtegjollhajgcdaaW.PrintMore
set_option linter.unusedVariables false
set_option linter.unusedSimpArgs false
def okOne (l : List S24) (fs : Nat → Int) (b : ByteArray) (i : Nat) : Bool := fs i != -1 || decide (apN b (rd_T24 l (i : Int)).f0 b.size ≤ (rd_T24 l (i : Int)).f1)
def okB (l : List S24) (fs : Nat → Int) (b : ByteArray) : Bool := (List.range l.length).all (okOne l fs b)
theorem okB_iff {l : List S24} {fs : Nat → Int} {b : ByteArray} : okB l fs b = true ↔ ∀ i, i < l.length → fs i = -1 → apN b (rd_T24 l (i : Int)).f0 b.size ≤ (rd_T24 l (i : Int)).f1 := by
  unfold okB
  rw [List.all_eq_true]
  constructor
  · intro h i hi e
    have := h i (List.mem_range.2 hi)
    unfold okOne at this
    rw [e] at this
    simpa using this
  · intro h i hi
    unfold okOne
    by_cases e : fs i = -1
    · rw [decide_eq_true (h i (List.mem_range.1 hi) e)]; simp
    · simp [e]
def mayS (l : List S24) (p : Nat) : Nat → ByteArray
  | 0 => strOfNums [42]
  | i + 1 => if hasB (mayS l p i) (bt (rd_T24 l (i : Int)).f0 (p : Int)) = true then mayS l p i else mayS l p i ++ (rd_T24 l (i : Int)).f0.extract p (p + 1)
def stonesV (l : List S24) (fs : Nat → Int) : Nat → ByteArray → List ByteArray
  | 0, b => if okB l fs b = true then [b] else []
  | rem + 1, b => if okB l fs b = true then (List.range (mayS l b.size l.length).size).flatMap fun j => stonesV l fs rem (b ++ (mayS l b.size l.length).extract j (j + 1)) else []
section
variable {l : List S24}
theorem mayS_size (hv : Valid l) (p : Nat) (hp : p < (rd_T24 l 0).f0.size) : ∀ i, i ≤ l.length → 1 ≤ (mayS l p i).size ∧ (mayS l p i).size ≤ i + 1 := by
  intro i
  induction i with
  | zero => intro _; exact ⟨Nat.le_refl _, Nat.le_refl _⟩
  | succ i ih =>
    intro hi
    have h1 := ih (by omega)
    unfold mayS
    split
    · omega
    · rw [ByteArray.size_append, cut_size _ _ (by rw [hv.size i (by omega)]; exact hp)]
      omega
theorem mayS_has (hv : Valid l) (p : Nat) (hp : p < (rd_T24 l 0).f0.size) (c : Int) : ∀ i, i ≤ l.length → (hasB (mayS l p i) c = true ↔ c = 42 ∨ ∃ k, k < i ∧ bt (rd_T24 l (k : Int)).f0 (p : Int) = c) := by
  intro i
  induction i with
  | zero =>
    intro _
    rw [hasB_iff]
    constructor
    · rintro ⟨q, hq, h⟩
      have hq : q < 1 := hq
      rw [show q = 0 by omega] at h
      exact .inl h.symm
    · rintro (h | ⟨k, hk, _⟩)
      · exact ⟨0, Nat.zero_lt_one, h.symm⟩
      · omega
  | succ i ih =>
    intro hi
    have h1 := ih (by omega)
    unfold mayS
    by_cases e : hasB (mayS l p i) (bt (rd_T24 l (i : Int)).f0 (p : Int)) = true
    · rw [if_pos e, h1]
      constructor
      · rintro (h | ⟨k, hk, h⟩)
        · exact .inl h
        · exact .inr ⟨k, by omega, h⟩
      · rintro (h | ⟨k, hk, h⟩)
        · exact .inl h
        · by_cases ek : k = i
          · subst ek
            rw [h] at e
            exact h1.1 e
          · exact .inr ⟨k, by omega, h⟩
    · rw [if_neg e]
      have hsz := cut_size (rd_T24 l (i : Int)).f0 p (by rw [hv.size i (by omega)]; exact hp)
      have hcut : bt ((rd_T24 l (i : Int)).f0.extract p (p + 1)) ((0 : Nat) : Int) = bt (rd_T24 l (i : Int)).f0 (p : Int) := by
        rw [btR_cut _ p (p + 1) 0 (by omega) (by rw [hv.size i (by omega)]; omega)]; rfl
      rw [hasB_iff]
      constructor
      · rintro ⟨q, hq, h⟩
        rw [ByteArray.size_append, hsz] at hq
        by_cases eq : q < (mayS l p i).size
        · rw [btR_left _ _ q eq] at h
          rcases h1.1 ((hasB_iff _ _).2 ⟨q, eq, h⟩) with h | ⟨k, hk, h⟩
          · exact .inl h
          · exact .inr ⟨k, by omega, h⟩
        · have h2 := btR_right (mayS l p i) ((rd_T24 l (i : Int)).f0.extract p (p + 1)) 0 (by omega)
          rw [show q = (mayS l p i).size + 0 by omega, h2, hcut] at h
          exact .inr ⟨i, by omega, h⟩
      · rintro h
        have h3 : (c = 42 ∨ ∃ k, k < i ∧ bt (rd_T24 l (k : Int)).f0 (p : Int) = c) ∨ bt (rd_T24 l (i : Int)).f0 (p : Int) = c := by
          rcases h with h | ⟨k, hk, h⟩
          · exact .inl (.inl h)
          · by_cases ek : k = i
            · subst ek; exact .inr h
            · exact .inl (.inr ⟨k, by omega, h⟩)
        rcases h3 with h | h
        · obtain ⟨q, hq, h⟩ := (hasB_iff _ _).1 (h1.2 h)
          exact ⟨q, by rw [ByteArray.size_append]; omega, by rw [btR_left _ _ q hq]; exact h⟩
        · refine ⟨(mayS l p i).size + 0, by rw [ByteArray.size_append]; omega, ?_⟩
          rw [btR_right _ _ 0 (by omega), hcut]
          exact h
theorem stonesV_len (hv : Valid l) (fs : Nat → Int) : ∀ rem b, b.size + rem = (rd_T24 l 0).f0.size → (stonesV l fs rem b).length ≤ 6 ^ rem := by
  have h5 := hv.five
  have key : ∀ rem b, (stonesV l fs rem b).length ≤ 6 ^ rem ∨ ¬ b.size + rem = (rd_T24 l 0).f0.size := by
    intro rem
    induction rem with
    | zero =>
      intro b
      left
      unfold stonesV
      split <;> simp
    | succ rem ih =>
      intro b
      by_cases hb : b.size + (rem + 1) = (rd_T24 l 0).f0.size
      · left
        unfold stonesV
        split
        · have hs := mayS_size hv b.size (by omega) l.length (Nat.le_refl _)
          have h1 : ∀ n, n ≤ (mayS l b.size l.length).size → ((List.range n).flatMap fun j => stonesV l fs rem (b ++ (mayS l b.size l.length).extract j (j + 1))).length ≤ n * 6 ^ rem := by
            intro n
            induction n with
            | zero => intro _; simp
            | succ n ihn =>
              intro hn
              rw [List.range_succ, List.flatMap_append, List.length_append, Nat.succ_mul]
              have h2 := ihn (by omega)
              have h3 : (stonesV l fs rem (b ++ (mayS l b.size l.length).extract n (n + 1))).length ≤ 6 ^ rem := by
                rcases ih (b ++ (mayS l b.size l.length).extract n (n + 1)) with h | h
                · exact h
                · exact absurd (by rw [ByteArray.size_append, cut_size _ _ (by omega)]; omega) h
              simp only [List.flatMap_cons, List.flatMap_nil, List.append_nil]
              exact Nat.add_le_add h2 h3
          have h2 := h1 _ (Nat.le_refl _)
          have h3 : (mayS l b.size l.length).size * 6 ^ rem ≤ 6 * 6 ^ rem := Nat.mul_le_mul_right _ (by omega)
          rw [Nat.pow_succ, Nat.mul_comm (6 ^ rem) 6]
          exact Nat.le_trans h2 h3
        · simp
      · exact .inr hb
  intro rem b hb
  rcases key rem b with h | h
  · exact h
  · exact absurd hb h
theorem okB_of {fs : Nat → Int} {b x : ByteArray} (hb : b.size ≤ x.size) (hp : ∀ p : Nat, p < b.size → bt x (p : Int) = bt b (p : Int)) (h : okB l fs x = true) : okB l fs b = true := by
  rw [okB_iff] at h ⊢
  intro i hi e
  have h1 := h i hi e
  have h2 := apN_mono x (rd_T24 l (i : Int)).f0 b.size x.size hb
  rw [apN_congr (a := b) (a' := x) (b' := (rd_T24 l (i : Int)).f0) (fun p hp2 => (hp p hp2).symm) (fun _ _ => rfl)]
  omega
theorem mem_stones (hv : Valid l) (fs : Nat → Int) : ∀ rem b x, b.size + rem = (rd_T24 l 0).f0.size → (x ∈ stonesV l fs rem b ↔ x.size = (rd_T24 l 0).f0.size ∧ (∀ p : Nat, p < b.size → bt x (p : Int) = bt b (p : Int)) ∧ (∀ p : Nat, b.size ≤ p → p < (rd_T24 l 0).f0.size → hasB (mayS l p l.length) (bt x (p : Int)) = true) ∧ okB l fs x = true) := by
  intro rem
  induction rem with
  | zero =>
    intro b x hb
    unfold stonesV
    constructor
    · intro h
      by_cases e : okB l fs b = true
      · rw [if_pos e, List.mem_singleton] at h
        subst h
        exact ⟨by omega, fun _ _ => rfl, fun p h1 h2 => by omega, e⟩
      · rw [if_neg e] at h
        simp at h
    · rintro ⟨h1, h2, _, h4⟩
      have : x = b := btR_ext _ _ (by omega) (fun p hp => h2 p (by omega))
      subst this
      rw [if_pos h4]
      simp
  | succ rem ih =>
    intro b x hb
    have hs := mayS_size hv b.size (by omega) l.length (Nat.le_refl _)
    have hsz : ∀ j, j < (mayS l b.size l.length).size → (b ++ (mayS l b.size l.length).extract j (j + 1)).size = b.size + 1 := fun j hj => by rw [ByteArray.size_append, cut_size _ _ hj]
    have hlast : ∀ j, j < (mayS l b.size l.length).size → bt (b ++ (mayS l b.size l.length).extract j (j + 1)) (b.size : Int) = bt (mayS l b.size l.length) (j : Int) := fun j hj => by
      have h1 := btR_right b ((mayS l b.size l.length).extract j (j + 1)) 0 (by rw [cut_size _ _ hj]; omega)
      rw [btR_cut _ j (j + 1) 0 (by omega) (by omega)] at h1
      exact h1
    unfold stonesV
    constructor
    · intro h
      by_cases e : okB l fs b = true
      · rw [if_pos e, List.mem_flatMap] at h
        obtain ⟨j, hj, h⟩ := h
        have hj := List.mem_range.1 hj
        obtain ⟨h1, h2, h3, h4⟩ := (ih _ x (by rw [hsz j hj]; omega)).1 h
        rw [hsz j hj] at h2 h3
        refine ⟨h1, fun p hp => ?_, fun p hp1 hp2 => ?_, h4⟩
        · rw [h2 p (by omega), btR_left _ _ p hp]
        · by_cases ep : p = b.size
          · subst ep
            rw [h2 _ (by omega), hlast j hj, hasB_iff]
            exact ⟨j, hj, rfl⟩
          · exact h3 p (by omega) hp2
      · rw [if_neg e] at h
        simp at h
    · rintro ⟨h1, h2, h3, h4⟩
      rw [if_pos (okB_of (by omega) h2 h4), List.mem_flatMap]
      obtain ⟨j, hj, e⟩ := (hasB_iff _ _).1 (h3 b.size (Nat.le_refl _) (by omega))
      refine ⟨j, List.mem_range.2 hj, (ih _ x (by rw [hsz j hj]; omega)).2 ⟨h1, fun p hp => ?_, fun p hp1 hp2 => h3 p (by rw [hsz j hj] at hp1; omega) hp2, h4⟩⟩
      rw [hsz j hj] at hp
      by_cases ep : p = b.size
      · subst ep
        rw [hlast j hj, e]
      · rw [btR_left _ _ p (by omega)]
        exact h2 p (by omega)
theorem stones_l1 (hv : Valid l) (fs : Nat → Int) (b : ByteArray) (hb : b.size < (rd_T24 l 0).f0.size) (R : List ByteArray) (hR : Ev (fun k => cippusref07_stones.l2 k l (srcL l.length fs) b (mayS l b.size l.length) [] 0) R) : ∀ rem i, i + rem = l.length →
    Ev (fun k => cippusref07_stones.l1 k l (srcL l.length fs) b (b.size : Int) (mayS l b.size i) (i : Int)) R := by
  intro rem
  have h5 := hv.five
  have h8 := hv.high
  induction rem with
  | zero =>
    intro i hi
    refine Ev.step (fun k => by rw [cippusref07_stones.l1]) ?_
    rw [show i = l.length by omega]
    exact Ev.if_neg' (by omega) hR
  | succ rem ih =>
    intro i hi
    have h1 := ih (i + 1) (by omega)
    have hs := hv.size i (by omega)
    have hm := mayS_size hv b.size hb i (by omega)
    have hc := cut_size (rd_T24 l (i : Int)).f0 b.size (by omega)
    refine Ev.step (fun k => by rw [cippusref07_stones.l1]) ?_
    rw [next64 i (by omega), next64 b.size (by omega)]
    refine Ev.if_pos' (by omega) (Ev.if_pos' (by omega) (Ev.if_pos' (by omega) (Ev.if_pos' (by omega) (Ev.bind (rhas_ev _ _ (by omega)) ?_))))
    simp only [Int.toNat_natCast]
    unfold mayS at h1
    by_cases e : hasB (mayS l b.size i) (bt (rd_T24 l (i : Int)).f0 (b.size : Int)) = true
    · rw [if_pos e] at h1
      exact Ev.if_pos' e h1
    · rw [if_neg e] at h1
      exact Ev.if_neg' e (Ev.if_pos' (by omega) (Ev.if_pos' (by omega) (Ev.if_pos' (by omega) h1)))
theorem stones_l0 (hv : Valid l) (fs : Nat → Int) (b : ByteArray) (hb : b.size ≤ (rd_T24 l 0).f0.size) (R : List ByteArray) (hR : okB l fs b = true → Ev (fun k => if 0 < (l.length : Int) then (if (b.size : Int) = ((rd_T24 l 0).f0.size : Int) then some [b] else cippusref07_stones.l1 k l (srcL l.length fs) b (b.size : Int) (strOfNums [42]) 0) else none) R) (hN : okB l fs b = false → R = []) : ∀ rem i, i + rem = l.length → (∀ j, j < i → okOne l fs b j = true) →
    Ev (fun k => cippusref07_stones.l0 k l (srcL l.length fs) b (b.size : Int) (i : Int)) R := by
  intro rem
  have h5 := hv.five
  have h8 := hv.high
  induction rem with
  | zero =>
    intro i hi hok
    refine Ev.step (fun k => by rw [cippusref07_stones.l0]) ?_
    refine Ev.if_neg' (by omega) (hR ?_)
    unfold okB
    rw [List.all_eq_true]
    exact fun j hj => hok j (by have := List.mem_range.1 hj; omega)
  | succ rem ih =>
    intro i hi hok
    have hs := hv.size i (by omega)
    refine Ev.step (fun k => by rw [cippusref07_stones.l0]) ?_
    rw [srcL_len, srcL_rd _ _ i (by omega), next64 i (by omega)]
    refine Ev.if_pos' (by omega) (Ev.if_pos' (by omega) (Ev.if_pos' (by omega) ?_))
    have hnext : okOne l fs b i = true → Ev (fun k => cippusref07_stones.l0 k l (srcL l.length fs) b (b.size : Int) ((i + 1 : Nat) : Int)) R := fun h1 => ih (i + 1) (by omega) (fun j hj => by
      by_cases ej : j = i
      · subst ej; exact h1
      · exact hok j (by omega))
    by_cases e : fs i = -1
    · refine Ev.if_pos' e (Ev.if_pos' (by omega) (Ev.if_pos' (by omega) ?_))
      simp only [Int.toNat_natCast]
      have hx : ((rd_T24 l (i : Int)).f0.extract 0 b.size).size = b.size := by rw [ByteArray.size_extract]; omega
      refine Ev.bind (apart_ev _ _ (by omega) (by omega)) ?_
      rw [apN_congr (a' := b) (b' := (rd_T24 l (i : Int)).f0) (fun _ _ => rfl) (fun p hp => by rw [btR_cut _ 0 b.size p (by omega) (by omega), Nat.zero_add])]
      by_cases e2 : apN b (rd_T24 l (i : Int)).f0 b.size > (rd_T24 l (i : Int)).f1
      · refine Ev.if_pos' e2 ?_
        rw [hN (by
          rw [← Bool.not_eq_true, okB_iff]
          intro h
          have := h i (by omega) e
          omega)]
        exact Ev.now _
      · refine Ev.if_neg' e2 (hnext ?_)
        unfold okOne
        rw [decide_eq_true (by omega)]
        simp
    · refine Ev.if_neg' e (hnext ?_)
      unfold okOne
      simp [e]
theorem stones_ev (hv : Valid l) (fs : Nat → Int) : ∀ rem b, b.size + rem = (rd_T24 l 0).f0.size → Ev (fun k => cippusref07_stones.f k l (srcL l.length fs) b) (stonesV l fs rem b) := by
  intro rem
  have h1 := hv.one
  have h5 := hv.five
  have h8 := hv.high
  induction rem with
  | zero =>
    intro b hb
    refine Ev.step (fun k => by rw [cippusref07_stones.f]) ?_
    refine stones_l0 hv fs b (by omega) _ (fun hok => ?_) (fun hno => ?_) l.length 0 (by omega) (fun j hj => by omega)
    · refine Ev.if_pos' (by omega) (Ev.if_pos' (by omega) ?_)
      unfold stonesV
      rw [if_pos hok]
      exact Ev.now _
    · unfold stonesV
      rw [hno]
      rfl
  | succ rem ih =>
    intro b hb
    refine Ev.step (fun k => by rw [cippusref07_stones.f]) ?_
    refine stones_l0 hv fs b (by omega) _ (fun hok => ?_) (fun hno => ?_) l.length 0 (by omega) (fun j hj => by omega)
    · refine Ev.if_pos' (by omega) (Ev.if_neg' (by omega) ?_)
      refine stones_l1 hv fs b (by omega) _ ?_ l.length 0 (by omega)
      unfold stonesV
      rw [if_pos hok]
      have hs := mayS_size hv b.size (by omega) l.length (Nat.le_refl _)
      have h6 : 6 ^ rem ≤ 6 ^ 8 := Nat.pow_le_pow_right (by decide) (by omega)
      have h7 : (6 : Nat) ^ 8 = 1679616 := by decide
      rw [h7] at h6
      have hlen : ∀ j, j < (mayS l b.size l.length).size → (stonesV l fs rem (b ++ (mayS l b.size l.length).extract j (j + 1))).length ≤ 1679616 := fun j hj =>
        Nat.le_trans (stonesV_len hv fs rem _ (by rw [ByteArray.size_append, cut_size _ _ hj]; omega)) h6
      clear h6 h7
      have : ∀ r j, j + r = (mayS l b.size l.length).size → ((List.range j).flatMap fun j => stonesV l fs rem (b ++ (mayS l b.size l.length).extract j (j + 1))).length ≤ j * 1679616 → Ev (fun k => cippusref07_stones.l2 k l (srcL l.length fs) b (mayS l b.size l.length) ((List.range j).flatMap fun j => stonesV l fs rem (b ++ (mayS l b.size l.length).extract j (j + 1))) (j : Int)) ((List.range (mayS l b.size l.length).size).flatMap fun j => stonesV l fs rem (b ++ (mayS l b.size l.length).extract j (j + 1))) := by
        intro r
        induction r with
        | zero =>
          intro j hj _
          refine Ev.step (fun k => by rw [cippusref07_stones.l2]) ?_
          rw [show j = (mayS l b.size l.length).size by omega]
          exact Ev.if_neg' (by omega) (Ev.now _)
        | succ r ihr =>
          intro j hj hl
          have hj2 : j < (mayS l b.size l.length).size := by omega
          have hc := cut_size (mayS l b.size l.length) j hj2
          have hln := hlen j hj2
          refine Ev.step (fun k => by rw [cippusref07_stones.l2]) ?_
          rw [next64 j (by omega)]
          simp only [Int.toNat_natCast]
          refine Ev.if_pos' (by omega) (Ev.if_pos' (by omega) (Ev.if_pos' (by omega) (Ev.if_pos' (by omega) (Ev.if_pos' (by omega) ?_))))
          refine Ev.bind (ih _ (by rw [ByteArray.size_append, hc]; omega)) (Ev.if_pos' (by omega) ?_)
          have h3 := ihr (j + 1) (by omega)
          rw [List.range_succ, List.flatMap_append, List.length_append, Nat.succ_mul] at h3
          simp only [List.flatMap_cons, List.flatMap_nil, List.append_nil] at h3
          exact h3 (Nat.add_le_add hl hln)
      simpa using this (mayS l b.size l.length).size 0 (by omega) (by simp)
    · unfold stonesV
      rw [hno]
      rfl
end
end Go.Proofs.Ytegjollhajgcdaa.P.OwnSt
namespace Go.Proofs.Ytegjollhajgcdaa.P.OwnSt
open Go.RowKit Go.Proofs.YtegjollhajgcdaaW.PrintWords Go.Proofs.YtegjollhajgcdaaW.PrintLast Go.Proofs.YtegjollhajgcdaaW.PrintMore
set_option linter.unusedVariables false
set_option linter.unusedSimpArgs false
theorem rcheck_l1 (l : List S24) (i : Nat) (hi : i < l.length) (hl : l.length ≤ 5) (x : S24) (hx : x = rd_T24 l (i : Int)) (h8 : x.f0.size ≤ 8) (R : Int)
    (hR : Ev (fun k => cippusref07_Check.l0 k l ((i + 1 : Nat) : Int)) R) : ∀ (rem p : Nat), p + rem = x.f0.size → (∀ j, j < p → goodAt x.f0 j = true) →
    Ev (fun k => cippusref07_Check.l1 k l (i : Int) x.f0 (p : Int)) (if goodText x.f0 = false then 2 else if x.f1 < 0 then 1 else if 3 < x.f1 then 1 else R) := by
  intro rem
  induction rem with
  | zero =>
    intro p hp hg
    have hgt : goodText x.f0 = true := goodText_from p hg (by omega)
    refine Ev.step (fun k => by rw [cippusref07_Check.l1]) ?_
    refine Ev.if_neg' (by omega) (Ev.if_pos' (by omega) (Ev.if_pos' (by omega) ?_))
    rw [if_neg (by rw [hgt]; simp), ← hx]
    by_cases h0 : x.f1 < 0
    · rw [if_pos h0]
      exact Ev.if_pos' h0 (Ev.now _)
    · rw [if_neg h0]
      refine Ev.if_neg' h0 ?_
      by_cases h3 : 3 < x.f1
      · rw [if_pos h3]
        exact Ev.if_pos' h3 (Ev.now _)
      · rw [if_neg h3]
        refine Ev.if_neg' h3 ?_
        rw [wrap64_small (by omega) (by omega)]
        exact hR
  | succ rem ih =>
    intro p hp hg
    refine Ev.step (fun k => by rw [cippusref07_Check.l1]) ?_
    refine Ev.if_pos' (by omega) (Ev.if_pos' (by omega) ?_)
    by_cases h1 : bt x.f0 p < 65
    · rw [if_pos (goodText_bad p (by omega) (by simp [goodAt]; omega))]
      exact Ev.if_pos' h1 (Ev.now _)
    · refine Ev.if_neg' h1 ?_
      by_cases h2 : bt x.f0 p > 90
      · rw [if_pos (goodText_bad p (by omega) (by simp [goodAt]; omega))]
        exact Ev.if_pos' h2 (Ev.now _)
      · refine Ev.if_neg' h2 ?_
        rw [wrap64_small (by omega) (by omega)]
        have := ih (p + 1) (by omega) (fun j hj => by
          by_cases e : j = p
          · subst e
            simp [goodAt]
            omega
          · exact hg j (by omega))
        simpa using this
theorem rcheck_l0 (l : List S24) (hl : l.length ≤ 5) : ∀ (rem i : Nat), i + rem = l.length → Ev (fun k => cippusref07_Check.l0 k l (i : Int)) (checkF l rem i) := by
  intro rem
  induction rem with
  | zero =>
    intro i hi
    refine Ev.step (fun k => by rw [cippusref07_Check.l0]) ?_
    exact Ev.if_neg' (by omega) (Ev.now _)
  | succ rem ih =>
    intro i hi
    have hR := ih (i + 1) (by omega)
    refine Ev.step (fun k => by rw [cippusref07_Check.l0]) ?_
    refine Ev.if_pos' (by omega) (Ev.if_pos' (by omega) ?_)
    obtain ⟨x, hx⟩ : ∃ x, x = rd_T24 l (i : Int) := ⟨_, rfl⟩
    rw [← hx]
    unfold checkF
    rw [← hx]
    by_cases h1 : (x.f0.size : Int) < 1
    · refine Ev.if_pos' h1 ?_
      have : oneV l x = 2 := by unfold oneV; rw [if_pos (.inl (by omega))]
      rw [this, if_neg (by decide)]
      exact Ev.step (fun k => by rw [cippusref07_Check.j1]) (Ev.if_pos' rfl (Ev.now _))
    · refine Ev.if_neg' h1 ?_
      by_cases h8 : (x.f0.size : Int) > 8
      · refine Ev.if_pos' h8 ?_
        have : oneV l x = 2 := by unfold oneV; rw [if_pos (.inr (by omega))]
        rw [this, if_neg (by decide)]
        exact Ev.step (fun k => by rw [cippusref07_Check.j1]) (Ev.if_pos' rfl (Ev.now _))
      · refine Ev.if_neg' h8 (Ev.if_pos' (by omega) ?_)
        by_cases hs : x.f0.size = (rd_T24 l 0).f0.size
        · rw [show ((x.f0.size : Int) != ((rd_T24 l 0).f0.size : Int)) = false from by rw [hs]; simp]
          refine Ev.step (fun k => by rw [cippusref07_Check.j1]) (Ev.if_neg' (by decide) ?_)
          have h := rcheck_l1 l i (by omega) hl x hx (by omega) _ hR x.f0.size 0 (by omega) (fun j hj => by omega)
          have e : (if oneV l x = 0 then checkF l rem (i + 1) else oneV l x) = (if goodText x.f0 = false then 2 else if x.f1 < 0 then 1 else if 3 < x.f1 then 1 else checkF l rem (i + 1)) := by
            unfold oneV
            rw [if_neg (show ¬ (x.f0.size < 1 ∨ 8 < x.f0.size) by omega)]
            split
            · simp
            · rw [if_neg (show ¬ (x.f0.size ≠ (rd_T24 l 0).f0.size) by simp [hs])]
              split
              · simp
              · split <;> simp
          rw [e]
          simpa using h
        · have : oneV l x = 2 := by
            unfold oneV
            rw [if_neg (show ¬ (x.f0.size < 1 ∨ 8 < x.f0.size) by omega)]
            split
            · rfl
            · first | rfl | rw [if_pos hs]
          rw [this, if_neg (by decide), show ((x.f0.size : Int) != ((rd_T24 l 0).f0.size : Int)) = true from bne_iff_ne.2 (by omega)]
          exact Ev.step (fun k => by rw [cippusref07_Check.j1]) (Ev.if_pos' rfl (Ev.now _))
theorem rcheck_ev (l : List S24) : Ev (fun k => cippusref07_Check.f k l) (checkV l) := by
  unfold cippusref07_Check.f checkV
  by_cases h0 : l.length = 0
  · rw [if_pos h0]
    exact Ev.if_pos' (by omega) (Ev.now _)
  · rw [if_neg h0]
    refine Ev.if_neg' (by omega) ?_
    by_cases h5 : 5 < l.length
    · rw [if_pos h5]
      exact Ev.if_pos' (by omega) (Ev.now _)
    · rw [if_neg h5]
      refine Ev.if_neg' (by omega) ?_
      simpa using rcheck_l0 l (by omega) l.length 0 (by omega)
end Go.Proofs.Ytegjollhajgcdaa.P.OwnSt
namespace Go.Proofs.Ytegjollhajgcdaa.P.OwnSt
open Go.RowKit Go.Proofs.YtegjollhajgcdaaW.PrintWords Go.Proofs.YtegjollhajgcdaaW.PrintLast Go.Proofs.YtegjollhajgcdaaW.PrintMore
set_option linter.unusedVariables false
set_option linter.unusedSimpArgs false
theorem sumTo_mono {f g : Nat → Int} : ∀ n, (∀ i, i < n → f i ≤ g i) → sumTo f n ≤ sumTo g n := by
  intro n
  induction n with
  | zero => intro _; exact Int.le_refl _
  | succ n ih =>
    intro h
    have h1 := ih (fun i hi => h i (by omega))
    have h2 := h n (by omega)
    show sumTo f n + f n ≤ sumTo g n + g n
    omega
theorem sumTo_const (c : Int) : ∀ n : Nat, sumTo (fun _ => c) n = n * c := by
  intro n
  induction n with
  | zero => simp [sumTo]
  | succ n ih =>
    show sumTo (fun _ => c) n + c = _
    rw [ih, Int.natCast_add, Int.add_mul]
    simp
theorem sumTo_nonneg {f : Nat → Int} (h : ∀ i, 0 ≤ f i) : ∀ n, 0 ≤ sumTo f n := by
  intro n
  induction n with
  | zero => exact Int.le_refl _
  | succ n ih => have := h n; show 0 ≤ sumTo f n + f n; omega
theorem sumTo_pos {f : Nat → Int} (h : ∀ i, 0 ≤ f i) (k : Nat) (hk : 1 ≤ f k) : ∀ n, k < n → 1 ≤ sumTo f n := by
  intro n
  induction n with
  | zero => intro h; omega
  | succ n ih =>
    intro hn
    show 1 ≤ sumTo f n + f n
    by_cases e : k = n
    · subst e
      have := sumTo_nonneg h k
      omega
    · have := ih (by omega)
      have := h n
      omega
theorem free_letter (f : Nat → Int) (n : Nat) (hn : n ≤ 5) : ∃ c : Int, (65 ≤ c ∧ c ≤ 90) ∧ ∀ i, i < n → f i ≠ c := by
  refine Classical.byContradiction fun hno => ?_
  have h1 : ∀ c : Nat, c < 6 → 1 ≤ sumTo (fun i => if f i = 65 + (c : Int) then 1 else 0) n := by
    intro c hc
    refine Classical.byContradiction fun h2 => hno ⟨65 + (c : Int), by omega, fun i hi e => h2 ?_⟩
    exact sumTo_pos (fun i => by split <;> omega) i (by rw [if_pos e]; exact Int.le_refl _) n hi
  have h2 : ∀ i, i < n → sumTo (fun c => if f i = 65 + (c : Int) then 1 else 0) 6 ≤ 1 := by
    intro i _
    have h3 := sumTo_one (f i - 65).toNat 1 6
    have h4 := sumTo_mono (f := fun c : Nat => if f i = 65 + (c : Int) then 1 else 0) (g := fun q => if q = (f i - 65).toNat then 1 else 0) 6 (fun c hc => by
      show (if f i = 65 + (c : Int) then (1 : Int) else 0) ≤ (if c = (f i - 65).toNat then 1 else 0)
      by_cases e : f i = 65 + (c : Int)
      · rw [if_pos e, if_pos (by omega)]
        exact Int.le_refl _
      · rw [if_neg e]
        split <;> omega)
    rw [h3] at h4
    have h5 : (if (f i - 65).toNat < 6 then (1 : Int) else 0) ≤ 1 := by split <;> omega
    omega
  have h3 := sumTo_swap (fun (c : Nat) (i : Nat) => if f i = 65 + (c : Int) then (1 : Int) else 0) n 6
  have h4 := sumTo_mono (f := fun _ => 1) (g := fun (c : Nat) => sumTo (fun i => if f i = 65 + (c : Int) then (1 : Int) else 0) n) 6 h1
  have h5 := sumTo_mono (f := fun (i : Nat) => sumTo (fun (c : Nat) => if f i = 65 + (c : Int) then (1 : Int) else 0) 6) (g := fun _ => 1) n h2
  rw [sumTo_const] at h4 h5
  omega
def stT (L : Nat) (fr : Nat → Int) (x : ByteArray) (p : Nat) : Int := if p < L then (if bt x (p : Int) = 42 then fr p else bt x (p : Int)) else 65
def stX (l : List S24) (t : Nat → Int) : ByteArray := strOfNums ((List.range (rd_T24 l 0).f0.size).map fun (p : Nat) => if hasB (mayS l p l.length) (t p) = true then t p else 42)
def FreeF (l : List S24) (fr : Nat → Int) : Prop := ∀ p : Nat, (65 ≤ fr p ∧ fr p ≤ 90) ∧ ∀ i : Nat, i < l.length → bt (rd_T24 l (i : Int)).f0 (p : Int) ≠ fr p
section
variable {l : List S24}
theorem free_ex (hv : Valid l) : ∃ fr, FreeF l fr := by
  have h : ∀ p : Nat, ∃ c : Int, (65 ≤ c ∧ c ≤ 90) ∧ ∀ i : Nat, i < l.length → bt (rd_T24 l (i : Int)).f0 (p : Int) ≠ c := fun p => free_letter (fun i => bt (rd_T24 l (i : Int)).f0 (p : Int)) l.length hv.five
  exact Classical.axiomOfChoice h
theorem stones_iff (hv : Valid l) (s : Nat → Int) (x : ByteArray) : x ∈ stonesV l s (rd_T24 l 0).f0.size ⟨#[]⟩ ↔ x.size = (rd_T24 l 0).f0.size ∧ (∀ p : Nat, p < (rd_T24 l 0).f0.size → bt x (p : Int) = 42 ∨ ∃ k, k < l.length ∧ bt (rd_T24 l (k : Int)).f0 (p : Int) = bt x (p : Int)) ∧ okB l s x = true := by
  have h0 : (⟨#[]⟩ : ByteArray).size = 0 := rfl
  rw [mem_stones hv s _ ⟨#[]⟩ x (by rw [h0]; omega), h0]
  constructor
  · rintro ⟨h1, _, h2, h3⟩
    exact ⟨h1, fun p hp => (mayS_has hv p hp _ _ (Nat.le_refl _)).1 (h2 p (by omega) hp), h3⟩
  · rintro ⟨h1, h2, h3⟩
    exact ⟨h1, fun p hp => by omega, fun p _ hp => (mayS_has hv p hp _ _ (Nat.le_refl _)).2 (h2 p hp), h3⟩
theorem hsum_ap (hv : Valid l) (s t : Nat → Int) (x : ByteArray) (i : Nat) (hs : s i = -1) (hx : ∀ p : Nat, p < (rd_T24 l 0).f0.size → (bt x (p : Int) = bt (rd_T24 l (i : Int)).f0 (p : Int) ↔ t p = bt (rd_T24 l (i : Int)).f0 (p : Int))) : hsum l s t i (rd_T24 l 0).f0.size 0 = apN x (rd_T24 l (i : Int)).f0 (rd_T24 l 0).f0.size := by
  rw [hsum_all, apN_sum]
  refine sumTo_congr _ fun p hp => ?_
  show (if hit l s (p : Int) (t p) i = true then (1 : Int) else 0) = (if bt x (p : Int) = bt (rd_T24 l (i : Int)).f0 (p : Int) then 0 else 1)
  unfold hit
  rw [hs]
  by_cases e : bt x (p : Int) = bt (rd_T24 l (i : Int)).f0 (p : Int)
  · rw [if_pos e, (hx p hp).1 e]
    simp
  · rw [if_neg e, if_pos]
    have : t p ≠ bt (rd_T24 l (i : Int)).f0 (p : Int) := fun h => e ((hx p hp).2 h)
    simp
    exact fun h => this h.symm
theorem stT_hsum (hv : Valid l) {s : Nat → Int} {x : ByteArray} {fr : Nat → Int} (hf : FreeF l fr) (i : Nat) (hi : i < l.length) (hs : s i = -1) : hsum l s (stT (rd_T24 l 0).f0.size fr x) i (rd_T24 l 0).f0.size 0 = apN x (rd_T24 l (i : Int)).f0 (rd_T24 l 0).f0.size := by
  refine hsum_ap hv s _ x i hs fun p hp => ?_
  unfold stT
  rw [if_pos hp]
  have hg := hv.good i hi p hp
  by_cases e : bt x (p : Int) = 42
  · rw [if_pos e]
    have h1 := (hf p).2 i hi
    exact ⟨fun h => by omega, fun h => absurd h.symm h1⟩
  · rw [if_neg e]
theorem fit_of_stone (hv : Valid l) {s : Nat → Int} {x : ByteArray} (hx : x ∈ stonesV l s (rd_T24 l 0).f0.size ⟨#[]⟩) {fr : Nat → Int} (hf : FreeF l fr) : FitT l s (stT (rd_T24 l 0).f0.size fr x) := by
  obtain ⟨h1, h2, h3⟩ := (stones_iff hv s x).1 hx
  refine ⟨fun p => ?_, fun i hi h => ?_⟩
  · unfold stT
    by_cases hp : p < (rd_T24 l 0).f0.size
    · rw [if_pos hp]
      by_cases e : bt x (p : Int) = 42
      · rw [if_pos e]; exact (hf p).1
      · rw [if_neg e]
        rcases h2 p hp with h | ⟨k, hk, h⟩
        · exact absurd h e
        · rw [← h]; exact hv.good k hk p hp
    · rw [if_neg hp]; omega
  · by_cases e : s i = -1
    · rw [stT_hsum hv hf i hi e]
      have := (okB_iff.1 h3) i hi e
      rw [h1] at this
      exact this
    · exact absurd (hsum_none e _ _) h
theorem stX_at (hv : Valid l) {t : Nat → Int} (ht : GoodT t) (p : Nat) (hp : p < (rd_T24 l 0).f0.size) : bt (stX l t) (p : Int) = if hasB (mayS l p l.length) (t p) = true then t p else 42 := by
  unfold stX
  rw [bt_str _ p (fun z hz => by
    rw [List.mem_map] at hz
    obtain ⟨q, _, rfl⟩ := hz
    have := ht q
    split <;> omega) (by simpa using hp)]
  simp [List.getD_eq_getElem?_getD, hp]
theorem stX_size (hv : Valid l) (t : Nat → Int) : (stX l t).size = (rd_T24 l 0).f0.size := by
  unfold stX
  rw [strOfNums_size]
  simp
theorem stX_hsum (hv : Valid l) {s t : Nat → Int} (ht : GoodT t) (i : Nat) (hi : i < l.length) (hs : s i = -1) : hsum l s t i (rd_T24 l 0).f0.size 0 = apN (stX l t) (rd_T24 l (i : Int)).f0 (rd_T24 l 0).f0.size := by
  refine hsum_ap hv s _ _ i hs fun p hp => ?_
  rw [stX_at hv ht p hp]
  have hg := hv.good i hi p hp
  have h1 := mayS_has hv p hp (t p) l.length (Nat.le_refl _)
  by_cases e : hasB (mayS l p l.length) (t p) = true
  · rw [if_pos e]
  · rw [if_neg e]
    exact ⟨fun h => by omega, fun h => absurd (h1.2 (.inr ⟨i, hi, h.symm⟩)) e⟩
theorem stone_of_fit (hv : Valid l) {s t : Nat → Int} (ht : FitT l s t) : stX l t ∈ stonesV l s (rd_T24 l 0).f0.size ⟨#[]⟩ := by
  refine (stones_iff hv s _).2 ⟨stX_size hv t, fun p hp => ?_, okB_iff.2 fun i hi e => ?_⟩
  · rw [stX_at hv ht.1 p hp]
    by_cases e : hasB (mayS l p l.length) (t p) = true
    · rw [if_pos e]
      rcases (mayS_has hv p hp (t p) l.length (Nat.le_refl _)).1 e with h | h
      · exact .inl h
      · exact .inr h
    · rw [if_neg e]; exact .inl rfl
  · rw [stX_size hv, ← stX_hsum hv ht.1 i hi e]
    have h1 := ht.2 i hi
    have h2 := hv.err i hi
    by_cases e0 : hsum l s t i (rd_T24 l 0).f0.size 0 = 0
    · omega
    · exact h1 e0
theorem stones_lies (hv : Valid l) (s : Nat → Int) : (0 < (stonesV l s (rd_T24 l 0).f0.size ⟨#[]⟩).length) ↔ liesB l s = true := by
  constructor
  · intro h
    obtain ⟨x, hx⟩ := List.exists_mem_of_length_pos h
    obtain ⟨fr, hf⟩ := free_ex hv
    exact lies_of_fit hv (fit_of_stone hv hx hf)
  · intro h
    obtain ⟨t, ht, _⟩ := fit_of_lies h
    exact List.length_pos_of_mem (stone_of_fit hv ht)
def truthsV (l : List S24) : List S95 := (knownV l).map fun s => ⟨srcL l.length s, stonesV l s (rd_T24 l 0).f0.size ⟨#[]⟩⟩
theorem rd_L4_map (n : Nat) (ts : List (Nat → Int)) (i : Nat) (s : Nat → Int) (h : ts[i]? = some s) : rd_L4 (ts.map (srcL n)) (i : Int) = srcL n s := by
  unfold rd_L4
  rw [List.getD_eq_getElem?_getD, Int.toNat_natCast, List.getElem?_map, h]
  rfl
theorem truths_ev (hv : Valid l) : Ev (fun k => cippusref07_Truths.f k l) (truthsV l) := by
  unfold cippusref07_Truths.f
  refine Ev.bind (trees_all hv) ?_
  have hlen := treesG_len l l.length 0 (fun _ => 0) (by have := hv.five; omega)
  have h6 : 6 ^ l.length ≤ 6 ^ 5 := Nat.pow_le_pow_right (by decide) hv.five
  have h7 : (6 : Nat) ^ 5 = 7776 := by decide
  rw [h7] at h6
  have hlen2 := Nat.le_trans hlen h6
  clear hlen h6 h7
  have hT : truthsV l = ((treesG l l.length 0 (fun _ => 0)).filter (liesB l)).map fun s => ⟨srcL l.length s, stonesV l s (rd_T24 l 0).f0.size ⟨#[]⟩⟩ := rfl
  rw [hT]
  generalize treesG l l.length 0 (fun _ => 0) = ts at hlen2 ⊢
  have : ∀ r j, j + r = ts.length → Ev (fun k => cippusref07_Truths.l0 k l (((ts.take j).filter (liesB l)).map fun s => ⟨srcL l.length s, stonesV l s (rd_T24 l 0).f0.size ⟨#[]⟩⟩) (ts.map (srcL l.length)) (j : Int)) ((ts.filter (liesB l)).map fun s => ⟨srcL l.length s, stonesV l s (rd_T24 l 0).f0.size ⟨#[]⟩⟩) := by
    intro r
    induction r with
    | zero =>
      intro j hj
      refine Ev.step (fun k => by rw [cippusref07_Truths.l0]) ?_
      rw [show j = ts.length by omega, List.take_length]
      exact Ev.if_neg' (by rw [List.length_map]; omega) (Ev.now _)
    | succ r ih =>
      intro j hj
      have h1 := ih (j + 1) (by omega)
      have hj2 : j < ts.length := by omega
      have hget : ts[j]? = some ts[j] := List.getElem?_eq_getElem hj2
      have htk : ts.take (j + 1) = ts.take j ++ [ts[j]] := by rw [List.take_add_one, hget]; rfl
      have hfl : ((ts.take j).filter (liesB l)).length ≤ j := Nat.le_trans (List.length_filter_le _ _) (by rw [List.length_take]; omega)
      refine Ev.step (fun k => by rw [cippusref07_Truths.l0]) ?_
      rw [rd_L4_map _ _ _ _ hget, next64 j (by omega)]
      refine Ev.if_pos' (by rw [List.length_map]; omega) (Ev.if_pos' (by omega) ?_)
      refine Ev.bind (stones_ev hv _ (rd_T24 l 0).f0.size ⟨#[]⟩ (by show 0 + _ = _; omega)) ?_
      have hs := stones_lies hv ts[j]
      rw [htk, List.filter_append, List.map_append] at h1
      by_cases e : liesB l ts[j] = true
      · have h2 := hs.2 e
        refine Ev.if_pos' (by omega) (Ev.if_pos' (by rw [List.length_map]; omega) ?_)
        rw [show [ts[j]].filter (liesB l) = [ts[j]] by simp [e]] at h1
        exact h1
      · have h2 : ¬ 0 < (stonesV l ts[j] (rd_T24 l 0).f0.size ⟨#[]⟩).length := fun h => e (hs.1 h)
        refine Ev.if_neg' (by omega) ?_
        rw [show [ts[j]].filter (liesB l) = [] by simp [e]] at h1
        simpa using h1
  simpa using this ts.length 0 (by omega)
end
theorem checkV_valid {l : List S24} (h : checkV l = 0) : Valid l := valid_of_check h
theorem rknown_ev (l : List S24) : Ev (fun k => cippusref07_known.f k l) (if knownE l = 0 then (truthsV l, 0) else ([], knownE l)) := by
  unfold cippusref07_known.f
  refine Ev.bind (rcheck_ev l) ?_
  by_cases hc : checkV l = 0
  · have hv := checkV_valid hc
    refine Ev.if_pos' hc (Ev.bind (truths_ev hv) ?_)
    by_cases hk : knownV l = []
    · have e : knownE l = 9 := by unfold knownE; rw [if_neg (by rw [hc]; decide), if_pos hk]
      rw [if_neg (show ¬ knownE l = 0 by rw [e]; decide), e]
      exact Ev.if_pos' (show ((truthsV l).length : Int) = 0 by unfold truthsV; rw [hk]; rfl) (Ev.now _)
    · have e : knownE l = 0 := by unfold knownE; rw [if_neg (by rw [hc]; decide), if_neg hk]
      rw [if_pos e]
      refine Ev.if_neg' ?_ (Ev.now _)
      unfold truthsV
      rw [List.length_map]
      have := List.length_pos_iff.2 hk
      omega
  · have e : knownE l = checkV l := by unfold knownE; rw [if_pos hc]
    rw [e, if_neg hc]
    exact Ev.if_neg' hc (Ev.now _)
theorem valid_of_known {l : List S24} (h : knownE l = 0) : Valid l := checkV_valid (knownE_zero h).1
theorem truthsV_len (l : List S24) : (truthsV l).length = (knownV l).length := by simp [truthsV]
theorem truthsV_at (l : List S24) (j : Nat) (s : Nat → Int) (h : (knownV l)[j]? = some s) : rd_T95 (truthsV l) (j : Int) = ⟨srcL l.length s, stonesV l s (rd_T24 l 0).f0.size ⟨#[]⟩⟩ := by
  unfold rd_T95 truthsV
  rw [List.getD_eq_getElem?_getD, Int.toNat_natCast, List.getElem?_map, h]
  rfl
theorem verdict_f (so all : Nat) : cippusref07_verdict.f (so : Int) (all : Int) = some (verdictI so all) := by
  unfold cippusref07_verdict.f verdictI
  by_cases h : so = all
  · rw [if_pos (by omega), if_pos h]
  · rw [if_neg (by omega), if_neg h]
    by_cases h2 : so = 0
    · rw [if_pos (by omega), if_pos h2]
    · rw [if_neg (by omega), if_neg h2]
theorem countP_snoc (ss : List (Nat → Int)) (P : (Nat → Int) → Bool) (k : Nat) (s : Nat → Int) (h : ss[k]? = some s) : (ss.take (k + 1)).countP P = (ss.take k).countP P + if P s = true then 1 else 0 := by
  rw [List.take_add_one, h, List.countP_append]
  simp
theorem rsources_ev (l : List S24) : Ev (fun k => cippusref07_Sources.f k l) (sourcesV l) := by
  unfold cippusref07_Sources.f sourcesV
  refine Ev.bind (rknown_ev l) ?_
  by_cases hk : knownE l = 0
  · rw [if_pos hk, if_pos hk]
    refine Ev.if_pos' rfl ?_
    have hv := valid_of_known hk
    have h5 := hv.five
    have hn := known_len l h5
    have htl := truthsV_len l
    have h2 : ∀ (i j : Nat) (hi : i < l.length) (hj : j ≤ i) (out : List (List Int)) (row : List Int) (R : List (List Int) × Int) (hrow : row.length = j), Ev (fun k => cippusref07_Sources.l1 k l (truthsV l) out (i : Int) (row ++ [verdictI ((knownV l).countP (srcP i j)) (knownV l).length]) (((j + 1 : Nat) : Int) - 1)) R →
        ∀ r q, q + r = (knownV l).length → Ev (fun k => cippusref07_Sources.l2 k l (truthsV l) out (i : Int) row ((j : Int) - 1) (((knownV l).take q).countP (srcP i j) : Int) (q : Int)) R := by
      intro i j hi hj out row R hrow hR r
      induction r with
      | zero =>
        intro q hq
        refine Ev.step (fun k => by rw [cippusref07_Sources.l2]) ?_
        refine Ev.if_neg' (by omega) ?_
        rw [show q = (knownV l).length by omega, List.take_length, htl, verdict_f, wrap64_small (by omega) (by omega)]
        simp only [Option.bind_some]
        refine Ev.if_pos' (by omega) ?_
        rw [show ((j : Int) - 1 + 1) = ((j + 1 : Nat) : Int) - 1 by omega]
        exact hR
      | succ r ih =>
        intro q hq
        have hq2 : q < (knownV l).length := by omega
        have hget : (knownV l)[q]? = some (knownV l)[q] := List.getElem?_eq_getElem hq2
        have h1 := ih (q + 1) (by omega)
        have hc := List.countP_le_length (p := srcP i j) (l := (knownV l).take q)
        rw [List.length_take] at hc
        refine Ev.step (fun k => by rw [cippusref07_Sources.l2]) ?_
        rw [truthsV_at l q _ hget, srcL_len, srcL_rd _ _ i hi, next64 q (by omega)]
        refine Ev.if_pos' (by omega) (Ev.if_pos' (by omega) (Ev.if_pos' (by omega) (Ev.if_pos' (by omega) ?_)))
        rw [countP_snoc _ _ q _ hget] at h1
        by_cases e : (knownV l)[q] i = (j : Int) - 1
        · refine Ev.if_pos' e ?_
          rw [if_pos (by unfold srcP; rw [e]; simp)] at h1
          rw [next64 _ (by omega)]
          exact h1
        · refine Ev.if_neg' e ?_
          rw [if_neg (by unfold srcP; simpa using e)] at h1
          exact h1
    have hl1 : ∀ (i : Nat) (hi : i < l.length) (out : List (List Int)) (R : List (List Int) × Int) (hout : out.length = i), Ev (fun k => cippusref07_Sources.l0 k l (truthsV l) (out ++ [srcRow l i]) ((i + 1 : Nat) : Int)) R →
        ∀ r j, j + r = i + 1 → Ev (fun k => cippusref07_Sources.l1 k l (truthsV l) out (i : Int) ((List.range j).map fun j => verdictI ((knownV l).countP (srcP i j)) (knownV l).length) ((j : Int) - 1)) R := by
      intro i hi out R hout hR r
      induction r with
      | zero =>
        intro j hj
        refine Ev.step (fun k => by rw [cippusref07_Sources.l1]) ?_
        refine Ev.if_neg' (by omega) (Ev.if_pos' (by omega) ?_)
        rw [next64 i (by omega), show j = i + 1 by omega]
        exact hR
      | succ r ih =>
        intro j hj
        have h1 := ih (j + 1) (by omega)
        rw [List.range_succ, List.map_append] at h1
        refine Ev.step (fun k => by rw [cippusref07_Sources.l1]) ?_
        refine Ev.if_pos' (by omega) ?_
        simpa using h2 i j hi (by omega) out _ R (by simp) h1 (knownV l).length 0 (by omega)
    have hl0 : ∀ r i, i + r = l.length → Ev (fun k => cippusref07_Sources.l0 k l (truthsV l) ((List.range i).map (srcRow l)) (i : Int)) ((List.range l.length).map (srcRow l), 0) := by
      intro r
      induction r with
      | zero =>
        intro i hi
        refine Ev.step (fun k => by rw [cippusref07_Sources.l0]) ?_
        rw [show i = l.length by omega]
        exact Ev.if_neg' (by omega) (Ev.now _)
      | succ r ih =>
        intro i hi
        have h1 := ih (i + 1) (by omega)
        rw [List.range_succ, List.map_append] at h1
        refine Ev.step (fun k => by rw [cippusref07_Sources.l0]) ?_
        refine Ev.if_pos' (by omega) ?_
        simpa using hl1 i (by omega) _ _ (by simp) h1 (i + 1) 0 (by omega)
    simpa using hl0 l.length 0 (by omega)
  · rw [if_neg hk, if_neg hk]
    exact Ev.if_neg' hk (Ev.now _)
theorem rbelow_ev {n : Nat} {s : Nat → Int} (hs : ∀ k, k < n → -1 ≤ s k ∧ s k < k) (h5 : n ≤ 5) (a b : Nat) (ha : a < n) : Ev (fun k => cippusref07_Below.f k (srcL n s) (a : Int) (b : Int)) (dependB s a b) := by
  have hlen := srcL_len n s
  have : ∀ (f : Nat) (x : Int), -1 ≤ x → x < f → x < n → Ev (fun k => cippusref07_Below.l0 k (srcL n s) x (b : Int)) (climb s (b : Int) f x == (b : Int)) := by
    intro f
    induction f with
    | zero =>
      intro x h1 h2 h3
      have hx : x = -1 := by omega
      subst hx
      refine Ev.step (fun k => by rw [cippusref07_Below.l0]) ?_
      refine Ev.if_pos' rfl ?_
      rw [climb, show ((-1 : Int) == (b : Int)) = false from beq_false_of_ne (by omega)]
      exact Ev.now _
    | succ f ih =>
      intro x h1 h2 h3
      refine Ev.step (fun k => by rw [cippusref07_Below.l0]) ?_
      by_cases e1 : x = -1
      · refine Ev.if_pos' e1 ?_
        rw [climb_stop _ _ _ _ (by omega), e1, show ((-1 : Int) == (b : Int)) = false from beq_false_of_ne (by omega)]
        exact Ev.now _
      · refine Ev.if_neg' e1 ?_
        by_cases e2 : x = (b : Int)
        · refine Ev.if_pos' e2 ?_
          rw [climb_stop _ _ _ _ (by omega), e2, beq_self_eq_true]
          exact Ev.now _
        · refine Ev.if_neg' e2 (Ev.if_pos' (by omega) (Ev.if_pos' (by omega) ?_))
          obtain ⟨y, rfl⟩ : ∃ y : Nat, x = (y : Int) := ⟨x.toNat, by omega⟩
          have h4 := hs y (by omega)
          rw [srcL_rd n s y (by omega)]
          have h5 := ih (s y) h4.1 (by omega) (by omega)
          by_cases e3 : (b : Int) < (y : Int)
          · rw [climb, if_pos e3, Int.toNat_natCast]
            exact h5
          · rw [climb_stop _ _ _ _ e3, show ((y : Int) == (b : Int)) = false from beq_false_of_ne e2]
            have e4 : ¬ (b : Int) < s y := by omega
            rw [climb_stop _ _ _ _ e4, show (s y == (b : Int)) = false from beq_false_of_ne (by omega)] at h5
            exact h5
  unfold cippusref07_Below.f
  refine Ev.if_pos' (by omega) (Ev.if_pos' (by omega) ?_)
  rw [srcL_rd n s a ha]
  have h4 := hs a ha
  exact this 5 (s a) h4.1 (by omega) (by omega)
theorem rdepends_ev (l : List S24) (a b : Int) : Ev (fun k => cippusref07_Depends.f k l a b) (dependsV l a b) := by
  unfold cippusref07_Depends.f dependsV
  refine Ev.bind (rcheck_ev l) ?_
  by_cases hc : checkV l = 0
  · rw [if_neg (by rw [hc]; decide)]
    refine Ev.if_pos' hc ?_
    have hv := checkV_valid hc
    have h5 := hv.five
    have hj : ∀ x : Bool, (x = true ↔ min a b < 0 ∨ (l.length : Int) ≤ max a b) → Ev (fun k => cippusref07_Depends.j0 k l a b x) (if min a b < 0 ∨ (l.length : Int) ≤ max a b then (0, 3) else if knownE l ≠ 0 then (0, knownE l) else (verdictI ((knownV l).countP fun s => dependB s a.toNat b.toNat) (knownV l).length, 0)) := by
      intro x hx
      refine Ev.step (fun k => by rw [cippusref07_Depends.j0]) ?_
      by_cases e : x = true
      · rw [if_pos (hx.1 e)]
        exact Ev.if_pos' e (Ev.now _)
      · have e2 : ¬ (min a b < 0 ∨ (l.length : Int) ≤ max a b) := fun h => e (hx.2 h)
        rw [if_neg e2]
        refine Ev.if_neg' e (Ev.bind (rknown_ev l) ?_)
        by_cases hk : knownE l = 0
        · rw [if_pos (show knownE l = 0 from hk), if_neg (show ¬ (knownE l ≠ 0) from fun h => h hk)]
          refine Ev.if_pos' rfl ?_
          obtain ⟨a, rfl⟩ : ∃ y : Nat, a = (y : Int) := ⟨a.toNat, by omega⟩
          obtain ⟨b, rfl⟩ : ∃ y : Nat, b = (y : Int) := ⟨b.toNat, by omega⟩
          simp only [Int.toNat_natCast]
          have hn := known_len l h5
          have htl := truthsV_len l
          have : ∀ r q, q + r = (knownV l).length → Ev (fun k => cippusref07_Depends.l0 k (a : Int) (b : Int) (truthsV l) (((knownV l).take q).countP (fun s => dependB s a b) : Int) (q : Int)) (verdictI ((knownV l).countP fun s => dependB s a b) (knownV l).length, 0) := by
            intro r
            induction r with
            | zero =>
              intro q hq
              refine Ev.step (fun k => by rw [cippusref07_Depends.l0]) ?_
              refine Ev.if_neg' (by omega) ?_
              rw [show q = (knownV l).length by omega, List.take_length, htl, verdict_f]
              exact Ev.now _
            | succ r ih =>
              intro q hq
              have hq2 : q < (knownV l).length := by omega
              have hget : (knownV l)[q]? = some (knownV l)[q] := List.getElem?_eq_getElem hq2
              have h1 := ih (q + 1) (by omega)
              have hcl := List.countP_le_length (p := fun s => dependB s a b) (l := (knownV l).take q)
              rw [List.length_take] at hcl
              have hmem := knownV_mem (List.getElem_mem hq2)
              refine Ev.step (fun k => by rw [cippusref07_Depends.l0]) ?_
              rw [truthsV_at l q _ hget, next64 q (by omega)]
              refine Ev.if_pos' (by omega) (Ev.if_pos' (by omega) (Ev.bind (rbelow_ev (fun k hk => ⟨(hmem.1 k hk).1, (hmem.1 k hk).2.1⟩) h5 a b (by omega)) ?_))
              rw [countP_snoc _ _ q _ hget] at h1
              by_cases e : dependB (knownV l)[q] a b = true
              · rw [if_pos e] at h1
                refine Ev.if_pos' e ?_
                rw [next64 _ (by omega)]
                exact h1
              · rw [if_neg e] at h1
                exact Ev.if_neg' e h1
          simpa using this (knownV l).length 0 (by omega)
        · rw [if_neg (show ¬ knownE l = 0 from hk), if_pos (show knownE l ≠ 0 from hk)]
          exact Ev.if_neg' hk (Ev.now _)
    by_cases h1 : a < 0
    · exact Ev.if_pos' h1 (hj true ⟨fun _ => by omega, fun _ => rfl⟩)
    · refine Ev.if_neg' h1 ?_
      by_cases h2 : a ≥ (l.length : Int)
      · exact Ev.if_pos' h2 (hj true ⟨fun _ => by omega, fun _ => rfl⟩)
      · refine Ev.if_neg' h2 ?_
        by_cases h3 : b < 0
        · exact Ev.if_pos' h3 (hj true ⟨fun _ => by omega, fun _ => rfl⟩)
        · refine Ev.if_neg' h3 (hj _ ?_)
          rw [decide_eq_true_eq]
          omega
  · rw [if_pos hc]
    exact Ev.if_neg' hc (Ev.now _)
end Go.Proofs.Ytegjollhajgcdaa.P.OwnSt
namespace Go.Proofs.Ytegjollhajgcdaa.P.OwnSt
open Go.RowKit Go.Proofs.YtegjollhajgcdaaW.PrintWords Go.Proofs.YtegjollhajgcdaaW.PrintLast Go.Proofs.YtegjollhajgcdaaW.PrintMore
set_option linter.unusedVariables false
set_option linter.unusedSimpArgs false
section
variable {l : List S24}
end
section
variable {l : List S24}
end
end Go.Proofs.Ytegjollhajgcdaa.P.OwnSt
namespace Go.Proofs.Ytegjollhajgcdaa.P.OwnSt
open Go.RowKit Go.Proofs.YtegjollhajgcdaaW.PrintWords Go.Proofs.YtegjollhajgcdaaW.PrintLast Go.Proofs.YtegjollhajgcdaaW.PrintMore
set_option linter.unusedVariables false
set_option linter.unusedSimpArgs false
theorem sameCopies_ev (a : List S24) (h8 : a.length < 1000000) : Ev (fun k => cippuskit_SameCopies.f k a a) true := by
  have : ∀ rem i, i + rem = a.length → Ev (fun k => cippuskit_SameCopies.l0 k a a true (i : Int)) true := by
    intro rem
    induction rem with
    | zero =>
      intro i hi
      refine Ev.step (fun k => by rw [cippuskit_SameCopies.l0]) ?_
      exact Ev.if_pos' rfl (Ev.if_neg' (by omega) (Ev.now _))
    | succ rem ih =>
      intro i hi
      refine Ev.step (fun k => by rw [cippuskit_SameCopies.l0]) ?_
      refine Ev.if_pos' rfl (Ev.if_pos' (by omega) (Ev.if_pos' (by omega) (Ev.if_pos' (by omega) ?_)))
      simp only [beq_self_eq_true, Bool.and_self]
      rw [next64 i (by omega)]
      exact ih (i + 1) (by omega)
  have h := this a.length 0 (by omega)
  unfold cippuskit_SameCopies.f
  rw [beq_self_eq_true]
  exact h
theorem large_end (l : List S24) (s : Int) (i : Int) : ∃ b, Ev (fun k => cippuslaw07_large.j1 k l s i false) b ∧ (b = false → l.length ≤ 20) := by
  by_cases h : (l.length : Int) > 20
  · refine ⟨true, Ev.step (fun k => by rw [cippuslaw07_large.j1]) (Ev.if_neg' (by decide) (Ev.if_pos' h (Ev.now _))), by simp⟩
  · by_cases h2 : s > 5
    · exact ⟨_, Ev.step (fun k => by rw [cippuslaw07_large.j1]) (Ev.if_neg' (by decide) (Ev.if_neg' h (Ev.if_pos' h2 (Ev.bind (rcheck_ev l) (Ev.now _))))), fun _ => by omega⟩
    · exact ⟨_, Ev.step (fun k => by rw [cippuslaw07_large.j1]) (Ev.if_neg' (by decide) (Ev.if_neg' h (Ev.if_neg' h2 (Ev.now _)))), fun _ => by omega⟩
theorem large_ev (l : List S24) : ∃ b, Ev (fun k => cippuslaw07_large.f k l) b ∧ (b = false → l.length ≤ 20) := by
  have : ∀ r i s, i + r = min l.length 20 → 0 ≤ s → s ≤ 9 * (i : Int) → ∃ b, Ev (fun k => cippuslaw07_large.l0 k l s (i : Int)) b ∧ (b = false → l.length ≤ 20) := by
    intro r
    induction r with
    | zero =>
      intro i s hi h0 h9
      obtain ⟨b, hb, h⟩ := large_end l s (i : Int)
      refine ⟨b, Ev.step (fun k => by rw [cippuslaw07_large.l0]) ?_, h⟩
      by_cases e : (i : Int) < (l.length : Int)
      · refine Ev.if_pos' e ?_
        rw [decide_eq_false (by omega)]
        exact hb
      · exact Ev.if_neg' e hb
    | succ r ih =>
      intro i s hi h0 h9
      have hm : 0 ≤ mx 0 (mn 9 (rd_T24 l (i : Int)).f1) ∧ mx 0 (mn 9 (rd_T24 l (i : Int)).f1) ≤ 9 := by
        unfold mx mn
        split <;> split <;> omega
      by_cases e : ((rd_T24 l (i : Int)).f0.size : Int) > 40
      · refine ⟨true, Ev.step (fun k => by rw [cippuslaw07_large.l0]) (Ev.if_pos' (by omega) ?_), by simp⟩
        rw [decide_eq_true (by omega)]
        exact Ev.step (fun k => by rw [cippuslaw07_large.j1]) (Ev.if_pos' rfl (Ev.if_pos' (by omega) (Ev.if_pos' (by omega) (Ev.if_pos' e (Ev.now _)))))
      · obtain ⟨b, hb, h⟩ := ih (i + 1) (s + mx 0 (mn 9 (rd_T24 l (i : Int)).f1)) (by omega) (by omega) (by omega)
        refine ⟨b, Ev.step (fun k => by rw [cippuslaw07_large.l0]) (Ev.if_pos' (by omega) ?_), h⟩
        rw [decide_eq_true (by omega)]
        refine Ev.step (fun k => by rw [cippuslaw07_large.j1]) (Ev.if_pos' rfl (Ev.if_pos' (by omega) (Ev.if_pos' (by omega) (Ev.if_neg' e ?_))))
        rw [next64 i (by omega), wrap64_small (by omega) (by omega)]
        exact hb
  unfold cippuslaw07_large.f
  exact this (min l.length 20) 0 0 (by omega) (by omega) (by omega)
end Go.Proofs.Ytegjollhajgcdaa.P.OwnSt
namespace Go.Proofs.Ytegjollhajgcdaa.Pure
open Go.RowKit Go.Proofs.Ytegjollhajgcdaa.P Go.Proofs.Ytegjollhajgcdaa.P.OwnSt Go.Proofs.YtegjollhajgcdaaW.PrintWords Go.Proofs.YtegjollhajgcdaaW.PrintLast
set_option linter.unusedVariables false
set_option linter.unusedSimpArgs false
theorem sameIntsS_ev (a : List Int) (h8 : a.length < 1000000) : Ev (fun k => cippuskit_SameInts.f k a a) true := by
  have : ∀ rem i, i + rem = a.length → Ev (fun k => cippuskit_SameInts.l0 k a a true (i : Int)) true := by
    intro rem
    induction rem with
    | zero =>
      intro i hi
      refine Ev.step (fun k => by rw [cippuskit_SameInts.l0]) ?_
      exact Ev.if_pos' rfl (Ev.if_neg' (by omega) (Ev.now _))
    | succ rem ih =>
      intro i hi
      refine Ev.step (fun k => by rw [cippuskit_SameInts.l0]) ?_
      refine Ev.if_pos' rfl (Ev.if_pos' (by omega) (Ev.if_pos' (by omega) (Ev.if_pos' (by omega) ?_)))
      rw [beq_self_eq_true, show wrap64 ((i : Int) + 1) = ((i + 1 : Nat) : Int) by rw [wrap64_small (by omega) (by omega)]; omega]
      exact ih (i + 1) (by omega)
  have h := this a.length 0 (by omega)
  unfold cippuskit_SameInts.f
  rw [beq_self_eq_true]
  exact h
theorem sameGridsS_ev (a : List (List Int)) (h8 : a.length < 1000000) (h9 : ∀ i : Nat, i < a.length → (rd_L4 a (i : Int)).length < 1000000) : Ev (fun k => cippuskit_SameGrids.f k a a) true := by
  have : ∀ rem i, i + rem = a.length → Ev (fun k => cippuskit_SameGrids.l0 k a a true (i : Int)) true := by
    intro rem
    induction rem with
    | zero =>
      intro i hi
      refine Ev.step (fun k => by rw [cippuskit_SameGrids.l0]) ?_
      exact Ev.if_pos' rfl (Ev.if_neg' (by omega) (Ev.now _))
    | succ rem ih =>
      intro i hi
      refine Ev.step (fun k => by rw [cippuskit_SameGrids.l0]) ?_
      refine Ev.if_pos' rfl (Ev.if_pos' (by omega) (Ev.if_pos' (by omega) (Ev.if_pos' (by omega) (Ev.bind (sameIntsS_ev _ (h9 i (by omega))) ?_))))
      rw [show wrap64 ((i : Int) + 1) = ((i + 1 : Nat) : Int) by rw [wrap64_small (by omega) (by omega)]; omega]
      exact ih (i + 1) (by omega)
  have h := this a.length 0 (by omega)
  unfold cippuskit_SameGrids.f
  rw [beq_self_eq_true]
  exact h
theorem every10_some {s0 s1 : Int} {l1 l2 l3 : List S24} {a b : Int} {r : Bool × Int × Int} (h : cippuslaw07_every10.f s0 s1 l1 l2 l3 a b = some r) : l1.length ≤ 20 ∧ l2.length ≤ 20 ∧ l3.length ≤ 20 := by
  unfold cippuslaw07_every10.f at h
  by_cases e : l1.length ≤ 20 ∧ l2.length ≤ 20 ∧ l3.length ≤ 20
  · exact e
  · rw [if_neg e] at h
    cases h
theorem loop10_ev (ls : List (List S24)) (la lb : List Int) (hl : ls.length ≤ 10) (ha : la.length = ls.length) (hb : lb.length = ls.length) (h : ∀ j : Nat, j < ls.length → (rd_L8 ls (j : Int)).length ≤ 20) : Ev (fun k => cippuslaw07_loop10.f k ls la lb) true := by
  have : ∀ r j, j + r = ls.length → Ev (fun k => cippuslaw07_loop10.l0 k ls la lb (j : Int)) true := by
    intro r
    induction r with
    | zero =>
      intro j hj
      refine Ev.step (fun k => by rw [cippuslaw07_loop10.l0]) ?_
      exact Ev.if_neg' (by omega) (Ev.now _)
    | succ r ih =>
      intro j hj
      have h20 := h j (by omega)
      refine Ev.step (fun k => by rw [cippuslaw07_loop10.l0]) ?_
      refine Ev.if_pos' (by omega) (Ev.if_pos' (by omega) ?_)
      rw [copyCopies_eq _ (by omega), next64 j (by omega)]
      unfold stemma_Sources.f stemma_Depends.f
      simp only [Option.bind_some]
      refine Ev.bind (rsources_ev _) (Ev.if_pos' (by omega) (Ev.if_pos' (by omega) (Ev.bind (rdepends_ev _ _ _) (Ev.bind (check_ev _) (Ev.bind (rcheck_ev _) (Ev.if_pos' rfl (Ev.if_pos' rfl (Ev.if_pos' rfl (Ev.if_pos' rfl (Ev.bind (sameGridsS_ev _ ?_ (fun i hi => ?_)) (Ev.if_pos' rfl (Ev.bind (sameCopies_ev _ (by omega)) (Ev.if_pos' rfl ?_)))))))))))))
      · unfold sourcesV
        split
        · simp
          omega
        · exact Nat.zero_lt_succ _
      · by_cases hk : knownE (rd_L8 ls (j : Int)) = 0
        · have hln : (sourcesV (rd_L8 ls (j : Int))).1.length = (rd_L8 ls (j : Int)).length := by unfold sourcesV; rw [if_pos hk]; simp
          rw [rowsV _ hk i (by omega)]
          simp [srcRow]
          omega
        · have : (sourcesV (rd_L8 ls (j : Int))).1 = [] := by unfold sourcesV; rw [if_neg hk]
          rw [this] at hi
          simp at hi
      · exact ih (j + 1) (by omega)
  unfold cippuslaw07_loop10.f
  exact this ls.length 0 (by omega)
theorem sources_pure (l0 : List S24) (a b : Int) (t : ByteArray) (e : Int) (s : Bool) (l2 : List Int) (hl : l2.length < 4611686018427387904) : ∃ k, cippuslaw07_StemmaSources.f k l0 a b t e s l2 = some true := by
  obtain ⟨a1, b1, e1⟩ := newUrn_ok l2 (by have : maxLen = 9223372036854775807 := rfl; omega)
  obtain ⟨l, st, src, a2, b2, e2, h, hn, hp⟩ := copiesOf_made a1 b1 4 4 1 (by omega) (by omega) (by omega) (by omega) (by omega) (by omega)
  refine Ev.rounds ?_
  unfold cippuslaw07_StemmaSources.f cippuskit_NewUrn.f cippuskit_CopiesOf.f
  rw [e1]
  simp only [Option.bind_some, e2]
  have h5 := h.five
  rw [copyCopies_eq _ (by omega)]
  simp only [Option.bind_some]
  refine Ev.if_pos' (by rw [List.length_singleton]; omega) ?_
  obtain ⟨x, hx, hx2⟩ := large_ev l0
  obtain ⟨y, hy, hy2⟩ := large_ev (l ++ [(⟨t, e, s⟩ : S24)])
  have hj : ∀ z : Bool, (z = false → l0.length ≤ 20) → Ev (fun k => cippuslaw07_StemmaSources.j0 k l0 a b l (l ++ [(⟨t, e, s⟩ : S24)]) z a2 b2) true := by
    intro z hz
    refine Ev.step (fun k => by rw [cippuslaw07_StemmaSources.j0]) ?_
    cases z with
    | true => exact Ev.if_pos' rfl (Ev.bind found_ev (Ev.now _))
    | false =>
      refine Ev.if_neg' (by decide) ?_
      unfold cippuslaw07_every10.f
      rw [if_pos ⟨hz rfl, by omega, by rw [List.length_append, List.length_singleton]; omega⟩]
      simp only [Option.bind_some]
      exact Ev.bind found_ev (Ev.now _)
  refine Ev.bind hx ?_
  cases x with
  | true => exact Ev.if_pos' rfl (hj true (by simp))
  | false => exact Ev.if_neg' (by decide) (Ev.bind hy (hj y (fun _ => hx2 rfl)))
end Go.Proofs.Ytegjollhajgcdaa.Pure
namespace Go.Proofs.Ytegjollhajgcdaa.P
open Go.RowKit Go.Shelf Go.Proofs.YtegjollhajgcdaaW.PrintWords Go.Proofs.YtegjollhajgcdaaW.PrintLast Go.Proofs.YtegjollhajgcdaaW.PrintMore
set_option linter.unusedVariables false
set_option linter.unusedSimpArgs false
theorem ints_C {w : World} {g t : Nat} {vs : List Value} {xs : List Int} (hb : w.heap[g]? = some (.cells vs.toArray t (0, 0))) (hv : vs = xs.map (Value.int .i64)) (hn : xs.length ≤ 1000) : Kd.C (Kd.int .i64) w (some ⟨g, 0, none⟩) xs.length xs := by
  refine ⟨rfl, by omega, fun _ => ⟨_, rfl, fun j x hx => ⟨[.int .i64 x], rfl, rfl, fun i u hu => ?_⟩⟩⟩
  have hi : i = 0 := by
    rcases i with _ | i
    · rfl
    · simp at hu
  subst hi
  have hu : Value.int .i64 x = u := by simpa using hu
  subst hu
  have h2 := blk_cell hb j
  have e2 : ((⟨g, 0, none⟩ : Addr).add (j * 1 + 0)) = ⟨g, j, none⟩ := by simp [Addr.add]; intro h0; omega
  show w.cell? ((⟨g, 0, none⟩ : Addr).add (j * (Kd.int .i64).sz + 0)) = _
  rw [show (Kd.int .i64).sz = 1 from rfl, e2, h2, hv]
  simp [hx]
end Go.Proofs.Ytegjollhajgcdaa.P
namespace Go.Proofs.Ytegjollhajgcdaa.P
open Go.RowKit Go.Proofs.YtegjollhajgcdaaW.PrintWords Go.Proofs.YtegjollhajgcdaaW.PrintLast Go.Proofs.YtegjollhajgcdaaW.PrintMore
attribute [local go_sem] max2_int min2_int max_two min_two max_three min_three max_four min_four   -- for this text's walks alone
open OwnSt
set_option linter.unusedVariables false
set_option linter.unusedSimpArgs false
def cippuslaw07_loop10.T13 : Bool × List (List Nat × List Nat) := (true, [([], []), ([], []), ([], []), ([1, 2], [1, 2]), ([3], [3]), ([], []), ([], []), ([5, 6], [5, 6]), ([7], [7]), ([0, 4, 8], [0, 4, 8]), ([9], [9]), ([10], [10]), ([10], [10]), ([11, 9, 0, 1, 2, 3, 4, 5, 6, 7, 8, 9, 10, 11], [11]), ([12, 13, 0, 1, 2, 3, 4, 5, 6, 7, 8, 9, 10, 11, 12, 13], [12])])
def cippuslaw07_loop10.B13 : List Nat := [0, 0, 0, 6, 14, 0, 0, 96, 224, 511, 1023, 2047, 2047, 4095, 16383]
theorem cippuslaw07_loop10.tab13 : rtab .any (opsOf Try.f10 13) = cippuslaw07_loop10.T13 := by kernel_rfl
theorem cippuslaw07_loop10.bits13 : waitsOk cippuslaw07_loop10.T13.2 cippuslaw07_loop10.B13 = true := by kernel_rfl
def cippuslaw07_loop10.T14 : Bool × List (List Nat × List Nat) := (true, [([], []), ([], []), ([0, 1], [0, 1]), ([2], [2]), ([], []), ([], []), ([4, 5], [4, 5]), ([6], [6]), ([], []), ([], []), ([8, 9], [8, 9]), ([10], [10]), ([3, 7, 11], [3, 7, 11]), ([12], [12]), ([13], [13]), ([13], [13]), ([14, 12, 0, 1, 2, 3, 4, 5, 6, 7, 8, 9, 10, 11, 12, 13, 14], [14]), ([15, 16, 0, 1, 2, 3, 4, 5, 6, 7, 8, 9, 10, 11, 12, 13, 14, 15, 16], [15])])
def cippuslaw07_loop10.B14 : List Nat := [0, 0, 3, 7, 0, 0, 48, 112, 0, 0, 768, 1792, 4095, 8191, 16383, 16383, 32767, 131071]
theorem cippuslaw07_loop10.tab14 : rtab .any (opsOf Try.f10 14) = cippuslaw07_loop10.T14 := by kernel_rfl
theorem cippuslaw07_loop10.bits14 : waitsOk cippuslaw07_loop10.T14.2 cippuslaw07_loop10.B14 = true := by kernel_rfl
def cippuslaw07_loop10.T15 : Bool × List (List Nat × List Nat) := (true, [([], []), ([0], [0]), ([], []), ([], []), ([2, 3], [2, 3]), ([4], [4]), ([5, 1], [5]), ([1, 6], [1, 6]), ([7, 6], [7]), ([8], [8]), ([8], [8]), ([9, 10, 8], [8, 9, 10]), ([8, 11], [8, 11]), ([12, 8], [12]), ([13], [13]), ([13], [13]), ([14, 15, 13], [13, 14, 15]), ([13, 16], [13, 16]), ([17, 13], [17]), ([18], [18]), ([18], [18]), ([19, 20, 18], [18, 19, 20]), ([18, 21], [18, 21]), ([22, 18], [22]), ([23], [23]), ([23], [23]), ([24, 25, 23, 23], [23, 24, 25]), ([26, 23], [23, 26]), ([23, 27], [23, 27]), ([28, 26], [28]), ([29], [29]), ([29], [29]), ([29], [29]), ([31, 32, 29], [29, 31, 32]), ([33, 29], [29, 33]), ([30, 34, 29, 29], [29, 30, 34]), ([35, 29], [29, 35]), ([29, 36], [29, 36])])
def cippuslaw07_loop10.B15 : List Nat := [0, 1, 0, 0, 12, 28, 63, 127, 255, 511, 511, 2047, 4095, 8191, 16383, 16383, 65535, 131071, 262143, 524287, 524287, 2097151, 4194303, 8388607, 16777215, 16777215, 67108863, 134217727, 268435455, 536870911, 1073741823, 1073741823, 1073741823, 7516192767, 16106127359, 34359738367, 68719476735, 137438953471]
theorem cippuslaw07_loop10.tab15 : rtab .any (opsOf Try.f10 15) = cippuslaw07_loop10.T15 := by kernel_rfl
theorem cippuslaw07_loop10.bits15 : waitsOk cippuslaw07_loop10.T15.2 cippuslaw07_loop10.B15 = true := by kernel_rfl
set_option maxHeartbeats 8000000 in
set_option maxRecDepth 100000 in
theorem cippuslaw07_StemmaSources.calls (k : Nat) (A0 : Option Addr) (c0 : Nat) (l0 : List (S24)) (a1 : Int) (a2 : Int) (a3_0 : ByteArray) (a3_1 : Int) (a3_2 : Bool) (A4 : Option Addr) (c4 : Nat) (l4 : List Int) (r : Bool) (w : World) (hr0 : Kd.C k24 w A0 l0.length l0) (hc0 : l0.length ≤ c0) (hr4 : Kd.C (Kd.int .i64) w A4 l4.length l4) (hc4 : l4.length ≤ c4) (h : cippuslaw07_StemmaSources.f k l0 a1 a2 a3_0 a3_1 a3_2 l4 = some r) :
    Calls Try.prog 10 #[.slice A0 l0.length c0, .int .i64 a1, .int .i64 a2, .agg #[.string a3_0, .int .i64 a3_1, .bool a3_2], .slice A4 l4.length c4] w fun e w' => e = .returned (.bool r) ∧ Below w.heap.size w w' := by
  have hu24 := Try.underlying24
  have hu27 := Try.underlying27
  have HR0 := Aside0.mk hr0
  have HC0 := Aside0.mk hc0
  clear hr0 hc0
  have HR4 := Aside0.mk hr4
  have HC4 := Aside0.mk hc4
  clear hr4 hc4
  have HB := Aside0.mk (Below.refl w.heap.size w)
  have H : ((cippuskit_NewUrn.f l4).bind fun bt361 => ((cippuskit_CopiesOf.f bt361.1 bt361.2 4 4 1).bind fun bt364 => ((cippuskit_CopyCopies.f bt364.1).bind fun t374 => ((some (([(⟨a3_0, a3_1, a3_2⟩ : S24)] : List (S24)) : List (S24))).bind fun y377 => (if t374.length + y377.length < 4398046511104 then ((some (t374 ++ y377 : List (S24))).bind fun y380 => ((cippuslaw07_large.f k l0).bind fun t383 => (if t383 = true then (cippuslaw07_StemmaSources.j0 k l0 a1 a2 bt364.1 y380 true bt364.2.2.2.1 bt364.2.2.2.2) else ((cippuslaw07_large.f k y380).bind fun t384 => (cippuslaw07_StemmaSources.j0 k l0 a1 a2 bt364.1 y380 t384 bt364.2.2.2.1 bt364.2.2.2.2))))) else (none)))))) = some r := h
  clear h
  replace H := Option.bind_eq_some_iff.mp H
  obtain ⟨⟨t361, t362⟩, A60, H⟩ := H
  replace H : ((cippuskit_CopiesOf.f t361 t362 4 4 1).bind fun bt364 => ((cippuskit_CopyCopies.f bt364.1).bind fun t374 => ((some (([(⟨a3_0, a3_1, a3_2⟩ : S24)] : List (S24)) : List (S24))).bind fun y377 => (if t374.length + y377.length < 4398046511104 then ((some (t374 ++ y377 : List (S24))).bind fun y380 => ((cippuslaw07_large.f k l0).bind fun t383 => (if t383 = true then (cippuslaw07_StemmaSources.j0 k l0 a1 a2 bt364.1 y380 true bt364.2.2.2.1 bt364.2.2.2.2) else ((cippuslaw07_large.f k y380).bind fun t384 => (cippuslaw07_StemmaSources.j0 k l0 a1 a2 bt364.1 y380 t384 bt364.2.2.2.1 bt364.2.2.2.2))))) else (none))))) = some r := H
  have A6 := Aside0.mk A60
  clear A60
  replace H := Option.bind_eq_some_iff.mp H
  obtain ⟨⟨t364, t367, t368, t371, t372⟩, A70, H⟩ := H
  replace H : ((cippuskit_CopyCopies.f t364).bind fun t374 => ((some (([(⟨a3_0, a3_1, a3_2⟩ : S24)] : List (S24)) : List (S24))).bind fun y377 => (if t374.length + y377.length < 4398046511104 then ((some (t374 ++ y377 : List (S24))).bind fun y380 => ((cippuslaw07_large.f k l0).bind fun t383 => (if t383 = true then (cippuslaw07_StemmaSources.j0 k l0 a1 a2 t364 y380 true t371 t372) else ((cippuslaw07_large.f k y380).bind fun t384 => (cippuslaw07_StemmaSources.j0 k l0 a1 a2 t364 y380 t384 t371 t372))))) else (none)))) = some r := H
  have A7 := Aside0.mk A70
  clear A70
  replace H := Option.bind_eq_some_iff.mp H
  obtain ⟨t374, A80, H⟩ := H
  replace H : ((some (([(⟨a3_0, a3_1, a3_2⟩ : S24)] : List (S24)) : List (S24))).bind fun y377 => (if t374.length + y377.length < 4398046511104 then ((some (t374 ++ y377 : List (S24))).bind fun y380 => ((cippuslaw07_large.f k l0).bind fun t383 => (if t383 = true then (cippuslaw07_StemmaSources.j0 k l0 a1 a2 t364 y380 true t371 t372) else ((cippuslaw07_large.f k y380).bind fun t384 => (cippuslaw07_StemmaSources.j0 k l0 a1 a2 t364 y380 t384 t371 t372))))) else (none))) = some r := H
  have A8 := Aside0.mk A80
  clear A80
  obtain ⟨y377, hy377⟩ : ∃ y_ : List (S24), y_ = (([(⟨a3_0, a3_1, a3_2⟩ : S24)] : List (S24))) := ⟨_, rfl⟩
  replace H : (if t374.length + y377.length < 4398046511104 then ((some (t374 ++ y377 : List (S24))).bind fun y380 => ((cippuslaw07_large.f k l0).bind fun t383 => (if t383 = true then (cippuslaw07_StemmaSources.j0 k l0 a1 a2 t364 y380 true t371 t372) else ((cippuslaw07_large.f k y380).bind fun t384 => (cippuslaw07_StemmaSources.j0 k l0 a1 a2 t364 y380 t384 t371 t372))))) else (none)) = some r := by first | (rw [hy377]; with_reducible exact H) | (have H2_ := (Option.bind_some _ _).symm.trans H; rw [hy377]; with_reducible exact H2_) | (have H2_ := (Option.bind_some _ _).symm.trans H; with_reducible exact H2_) | with_reducible exact H | (rw [hy377]; exact H) | exact H
  have Ny377 := Aside0.mk hy377
  clear hy377
  by_cases c9 : t374.length + y377.length < 4398046511104
  · rw [if_pos c9] at H
    have LMc9 := Aside0.mk c9
    clear c9
    obtain ⟨y380, hy380⟩ : ∃ y_ : List (S24), y_ = (t374 ++ y377) := ⟨_, rfl⟩
    replace H : ((cippuslaw07_large.f k l0).bind fun t383 => (if t383 = true then (cippuslaw07_StemmaSources.j0 k l0 a1 a2 t364 y380 true t371 t372) else ((cippuslaw07_large.f k y380).bind fun t384 => (cippuslaw07_StemmaSources.j0 k l0 a1 a2 t364 y380 t384 t371 t372)))) = some r := by first | (rw [hy380]; with_reducible exact H) | (have H2_ := (Option.bind_some _ _).symm.trans H; rw [hy380]; with_reducible exact H2_) | (have H2_ := (Option.bind_some _ _).symm.trans H; with_reducible exact H2_) | with_reducible exact H | (rw [hy380]; exact H) | exact H
    have Ny380 := Aside0.mk hy380
    clear hy380
    have HC10 := Aside0.mk H
    clear H
    go_enter Try.func10, Try.ntmps10
    try go_wp2_with (first | ((with_reducible refine gate_dst (N := 8) rfl ?_); refine box_event ?hg (N := 8) ?hd (cs := #[.string a3_0, .int .i64 a3_1, .bool a3_2]) (t := 24) ?hr ?_; (case hd => rfl); (case hg => rfl); (case hr => first | (go_simp; done) | (go_simp; rfl)); intro gb360 hg w11 hbox hb; have n0_ := Aside0.mk (below_step (by repeat (first | (with_reducible first | exact HB.out | apply below_alloc | apply pw_below_drewN | apply below_drew1) | exact HB.out)) hb); have n1_ := Aside0.mk (hbox); have n2_ := Aside0.mk ((by rw [hg]; exact (below_size (by repeat (first | (with_reducible first | exact HB.out | apply below_alloc | apply pw_below_drewN | apply below_drew1) | exact HB.out))) : w.heap.size ≤ gb360)); have n3_ := Aside0.mk ((by rw [hg]; exact (below_size (by repeat (first | (with_reducible first | exact HB.out | apply below_alloc | apply pw_below_drewN | apply below_drew1) | exact HB.out))) : w.heap.size ≤ gb360)); clear HB; have HB := n0_; have BK360 := n1_; have GW360 := n2_; have GE360 := n3_; clear n0_ n1_ n2_ n3_; clear hb hbox hg) | ((with_reducible refine gate_callee (f := 14) rfl ?_); refine goesL_ (some 29) rfl rfl Try.func14 (by kernel_rfl) rfl #[.slice A4 l4.length c4] rfl (by (try simp only [List.map_toArray, List.map_cons, List.map_nil]); first | done | rfl | (simp only [List.length_drop, List.length_take]; rfl)) ?_; (with_reducible refine (cippuskit_NewUrn.calls _ _ l4 t361 t362 w _ ?side1 ?side2 ?side3 A6.out).mono ?_); (case side1 => repeat (first | (with_reducible first | exact HB.out | apply below_alloc | apply pw_below_drewN | apply below_drew1 | refine below_set ?_ GE360.out) | exact HB.out)); (case side2 => exact HR4.out); (case side3 => exact HC4.out); rintro e w12 ⟨g363, rfl, hi, hb, hb2⟩; refine ⟨_, rfl, ?_⟩; have n0_ := Aside0.mk (blk_below (g := gb360) (o := .cells #[.string a3_0, .int .i64 a3_1, .bool a3_2] 24 (0, 0)) (by (with_reducible repeat (first | refine blk_drewN ?_ _ | refine blk_drew ?_ | refine blk_alloc ?_ _)); exact BK360.out) hb2); have n1_ := Aside0.mk (hb); have n2_ := Aside0.mk (hi); have n3_ := Aside0.mk (IsS72.ne_blk hi (blk_below (g := gb360) (o := .cells #[.string a3_0, .int .i64 a3_1, .bool a3_2] 24 (0, 0)) (by (with_reducible repeat (first | refine blk_drewN ?_ _ | refine blk_drew ?_ | refine blk_alloc ?_ _)); exact BK360.out) hb2) (by decide)); have n4_ := Aside0.mk (Ne.symm (IsS72.ne_blk hi (blk_below (g := gb360) (o := .cells #[.string a3_0, .int .i64 a3_1, .bool a3_2] 24 (0, 0)) (by (with_reducible repeat (first | refine blk_drewN ?_ _ | refine blk_drew ?_ | refine blk_alloc ?_ _)); exact BK360.out) hb2) (by decide))); clear BK360; clear HB; have BK360 := n0_; have HB := n1_; have HI363 := n2_; have NB363_360 := n3_; have NB360_363 := n4_; clear n0_ n1_ n2_ n3_ n4_; (try clear hb); (try clear hb2); (try clear hk); (try clear hi)) | ((with_reducible refine gate_callee (f := 13) rfl ?_); refine goesL_ (some 32) rfl rfl Try.func13 (by kernel_rfl) rfl #[.pointer (some ⟨g363, 0, none⟩), .int .i64 4, .int .i64 4, .int .i64 1] rfl (by (try simp only [List.map_toArray, List.map_cons, List.map_nil]); first | done | rfl | (simp only [List.length_drop, List.length_take]; rfl)) ?_; (with_reducible refine (cippuskit_CopiesOf.calls g363 t361 t362 4 4 1 t364 t367 t368 t371 t372 w _ ?side1 ?side2 A7.out).mono ?_); (case side1 => repeat (first | (with_reducible first | exact HI363.out | apply IsS72.alloc | apply IsS72.drewN | apply IsS72.drew | apply IsS72.set_0 | apply IsS72.set_1 | refine IsS72.far ?_ NB363_360.out _) | exact HI363.out)); (case side2 => repeat (first | (with_reducible first | exact HB.out | apply below_alloc | apply pw_below_drewN | apply below_drew1 | refine below_set ?_ (IsS72.ge HI363.out) | refine below_set ?_ GE360.out) | exact HB.out)); rintro e w13 ⟨v365, v369, rfl, ho0, ho1, hi, hb, hk⟩; refine ⟨_, rfl, ?_⟩; have n0_ := Aside0.mk (KeepBut.blk hk (g' := gb360) (o := .cells #[.string a3_0, .int .i64 a3_1, .bool a3_2] 24 (0, 0)) (by (with_reducible repeat (first | refine blk_drewN ?_ _ | refine blk_drew ?_ | refine blk_alloc ?_ _)); exact BK360.out) NB360_363.out (by simp)); have n1_ := Aside0.mk (Kd.R_lower (Kd.R_newB ho0 (g := gb360) (o := .cells #[.string a3_0, .int .i64 a3_1, .bool a3_2] 24 (0, 0)) (by (with_reducible repeat (first | refine blk_drewN ?_ _ | refine blk_drew ?_ | refine blk_alloc ?_ _)); exact BK360.out)) (below_size (by repeat (first | (with_reducible first | exact HB.out | apply below_alloc | apply pw_below_drewN | apply below_drew1 | refine below_set ?_ (IsS72.ge HI363.out) | refine below_set ?_ GE360.out) | exact HB.out)))); have n2_ := Aside0.mk (Kd.R_lower ho1 (below_size (by repeat (first | (with_reducible first | exact HB.out | apply below_alloc | apply pw_below_drewN | apply below_drew1 | refine below_set ?_ (IsS72.ge HI363.out) | refine below_set ?_ GE360.out) | exact HB.out)))); have n3_ := Aside0.mk (hb); have n4_ := Aside0.mk (hi); clear BK360; clear HB; clear HI363; have BK360 := n0_; have HO366 := n1_; have HO370 := n2_; have HB := n3_; have HI363 := n4_; clear n0_ n1_ n2_ n3_ n4_; (try clear hb); (try clear hb2); (try clear hk); (try clear hi); (try clear ho0); (try clear ho1)) | ((with_reducible refine gate_dst (N := 13) rfl ?_); refine box_event ?hg (N := 13) ?hd (cs := #[.string (⟨#[]⟩ : ByteArray), .slice none 0 0]) (t := 27) ?hr ?_; (case hd => rfl); (case hg => rfl); (case hr => first | (go_simp; done) | (go_simp; rfl)); intro gb373 hg w14 hbox hb; have n0_ := Aside0.mk (Kd.R_below (by (with_reducible repeat (first | apply Kd.R_alloc | apply Kd.R_drewN | apply Kd.R_drew)); exact HO366.out) hb); have n1_ := Aside0.mk (Kd.R_below (by (with_reducible repeat (first | apply Kd.R_alloc | apply Kd.R_drewN | apply Kd.R_drew)); exact HO370.out) hb); have n2_ := Aside0.mk (blk_below (g := gb360) (o := .cells #[.string a3_0, .int .i64 a3_1, .bool a3_2] 24 (0, 0)) (by (with_reducible repeat (first | refine blk_drewN ?_ _ | refine blk_drew ?_ | refine blk_alloc ?_ _)); exact BK360.out) hb); have n3_ := Aside0.mk (IsS72.below (by repeat (first | (with_reducible first | exact HI363.out | apply IsS72.alloc | apply IsS72.drewN | apply IsS72.drew | apply IsS72.set_0 | apply IsS72.set_1 | refine IsS72.far ?_ NB363_360.out _) | exact HI363.out)) hb); have n4_ := Aside0.mk (below_step (by repeat (first | (with_reducible first | exact HB.out | apply below_alloc | apply pw_below_drewN | apply below_drew1 | refine below_set ?_ (IsS72.ge HI363.out) | refine below_set ?_ GE360.out) | exact HB.out)) hb); have n5_ := Aside0.mk (hbox); have n6_ := Aside0.mk ((by rw [hg]; exact (below_size (by repeat (first | (with_reducible first | exact HB.out | apply below_alloc | apply pw_below_drewN | apply below_drew1 | refine below_set ?_ (IsS72.ge HI363.out) | refine below_set ?_ GE360.out) | exact HB.out))) : w.heap.size ≤ gb373)); have n7_ := Aside0.mk ((by rw [hg]; exact (below_size (by repeat (first | (with_reducible first | exact HB.out | apply below_alloc | apply pw_below_drewN | apply below_drew1 | refine below_set ?_ (IsS72.ge HI363.out) | refine below_set ?_ GE360.out) | exact HB.out))) : w.heap.size ≤ gb373)); have n8_ := Aside0.mk ((by rw [hg]; exact Nat.ne_of_lt (blk_lt (g := gb360) (o := .cells #[.string a3_0, .int .i64 a3_1, .bool a3_2] 24 (0, 0)) (by (with_reducible repeat (first | refine blk_drewN ?_ _ | refine blk_drew ?_ | refine blk_alloc ?_ _)); exact BK360.out)) : gb360 ≠ gb373)); have n9_ := Aside0.mk ((by rw [hg]; exact Nat.ne_of_gt (blk_lt (g := gb360) (o := .cells #[.string a3_0, .int .i64 a3_1, .bool a3_2] 24 (0, 0)) (by (with_reducible repeat (first | refine blk_drewN ?_ _ | refine blk_drew ?_ | refine blk_alloc ?_ _)); exact BK360.out)) : gb373 ≠ gb360)); have n10_ := Aside0.mk ((by rw [hg]; exact Nat.ne_of_lt (IsS72.lt (show IsS72 w _ g363 t371 t372 from by repeat (first | (with_reducible first | exact HI363.out | apply IsS72.alloc | apply IsS72.drewN | apply IsS72.drew | apply IsS72.set_0 | apply IsS72.set_1 | refine IsS72.far ?_ NB363_360.out _) | exact HI363.out))) : g363 ≠ gb373)); have n11_ := Aside0.mk ((by rw [hg]; exact Nat.ne_of_gt (IsS72.lt (show IsS72 w _ g363 t371 t372 from by repeat (first | (with_reducible first | exact HI363.out | apply IsS72.alloc | apply IsS72.drewN | apply IsS72.drew | apply IsS72.set_0 | apply IsS72.set_1 | refine IsS72.far ?_ NB363_360.out _) | exact HI363.out))) : gb373 ≠ g363)); clear HO366; clear HO370; clear BK360; clear HI363; clear HB; have HO366 := n0_; have HO370 := n1_; have BK360 := n2_; have HI363 := n3_; have HB := n4_; have BK373 := n5_; have GW373 := n6_; have GE373 := n7_; have NB360_373 := n8_; have NB373_360 := n9_; have NB363_373 := n10_; have NB373_363 := n11_; clear n0_ n1_ n2_ n3_ n4_ n5_ n6_ n7_ n8_ n9_ n10_ n11_; clear hb hbox hg; have hnb15 := NB373_360.out; have hnc15 := NB360_373.out; have hnb16 := NB373_363.out; have hnc16 := NB363_373.out; have hcz17_0 : w14.cell? ⟨gb373, 0, none⟩ = some (.string (⟨#[]⟩ : ByteArray)) := (blk_cell BK373.out 0).trans rfl; have hcz17_1 : w14.cell? ⟨gb373, 1, none⟩ = some (.slice none 0 0) := (blk_cell BK373.out 1).trans rfl; have hfz17_0 := blk_frozen BK373.out 0; have hfz17_1 := blk_frozen BK373.out 1; obtain ⟨Ao18, co18, eo18⟩ := Kd.R_slice HO370.out; subst eo18; obtain ⟨Ao19, co19, eo19⟩ := Kd.R_slice HO366.out; subst eo19))
    have n0_ : Aside0 (Kd.R k24 24 ((w14.setCell ⟨gb373, 0, none⟩ (.string t367)).setCell ⟨gb373, 1, none⟩ (.slice Ao18 t368.length co18)) w.heap.size (fun k_ => k_ ≠ gb360) (.slice Ao19 t364.length co19) t364) := ⟨by (with_reducible repeat (first | apply Kd.R_alloc | apply Kd.R_drewN | apply Kd.R_drew)); exact Kd.R_mono (Kd.R_far (p := ⟨gb373, 1, none⟩) (Kd.R_far (p := ⟨gb373, 0, none⟩) (Kd.R_types HO366.out BK373.out (by decide)) (fun _ hk => hk.2) (.string t367)) (fun _ hk => hk.2) (.slice Ao18 t368.length co18)) (fun _ hk => hk.1.2)⟩
    have n1_ : Aside0 (Kd.R (Kd.int .i64) 3 ((w14.setCell ⟨gb373, 0, none⟩ (.string t367)).setCell ⟨gb373, 1, none⟩ (.slice Ao18 t368.length co18)) w.heap.size (fun _ => True) (.slice Ao18 t368.length co18) t368) := ⟨by (with_reducible repeat (first | apply Kd.R_alloc | apply Kd.R_drewN | apply Kd.R_drew)); exact Kd.R_mono (Kd.R_far (p := ⟨gb373, 1, none⟩) (Kd.R_far (p := ⟨gb373, 0, none⟩) (Kd.R_types HO370.out BK373.out (by decide)) (fun _ hk => hk.2) (.string t367)) (fun _ hk => hk.2) (.slice Ao18 t368.length co18)) (fun _ hk => trivial)⟩
    have n2_ : Aside0 (((w14.setCell ⟨gb373, 0, none⟩ (.string t367)).setCell ⟨gb373, 1, none⟩ (.slice Ao18 t368.length co18)).heap[gb360]? = some (.cells #[.string a3_0, .int .i64 a3_1, .bool a3_2] 24 (0, 0))) := ⟨by (with_reducible repeat (first | refine blk_drewN ?_ _ | refine blk_drew ?_ | refine blk_alloc ?_ _)); refine blk_far ?_ NB360_373.out _; (with_reducible repeat (first | refine blk_drewN ?_ _ | refine blk_drew ?_ | refine blk_alloc ?_ _)); refine blk_far ?_ NB360_373.out _; (with_reducible repeat (first | refine blk_drewN ?_ _ | refine blk_drew ?_ | refine blk_alloc ?_ _)); exact BK360.out⟩
    have n3_ : Aside0 (((w14.setCell ⟨gb373, 0, none⟩ (.string t367)).setCell ⟨gb373, 1, none⟩ (.slice Ao18 t368.length co18)).heap[gb373]? = some (.cells #[.string t367, .slice Ao18 t368.length co18] 27 (0, 0))) := ⟨by (with_reducible repeat (first | refine blk_drewN ?_ _ | refine blk_drew ?_ | refine blk_alloc ?_ _)); refine blk_put (cs := #[.string t367, .slice none 0 0]) ?_ 1 _ rfl; (with_reducible repeat (first | refine blk_drewN ?_ _ | refine blk_drew ?_ | refine blk_alloc ?_ _)); refine blk_put (cs := #[.string (⟨#[]⟩ : ByteArray), .slice none 0 0]) ?_ 0 _ rfl; (with_reducible repeat (first | refine blk_drewN ?_ _ | refine blk_drew ?_ | refine blk_alloc ?_ _)); exact BK373.out⟩
    have n4_ : Aside0 (IsS72 w ((w14.setCell ⟨gb373, 0, none⟩ (.string t367)).setCell ⟨gb373, 1, none⟩ (.slice Ao18 t368.length co18)) g363 t371 t372) := ⟨by repeat (first | (with_reducible first | exact HI363.out | apply IsS72.alloc | apply IsS72.drewN | apply IsS72.drew | apply IsS72.set_0 | apply IsS72.set_1 | refine IsS72.far ?_ NB363_360.out _ | refine IsS72.far ?_ NB363_373.out _) | exact HI363.out)⟩
    have n5_ : Aside0 (Below w.heap.size w ((w14.setCell ⟨gb373, 0, none⟩ (.string t367)).setCell ⟨gb373, 1, none⟩ (.slice Ao18 t368.length co18))) := ⟨by repeat (first | (with_reducible first | exact HB.out | apply below_alloc | apply pw_below_drewN | apply below_drew1 | refine below_set ?_ (IsS72.ge HI363.out) | refine below_set ?_ GE360.out | refine below_set ?_ GE373.out) | exact HB.out)⟩
    (try clear HO366)
    (try clear HO370)
    (try clear BK360)
    (try clear BK373)
    (try clear HI363)
    (try clear HB)
    generalize ((w14.setCell ⟨gb373, 0, none⟩ (.string t367)).setCell ⟨gb373, 1, none⟩ (.slice Ao18 t368.length co18)) = w20 at n0_ n1_ n2_ n3_ n4_ n5_ ⊢
    have HO366 := n0_
    have HO370 := n1_
    have BK360 := n2_
    have BK373 := n3_
    have HI363 := n4_
    have HB := n5_
    clear n0_ n1_ n2_ n3_ n4_ n5_
    have n0_ := Aside0.mk (Kd.R_drew HO366.out)
    have n1_ := Aside0.mk (Kd.R_drew HO370.out)
    have n2_ := Aside0.mk (blk_drew BK360.out)
    have n3_ := Aside0.mk (blk_drew BK373.out)
    have n4_ := Aside0.mk (IsS72.drew HI363.out)
    have n5_ := Aside0.mk (below_drew1 HB.out)
    clear HO366
    clear HO370
    clear BK360
    clear BK373
    clear HI363
    clear HB
    have HO366 := n0_
    have HO370 := n1_
    have BK360 := n2_
    have BK373 := n3_
    have HI363 := n4_
    have HB := n5_
    clear n0_ n1_ n2_ n3_ n4_ n5_
    refine start_ (n := 6) (S := fun w' => w'.cell? ⟨gb360, 0, none⟩ = some (.string a3_0) ∧ w'.cell? ⟨gb360, 1, none⟩ = some (.int .i64 a3_1) ∧ w'.cell? ⟨gb360, 2, none⟩ = some (.bool a3_2)) (ds := []) #[false, false, false, false, false, false] (by kernel_rfl) rfl rfl ⟨(blk_cell BK360.out 0).trans rfl, (blk_cell BK360.out 1).trans rfl, (blk_cell BK360.out 2).trans rfl⟩ (fun hHeld => ?_)
    generalize w20.drew = w21 at HO366 HO370 BK360 BK373 HI363 HB hHeld ⊢
    refine pure_ (i := 0) (N := some 35) (v := ?_) (a' := ?_) #[true, false, false, false, false, false] rfl rfl (by kernel_rfl) (fun _ _ _ h => h) (Or.inl ⟨by rfl, ?_⟩) ?_ ?_
    rotate_left
    · intro w'
      go_simp
      with_reducible rfl
    rotate_left
    · simp only [Act.put, List.setIfInBounds_toArray, List.set_cons_zero, List.set_cons_succ, i64_w, i32_w]
      rfl
    refine take_ (i := 2) (N := some 37) (v := ?_) (a' := ?_) #[true, false, true, false, false, false] rfl rfl (by kernel_rfl) (fun _ _ _ h => h) (Or.inl ⟨by rfl, ?_⟩) hHeld ?_ ?_
    rotate_left
    · rintro w' ⟨s0, s1, s2⟩
      go_simp
      with_reducible rfl
    rotate_left
    · simp only [Act.put, List.setIfInBounds_toArray, List.set_cons_zero, List.set_cons_succ, i64_w, i32_w]
      rfl
    refine join_ (σ := Value × Value) 2 #[true, true, true, true, false, false] (fun s_ => [(36, s_.1), (38, s_.2)]) (fun s_ w' => (w'.cell? ⟨gb360, 0, none⟩ = some (.string a3_0) ∧ w'.cell? ⟨gb360, 1, none⟩ = some (.int .i64 a3_1) ∧ w'.cell? ⟨gb360, 2, none⟩ = some (.bool a3_2)) ∧ (Kd.R k24 24 w' w.heap.size (fun k_ => some k_ ≠ (s_.1 : Value).ownBlock ∧ some k_ ≠ (s_.2 : Value).ownBlock ∧ k_ ≠ gb360) (.slice Ao19 t364.length co19) t364) ∧ (Kd.R (Kd.int .i64) 3 w' w.heap.size (fun _ => True) (.slice Ao18 t368.length co18) t368) ∧ (Kd.R k24 24 w' w.heap.size (fun k_ => some k_ ≠ (.slice Ao19 t364.length co19 : Value).ownBlock ∧ some k_ ≠ (s_.2 : Value).ownBlock ∧ k_ ≠ gb360) s_.1 t374) ∧ (Kd.R k24 24 w' w.heap.size (fun k_ => some k_ ≠ (.slice Ao19 t364.length co19 : Value).ownBlock ∧ some k_ ≠ (s_.1 : Value).ownBlock ∧ k_ ≠ gb360) s_.2 y377) ∧ (w'.heap[gb360]? = some (.cells #[.string a3_0, .int .i64 a3_1, .bool a3_2] 24 (0, 0))) ∧ (w'.heap[gb373]? = some (.cells #[.string t367, .slice Ao18 t368.length co18] 27 (0, 0))) ∧ (IsS72 w w' g363 t371 t372) ∧ (Below w.heap.size w w')) ?_ ?_
    rotate_left
    · intro hCont
      refine two_ (i := 1) (j := 3) (Ni := some 36) (Nj := some 38) #[true, true, true, false, false, false] #[true, false, true, true, false, false] rfl rfl rfl rfl (by kernel_rfl) (by decide) (by decide) (fun K hK => ?_) (fun K hK => ?_)
      · skip
        refine goes_ Try.func15 (by kernel_rfl) rfl #[.slice Ao19 t364.length co19] (by rfl) rfl rfl (by (try simp only [List.map_toArray, List.map_cons, List.map_nil]); first | done | rfl | (simp only [List.length_drop, List.length_take]; rfl)) ?_
        with_reducible refine (cippuskit_CopyCopies.calls _ _ t364 t374 _ ?side1 ?side2 A8.out).mono ?_
        (case side1 => repeat (first | exact (Kd.R_reads' HO366.out).2.2 | (with_reducible refine Kd.C_alloc ?_ _) | (with_reducible refine Kd.C_drewN ?_ _) | (with_reducible refine Kd.C_drew ?_)))
        (case side2 => exact (Kd.R_reads' HO366.out).2.1)
        rintro e w22 ⟨v375, rfl, ho0, hb⟩
        refine ⟨_, rfl, ?_⟩
        have n0_ := Aside0.mk (Kd.R_elder' (by (with_reducible repeat (first | apply Kd.R_alloc | apply Kd.R_drewN | apply Kd.R_drew)); exact HO366.out) (Kd.R_base ho0) hb)
        have n1_ := Aside0.mk (Kd.R_below (by (with_reducible repeat (first | apply Kd.R_alloc | apply Kd.R_drewN | apply Kd.R_drew)); exact HO370.out) hb)
        have n2_ := Aside0.mk (Kd.R_lower (Kd.R_newB (Kd.R_new' ho0 (Kd.R_lt (by (with_reducible repeat (first | apply Kd.R_alloc | apply Kd.R_drewN | apply Kd.R_drew)); exact HO366.out))) (g := gb360) (o := .cells #[.string a3_0, .int .i64 a3_1, .bool a3_2] 24 (0, 0)) (by (with_reducible repeat (first | refine blk_drewN ?_ _ | refine blk_drew ?_ | refine blk_alloc ?_ _)); exact BK360.out)) (below_size (by repeat (first | (with_reducible first | exact HB.out | apply below_alloc | apply pw_below_drewN | apply below_drew1 | refine below_set ?_ (IsS72.ge HI363.out) | refine below_set ?_ GE360.out | refine below_set ?_ GE373.out) | exact HB.out))))
        have n3_ := Aside0.mk (blk_below (g := gb360) (o := .cells #[.string a3_0, .int .i64 a3_1, .bool a3_2] 24 (0, 0)) (by (with_reducible repeat (first | refine blk_drewN ?_ _ | refine blk_drew ?_ | refine blk_alloc ?_ _)); exact BK360.out) hb)
        have n4_ := Aside0.mk (IsS72.below (by repeat (first | (with_reducible first | exact HI363.out | apply IsS72.alloc | apply IsS72.drewN | apply IsS72.drew | apply IsS72.set_0 | apply IsS72.set_1 | refine IsS72.far ?_ NB363_360.out _ | refine IsS72.far ?_ NB363_373.out _) | exact HI363.out)) hb)
        have n5_ := Aside0.mk (blk_below (g := gb373) (o := .cells #[.string t367, .slice Ao18 t368.length co18] 27 (0, 0)) (by (with_reducible repeat (first | refine blk_drewN ?_ _ | refine blk_drew ?_ | refine blk_alloc ?_ _)); exact BK373.out) hb)
        have n6_ := Aside0.mk (below_step (by repeat (first | (with_reducible first | exact HB.out | apply below_alloc | apply pw_below_drewN | apply below_drew1 | refine below_set ?_ (IsS72.ge HI363.out) | refine below_set ?_ GE360.out | refine below_set ?_ GE373.out) | exact HB.out)) hb)
        clear HO366
        clear HO370
        clear BK360
        clear HI363
        clear BK373
        clear HB
        have HO366 := n0_
        have HO370 := n1_
        have HO376 := n2_
        have BK360 := n3_
        have HI363 := n4_
        have BK373 := n5_
        have HB := n6_
        clear n0_ n1_ n2_ n3_ n4_ n5_ n6_
        (try clear hb)
        (try clear hb2)
        (try clear hk)
        (try clear hi)
        (try clear ho0)
        refine hK.out _ _ ⟨(blk_cell BK360.out 0).trans rfl, (blk_cell BK360.out 1).trans rfl, (blk_cell BK360.out 2).trans rfl⟩ (fun hHeld => ?_)
        clear hK K
        refine norm_ (a' := ?_) ?_ ?_
        rotate_left
        · show Act.put _ (some 36) _ = _
          simp only [Act.put, List.setIfInBounds_toArray, List.set_cons_zero, List.set_cons_succ, i64_w, i32_w]
          rfl
        refine one_ (i := 3) (N := some 38) #[true, true, true, true, false, false] rfl rfl (by kernel_rfl) (by decide) (fun K hK => ?_)
        refine Kd.R_lit_step k24 _ 24 ?hg (N := 38) ?hd (xs := ([(⟨a3_0, a3_1, a3_2⟩ : S24)] : List (S24))) (inner := [.string a3_0, .int .i64 a3_1, .bool a3_2]) (ok := fun _ => True) (okp := fun _ => True) ?hr ?hp (fun _ hk => hk) trivial (Below.refl _ _) (Nat.le_refl _) (by simp) ?_; (case hd => rfl); (case hg => rfl); (case hr => first | (go_simp; done) | (go_simp; rfl)); (case hp => exact (Reps.c3 (show Kd.M k24 _ _ _ (⟨a3_0, a3_1, a3_2⟩ : S24) [.string a3_0, .int .i64 a3_1, .bool a3_2] from (k24_mkM _ _ _ (⟨a3_0, a3_1, a3_2⟩ : S24) )) (Reps.none _ _)))
        intro v378 w23 ho24 hb hg_ hnew_
        clear hg_ hnew_
        (first | rw [← Ny377.out] at ho24 | (simp only [Int.reduceToNat] at ho24; rw [← Ny377.out] at ho24))
        have n0_ := Aside0.mk (Kd.R_elder' (by (with_reducible repeat (first | apply Kd.R_alloc | apply Kd.R_drewN | apply Kd.R_drew)); exact HO366.out) (Kd.R_base ho24) hb)
        have n1_ := Aside0.mk (Kd.R_below (by (with_reducible repeat (first | apply Kd.R_alloc | apply Kd.R_drewN | apply Kd.R_drew)); exact HO370.out) hb)
        have n2_ := Aside0.mk (Kd.R_elder' (by (with_reducible repeat (first | apply Kd.R_alloc | apply Kd.R_drewN | apply Kd.R_drew)); exact HO376.out) (Kd.R_base ho24) hb)
        have n3_ := Aside0.mk (Kd.R_lower (Kd.R_newB (Kd.R_new' (Kd.R_new' ho24 (Kd.R_lt (by (with_reducible repeat (first | apply Kd.R_alloc | apply Kd.R_drewN | apply Kd.R_drew)); exact HO366.out))) (Kd.R_lt (by (with_reducible repeat (first | apply Kd.R_alloc | apply Kd.R_drewN | apply Kd.R_drew)); exact HO376.out))) (g := gb360) (o := .cells #[.string a3_0, .int .i64 a3_1, .bool a3_2] 24 (0, 0)) (by (with_reducible repeat (first | refine blk_drewN ?_ _ | refine blk_drew ?_ | refine blk_alloc ?_ _)); exact BK360.out)) (below_size (by repeat (first | (with_reducible first | exact HB.out | apply below_alloc | apply pw_below_drewN | apply below_drew1 | refine below_set ?_ (IsS72.ge HI363.out) | refine below_set ?_ GE360.out | refine below_set ?_ GE373.out) | exact HB.out))))
        have n4_ := Aside0.mk (blk_below (g := gb360) (o := .cells #[.string a3_0, .int .i64 a3_1, .bool a3_2] 24 (0, 0)) (by (with_reducible repeat (first | refine blk_drewN ?_ _ | refine blk_drew ?_ | refine blk_alloc ?_ _)); exact BK360.out) hb)
        have n5_ := Aside0.mk (IsS72.below (by repeat (first | (with_reducible first | exact HI363.out | apply IsS72.alloc | apply IsS72.drewN | apply IsS72.drew | apply IsS72.set_0 | apply IsS72.set_1 | refine IsS72.far ?_ NB363_360.out _ | refine IsS72.far ?_ NB363_373.out _) | exact HI363.out)) hb)
        have n6_ := Aside0.mk (blk_below (g := gb373) (o := .cells #[.string t367, .slice Ao18 t368.length co18] 27 (0, 0)) (by (with_reducible repeat (first | refine blk_drewN ?_ _ | refine blk_drew ?_ | refine blk_alloc ?_ _)); exact BK373.out) hb)
        have n7_ := Aside0.mk (below_step (by repeat (first | (with_reducible first | exact HB.out | apply below_alloc | apply pw_below_drewN | apply below_drew1 | refine below_set ?_ (IsS72.ge HI363.out) | refine below_set ?_ GE360.out | refine below_set ?_ GE373.out) | exact HB.out)) hb)
        clear HO366
        clear HO370
        clear HO376
        clear BK360
        clear HI363
        clear BK373
        clear HB
        have HO366 := n0_
        have HO370 := n1_
        have HO376 := n2_
        have HO379 := n3_
        have BK360 := n4_
        have HI363 := n5_
        have BK373 := n6_
        have HB := n7_
        clear n0_ n1_ n2_ n3_ n4_ n5_ n6_ n7_
        clear hb ho24
        refine hK.out _ _ ⟨(blk_cell BK360.out 0).trans rfl, (blk_cell BK360.out 1).trans rfl, (blk_cell BK360.out 2).trans rfl⟩ (fun hHeld => ?_)
        clear hK K
        refine norm_ (a' := ?_) ?_ ?_
        rotate_left
        · show Act.put _ (some 38) _ = _
          simp only [Act.put, List.setIfInBounds_toArray, List.set_cons_zero, List.set_cons_succ, i64_w, i32_w]
          rfl
        exact norm_ (by simp only [putAll, Act.put, List.setIfInBounds_toArray, List.set_cons_zero, List.set_cons_succ]) (hCont (v375, v378) _ ⟨hHeld, (by (with_reducible repeat (first | apply Kd.R_alloc | apply Kd.R_drewN | apply Kd.R_drew)); exact Kd.R_mono HO366.out (fun _ hk => ⟨hk.1.2, ⟨hk.2, hk.1.1⟩⟩)), (by (with_reducible repeat (first | apply Kd.R_alloc | apply Kd.R_drewN | apply Kd.R_drew)); exact HO370.out), (by (with_reducible repeat (first | apply Kd.R_alloc | apply Kd.R_drewN | apply Kd.R_drew)); exact Kd.R_mono HO376.out (fun _ hk => ⟨hk.1.1.2, ⟨hk.2, hk.1.2⟩⟩)), (by (with_reducible repeat (first | apply Kd.R_alloc | apply Kd.R_drewN | apply Kd.R_drew)); exact Kd.R_mono HO379.out (fun _ hk => ⟨hk.1.1.2, ⟨hk.1.2, hk.2⟩⟩)), (by (with_reducible repeat (first | refine blk_drewN ?_ _ | refine blk_drew ?_ | refine blk_alloc ?_ _)); exact BK360.out), (by (with_reducible repeat (first | refine blk_drewN ?_ _ | refine blk_drew ?_ | refine blk_alloc ?_ _)); exact BK373.out), (by repeat (first | (with_reducible first | exact HI363.out | apply IsS72.alloc | apply IsS72.drewN | apply IsS72.drew | apply IsS72.set_0 | apply IsS72.set_1 | refine IsS72.far ?_ NB363_360.out _ | refine IsS72.far ?_ NB363_373.out _) | exact HI363.out)), (by repeat (first | (with_reducible first | exact HB.out | apply below_alloc | apply pw_below_drewN | apply below_drew1 | refine below_set ?_ (IsS72.ge HI363.out) | refine below_set ?_ GE360.out | refine below_set ?_ GE373.out) | exact HB.out))⟩)
      · skip
        refine Kd.R_lit_step k24 _ 24 ?hg (N := 38) ?hd (xs := ([(⟨a3_0, a3_1, a3_2⟩ : S24)] : List (S24))) (inner := [.string a3_0, .int .i64 a3_1, .bool a3_2]) (ok := fun _ => True) (okp := fun _ => True) ?hr ?hp (fun _ hk => hk) trivial (Below.refl _ _) (Nat.le_refl _) (by simp) ?_; (case hd => rfl); (case hg => rfl); (case hr => first | (go_simp; done) | (go_simp; rfl)); (case hp => exact (Reps.c3 (show Kd.M k24 _ _ _ (⟨a3_0, a3_1, a3_2⟩ : S24) [.string a3_0, .int .i64 a3_1, .bool a3_2] from (k24_mkM _ _ _ (⟨a3_0, a3_1, a3_2⟩ : S24) )) (Reps.none _ _)))
        intro v378 w22 ho23 hb hg_ hnew_
        clear hg_ hnew_
        (first | rw [← Ny377.out] at ho23 | (simp only [Int.reduceToNat] at ho23; rw [← Ny377.out] at ho23))
        have n0_ := Aside0.mk (Kd.R_elder' (by (with_reducible repeat (first | apply Kd.R_alloc | apply Kd.R_drewN | apply Kd.R_drew)); exact HO366.out) (Kd.R_base ho23) hb)
        have n1_ := Aside0.mk (Kd.R_below (by (with_reducible repeat (first | apply Kd.R_alloc | apply Kd.R_drewN | apply Kd.R_drew)); exact HO370.out) hb)
        have n2_ := Aside0.mk (Kd.R_lower (Kd.R_newB (Kd.R_new' ho23 (Kd.R_lt (by (with_reducible repeat (first | apply Kd.R_alloc | apply Kd.R_drewN | apply Kd.R_drew)); exact HO366.out))) (g := gb360) (o := .cells #[.string a3_0, .int .i64 a3_1, .bool a3_2] 24 (0, 0)) (by (with_reducible repeat (first | refine blk_drewN ?_ _ | refine blk_drew ?_ | refine blk_alloc ?_ _)); exact BK360.out)) (below_size (by repeat (first | (with_reducible first | exact HB.out | apply below_alloc | apply pw_below_drewN | apply below_drew1 | refine below_set ?_ (IsS72.ge HI363.out) | refine below_set ?_ GE360.out | refine below_set ?_ GE373.out) | exact HB.out))))
        have n3_ := Aside0.mk (blk_below (g := gb360) (o := .cells #[.string a3_0, .int .i64 a3_1, .bool a3_2] 24 (0, 0)) (by (with_reducible repeat (first | refine blk_drewN ?_ _ | refine blk_drew ?_ | refine blk_alloc ?_ _)); exact BK360.out) hb)
        have n4_ := Aside0.mk (IsS72.below (by repeat (first | (with_reducible first | exact HI363.out | apply IsS72.alloc | apply IsS72.drewN | apply IsS72.drew | apply IsS72.set_0 | apply IsS72.set_1 | refine IsS72.far ?_ NB363_360.out _ | refine IsS72.far ?_ NB363_373.out _) | exact HI363.out)) hb)
        have n5_ := Aside0.mk (blk_below (g := gb373) (o := .cells #[.string t367, .slice Ao18 t368.length co18] 27 (0, 0)) (by (with_reducible repeat (first | refine blk_drewN ?_ _ | refine blk_drew ?_ | refine blk_alloc ?_ _)); exact BK373.out) hb)
        have n6_ := Aside0.mk (below_step (by repeat (first | (with_reducible first | exact HB.out | apply below_alloc | apply pw_below_drewN | apply below_drew1 | refine below_set ?_ (IsS72.ge HI363.out) | refine below_set ?_ GE360.out | refine below_set ?_ GE373.out) | exact HB.out)) hb)
        clear HO366
        clear HO370
        clear BK360
        clear HI363
        clear BK373
        clear HB
        have HO366 := n0_
        have HO370 := n1_
        have HO379 := n2_
        have BK360 := n3_
        have HI363 := n4_
        have BK373 := n5_
        have HB := n6_
        clear n0_ n1_ n2_ n3_ n4_ n5_ n6_
        clear hb ho23
        refine hK.out _ _ ⟨(blk_cell BK360.out 0).trans rfl, (blk_cell BK360.out 1).trans rfl, (blk_cell BK360.out 2).trans rfl⟩ (fun hHeld => ?_)
        clear hK K
        refine norm_ (a' := ?_) ?_ ?_
        rotate_left
        · show Act.put _ (some 38) _ = _
          simp only [Act.put, List.setIfInBounds_toArray, List.set_cons_zero, List.set_cons_succ, i64_w, i32_w]
          rfl
        refine one_ (i := 1) (N := some 36) #[true, true, true, true, false, false] rfl rfl (by kernel_rfl) (by decide) (fun K hK => ?_)
        refine goes_ Try.func15 (by kernel_rfl) rfl #[.slice Ao19 t364.length co19] (by rfl) rfl rfl (by (try simp only [List.map_toArray, List.map_cons, List.map_nil]); first | done | rfl | (simp only [List.length_drop, List.length_take]; rfl)) ?_
        with_reducible refine (cippuskit_CopyCopies.calls _ _ t364 t374 _ ?side1 ?side2 A8.out).mono ?_
        (case side1 => repeat (first | exact (Kd.R_reads' HO366.out).2.2 | (with_reducible refine Kd.C_alloc ?_ _) | (with_reducible refine Kd.C_drewN ?_ _) | (with_reducible refine Kd.C_drew ?_)))
        (case side2 => exact (Kd.R_reads' HO366.out).2.1)
        rintro e w24 ⟨v375, rfl, ho0, hb⟩
        refine ⟨_, rfl, ?_⟩
        have n0_ := Aside0.mk (Kd.R_elder' (by (with_reducible repeat (first | apply Kd.R_alloc | apply Kd.R_drewN | apply Kd.R_drew)); exact HO366.out) (Kd.R_base ho0) hb)
        have n1_ := Aside0.mk (Kd.R_below (by (with_reducible repeat (first | apply Kd.R_alloc | apply Kd.R_drewN | apply Kd.R_drew)); exact HO370.out) hb)
        have n2_ := Aside0.mk (Kd.R_elder' (by (with_reducible repeat (first | apply Kd.R_alloc | apply Kd.R_drewN | apply Kd.R_drew)); exact HO379.out) (Kd.R_base ho0) hb)
        have n3_ := Aside0.mk (Kd.R_lower (Kd.R_newB (Kd.R_new' (Kd.R_new' ho0 (Kd.R_lt (by (with_reducible repeat (first | apply Kd.R_alloc | apply Kd.R_drewN | apply Kd.R_drew)); exact HO366.out))) (Kd.R_lt (by (with_reducible repeat (first | apply Kd.R_alloc | apply Kd.R_drewN | apply Kd.R_drew)); exact HO379.out))) (g := gb360) (o := .cells #[.string a3_0, .int .i64 a3_1, .bool a3_2] 24 (0, 0)) (by (with_reducible repeat (first | refine blk_drewN ?_ _ | refine blk_drew ?_ | refine blk_alloc ?_ _)); exact BK360.out)) (below_size (by repeat (first | (with_reducible first | exact HB.out | apply below_alloc | apply pw_below_drewN | apply below_drew1 | refine below_set ?_ (IsS72.ge HI363.out) | refine below_set ?_ GE360.out | refine below_set ?_ GE373.out) | exact HB.out))))
        have n4_ := Aside0.mk (blk_below (g := gb360) (o := .cells #[.string a3_0, .int .i64 a3_1, .bool a3_2] 24 (0, 0)) (by (with_reducible repeat (first | refine blk_drewN ?_ _ | refine blk_drew ?_ | refine blk_alloc ?_ _)); exact BK360.out) hb)
        have n5_ := Aside0.mk (IsS72.below (by repeat (first | (with_reducible first | exact HI363.out | apply IsS72.alloc | apply IsS72.drewN | apply IsS72.drew | apply IsS72.set_0 | apply IsS72.set_1 | refine IsS72.far ?_ NB363_360.out _ | refine IsS72.far ?_ NB363_373.out _) | exact HI363.out)) hb)
        have n6_ := Aside0.mk (blk_below (g := gb373) (o := .cells #[.string t367, .slice Ao18 t368.length co18] 27 (0, 0)) (by (with_reducible repeat (first | refine blk_drewN ?_ _ | refine blk_drew ?_ | refine blk_alloc ?_ _)); exact BK373.out) hb)
        have n7_ := Aside0.mk (below_step (by repeat (first | (with_reducible first | exact HB.out | apply below_alloc | apply pw_below_drewN | apply below_drew1 | refine below_set ?_ (IsS72.ge HI363.out) | refine below_set ?_ GE360.out | refine below_set ?_ GE373.out) | exact HB.out)) hb)
        clear HO366
        clear HO370
        clear HO379
        clear BK360
        clear HI363
        clear BK373
        clear HB
        have HO366 := n0_
        have HO370 := n1_
        have HO379 := n2_
        have HO376 := n3_
        have BK360 := n4_
        have HI363 := n5_
        have BK373 := n6_
        have HB := n7_
        clear n0_ n1_ n2_ n3_ n4_ n5_ n6_ n7_
        (try clear hb)
        (try clear hb2)
        (try clear hk)
        (try clear hi)
        (try clear ho0)
        refine hK.out _ _ ⟨(blk_cell BK360.out 0).trans rfl, (blk_cell BK360.out 1).trans rfl, (blk_cell BK360.out 2).trans rfl⟩ (fun hHeld => ?_)
        clear hK K
        refine norm_ (a' := ?_) ?_ ?_
        rotate_left
        · show Act.put _ (some 36) _ = _
          simp only [Act.put, List.setIfInBounds_toArray, List.set_cons_zero, List.set_cons_succ, i64_w, i32_w]
          rfl
        exact norm_ (by simp only [putAll, Act.put, List.setIfInBounds_toArray, List.set_cons_zero, List.set_cons_succ]) (hCont (v375, v378) _ ⟨hHeld, (by (with_reducible repeat (first | apply Kd.R_alloc | apply Kd.R_drewN | apply Kd.R_drew)); exact Kd.R_mono HO366.out (fun _ hk => ⟨hk.2, ⟨hk.1.2, hk.1.1⟩⟩)), (by (with_reducible repeat (first | apply Kd.R_alloc | apply Kd.R_drewN | apply Kd.R_drew)); exact HO370.out), (by (with_reducible repeat (first | apply Kd.R_alloc | apply Kd.R_drewN | apply Kd.R_drew)); exact Kd.R_mono HO376.out (fun _ hk => ⟨hk.1.1.2, ⟨hk.1.2, hk.2⟩⟩)), (by (with_reducible repeat (first | apply Kd.R_alloc | apply Kd.R_drewN | apply Kd.R_drew)); exact Kd.R_mono HO379.out (fun _ hk => ⟨hk.1.1.2, ⟨hk.2, hk.1.2⟩⟩)), (by (with_reducible repeat (first | refine blk_drewN ?_ _ | refine blk_drew ?_ | refine blk_alloc ?_ _)); exact BK360.out), (by (with_reducible repeat (first | refine blk_drewN ?_ _ | refine blk_drew ?_ | refine blk_alloc ?_ _)); exact BK373.out), (by repeat (first | (with_reducible first | exact HI363.out | apply IsS72.alloc | apply IsS72.drewN | apply IsS72.drew | apply IsS72.set_0 | apply IsS72.set_1 | refine IsS72.far ?_ NB363_360.out _ | refine IsS72.far ?_ NB363_373.out _) | exact HI363.out)), (by repeat (first | (with_reducible first | exact HB.out | apply below_alloc | apply pw_below_drewN | apply below_drew1 | refine below_set ?_ (IsS72.ge HI363.out) | refine below_set ?_ GE360.out | refine below_set ?_ GE373.out) | exact HB.out))⟩)
    rintro ⟨v375, v378⟩ w25 ⟨hS_, h0_, h1_, h2_, h3_, h4_, h5_, h6_, h7_⟩
    have n0_ : Aside0 (Kd.R k24 24 w25 w.heap.size (fun k_ => some k_ ≠ (v375 : Value).ownBlock ∧ some k_ ≠ (v378 : Value).ownBlock ∧ k_ ≠ gb360) (.slice Ao19 t364.length co19) t364) := ⟨h0_⟩
    have n1_ : Aside0 (Kd.R (Kd.int .i64) 3 w25 w.heap.size (fun _ => True) (.slice Ao18 t368.length co18) t368) := ⟨h1_⟩
    have n2_ : Aside0 (Kd.R k24 24 w25 w.heap.size (fun k_ => some k_ ≠ (.slice Ao19 t364.length co19 : Value).ownBlock ∧ some k_ ≠ (v378 : Value).ownBlock ∧ k_ ≠ gb360) v375 t374) := ⟨h2_⟩
    have n3_ : Aside0 (Kd.R k24 24 w25 w.heap.size (fun k_ => some k_ ≠ (.slice Ao19 t364.length co19 : Value).ownBlock ∧ some k_ ≠ (v375 : Value).ownBlock ∧ k_ ≠ gb360) v378 y377) := ⟨h3_⟩
    have n4_ : Aside0 (w25.heap[gb360]? = some (.cells #[.string a3_0, .int .i64 a3_1, .bool a3_2] 24 (0, 0))) := ⟨h4_⟩
    have n5_ : Aside0 (w25.heap[gb373]? = some (.cells #[.string t367, .slice Ao18 t368.length co18] 27 (0, 0))) := ⟨h5_⟩
    have n6_ : Aside0 (IsS72 w w25 g363 t371 t372) := ⟨h6_⟩
    have n7_ : Aside0 (Below w.heap.size w w25) := ⟨h7_⟩
    clear HO366
    clear HO370
    clear BK360
    clear BK373
    clear HI363
    clear HB
    clear h0_ h1_ h2_ h3_ h4_ h5_ h6_ h7_
    have HO366 := n0_
    have HO370 := n1_
    have HO376 := n2_
    have HO379 := n3_
    have BK360 := n4_
    have BK373 := n5_
    have HI363 := n6_
    have HB := n7_
    clear n0_ n1_ n2_ n3_ n4_ n5_ n6_ n7_
    have hHeld : w25.cell? ⟨gb360, 0, none⟩ = some (.string a3_0) ∧ w25.cell? ⟨gb360, 1, none⟩ = some (.int .i64 a3_1) ∧ w25.cell? ⟨gb360, 2, none⟩ = some (.bool a3_2) := hS_
    obtain ⟨Ao27, co27, eo27⟩ := Kd.R_slice HO379.out
    (first | subst eo27 | (injection eo27 with f1_ f2_ f3_; have f4_ := f1_.symm; have f5_ := f3_.symm; clear f1_ f2_ f3_; subst f4_; subst f5_))
    refine norm_ (a' := ?_) ?_ ?_
    rotate_left
    · simp only [putAll, Act.put, List.setIfInBounds_toArray, List.set_cons_zero, List.set_cons_succ]
      rfl
    refine one_ (i := 4) (N := some 39) #[true, true, true, true, true, false] rfl rfl (by kernel_rfl) (by decide) (fun K hK => ?_)
    refine Kd.R_append_rows_step k24 (w0 := w) w.heap.size (by rfl) (.tmp 36) (.tmp 38) 22 24 (.agg #[(.string ⟨#[]⟩), (.int .i64 0), (.bool false)]) 32 rfl Try.underlying22 info24 rfl (by decide) (by omega) v375 t374 y377 _ _ _ (fun k_ => some k_ ≠ (.slice Ao19 t364.length co19 : Value).ownBlock ∧ some k_ ≠ (.slice Ao27 y377.length co27 : Value).ownBlock ∧ k_ ≠ gb360) (fun _ => False) rfl rfl ?aO ?aR (fun _ _ h => h) (fun _ h => h.elim) ?aF ?aB ?aS ?aL ?_
    (case aR => repeat (first | exact (Kd.R_reads' HO379.out).2.2 | (with_reducible refine Kd.C_alloc ?_ _) | (with_reducible refine Kd.C_drewN ?_ _) | (with_reducible refine Kd.C_drew ?_)))
    (case aB => exact (by repeat (first | (with_reducible first | exact HB.out | apply below_alloc | apply pw_below_drewN | apply below_drew1 | refine below_set ?_ (IsS72.ge HI363.out) | refine below_set ?_ GE360.out | refine below_set ?_ GE373.out) | exact HB.out)))
    (case aF => exact (fun k_ hk => ⟨Kd.fresh' (Kd.R_lt (by (with_reducible repeat (first | apply Kd.R_alloc | apply Kd.R_drewN | apply Kd.R_drew)); exact HO366.out)) k_ hk, Kd.fresh' (Kd.R_lt (by (with_reducible repeat (first | apply Kd.R_alloc | apply Kd.R_drewN | apply Kd.R_drew)); exact HO379.out)) k_ hk, Kd.freshB (g := gb360) (o := .cells #[.string a3_0, .int .i64 a3_1, .bool a3_2] 24 (0, 0)) (by (with_reducible repeat (first | refine blk_drewN ?_ _ | refine blk_drew ?_ | refine blk_alloc ?_ _)); exact BK360.out) k_ hk⟩))
    (case aO => exact (by (with_reducible repeat (first | apply Kd.R_alloc | apply Kd.R_drewN | apply Kd.R_drew)); exact HO376.out))
    (case aS => exact (below_size (by repeat (first | (with_reducible first | exact HB.out | apply below_alloc | apply pw_below_drewN | apply below_drew1 | refine below_set ?_ (IsS72.ge HI363.out) | refine below_set ?_ GE360.out | refine below_set ?_ GE373.out) | exact HB.out))))
    (case aL => have := LMc9.out; omega)
    intro v381 w26 ho hb hg hat
    rw [← Ny380.out] at ho
    have n0_ := Aside0.mk (blk_grown (g := gb360) (o := .cells #[.string a3_0, .int .i64 a3_1, .bool a3_2] 24 (0, 0)) (by (with_reducible repeat (first | refine blk_drewN ?_ _ | refine blk_drew ?_ | refine blk_alloc ?_ _)); exact BK360.out) hg (Kd.R_away HO376.out (fun _ hk => hk.2.2)))
    have n1_ := Aside0.mk (IsS72.grown (by repeat (first | (with_reducible first | exact HI363.out | apply IsS72.alloc | apply IsS72.drewN | apply IsS72.drew | apply IsS72.set_0 | apply IsS72.set_1 | refine IsS72.far ?_ NB363_360.out _ | refine IsS72.far ?_ NB363_373.out _) | exact HI363.out)) hg (IsS72.own_ne HI363.out HO376.out (by decide)))
    have n2_ := Aside0.mk (Kd.R_after (ok := (fun k_ => some k_ ≠ (.slice Ao27 y377.length co27 : Value).ownBlock ∧ k_ ≠ gb360)) (by (with_reducible repeat (first | apply Kd.R_alloc | apply Kd.R_drewN | apply Kd.R_drew)); exact Kd.R_mono HO366.out (fun _ hk => ⟨⟨hk.2.1, hk.2.2⟩, hk.1⟩)) hg hat)
    have n3_ := Aside0.mk (Kd.R_over' (by (with_reducible repeat (first | apply Kd.R_alloc | apply Kd.R_drewN | apply Kd.R_drew)); exact HO370.out) (Kd.R_typed (by (with_reducible repeat (first | apply Kd.R_alloc | apply Kd.R_drewN | apply Kd.R_drew)); exact HO376.out)) (by decide) hg)
    have n4_ := Aside0.mk (blk_grown (g := gb373) (o := .cells #[.string t367, .slice Ao18 t368.length co18] 27 (0, 0)) (by (with_reducible repeat (first | refine blk_drewN ?_ _ | refine blk_drew ?_ | refine blk_alloc ?_ _)); exact BK373.out) hg (Kd.R_ne HO376.out BK373.out (by decide)))
    have n5_ := Aside0.mk (Kd.R_after (ok := (fun k_ => some k_ ≠ (.slice Ao19 t364.length co19 : Value).ownBlock ∧ k_ ≠ gb360)) (by (with_reducible repeat (first | apply Kd.R_alloc | apply Kd.R_drewN | apply Kd.R_drew)); exact Kd.R_mono HO379.out (fun _ hk => ⟨⟨hk.1, hk.2.2⟩, hk.2.1⟩)) hg hat)
    have n6_ := Aside0.mk (hb)
    have n7_ := Aside0.mk (ho)
    clear BK360
    clear HI363
    clear HO366
    clear HO370
    clear BK373
    clear HO379
    clear HB
    clear HO376
    have BK360 := n0_
    have HI363 := n1_
    have HO366 := n2_
    have HO370 := n3_
    have BK373 := n4_
    have HO379 := n5_
    have HB := n6_
    have HO382 := n7_
    clear n0_ n1_ n2_ n3_ n4_ n5_ n6_ n7_
    clear ho hb hg hat
    refine hK.out _ _ ⟨(blk_cell BK360.out 0).trans rfl, (blk_cell BK360.out 1).trans rfl, (blk_cell BK360.out 2).trans rfl⟩ (fun hHeld => ?_)
    clear hK K
    refine norm_ (a' := ?_) ?_ ?_
    rotate_left
    · show Act.put _ (some 39) _ = _
      simp only [Act.put, List.setIfInBounds_toArray, List.set_cons_zero, List.set_cons_succ, i64_w, i32_w]
      rfl
    refine pure_ (i := 5) (N := some 14) (v := ?_) (a' := ?_) #[true, true, true, true, true, true] rfl rfl (by kernel_rfl) (fun _ _ _ h => h) (Or.inl ⟨by rfl, ?_⟩) ?_ ?_
    rotate_left
    · intro w'
      go_simp
      with_reducible rfl
    rotate_left
    · simp only [Act.put, List.setIfInBounds_toArray, List.set_cons_zero, List.set_cons_succ, i64_w, i32_w]
      rfl
    refine done_ (by kernel_rfl) ?_
    go_upto_region 4 with (fail)
    go_cut [45] (fun v45 wc => ∃ (kq : Nat) (x45_9 : Bool), v45 = .bool x45_9 ∧ Aside0 (cippuslaw07_StemmaSources.j0 kq l0 a1 a2 t364 y380 x45_9 t371 t372 = some r) ∧ Aside0 (kq ≤ k) ∧ Aside0 (Kd.R k24 24 wc w.heap.size (fun k_ => some k_ ≠ (v381 : Value).ownBlock ∧ k_ ≠ gb360) (.slice Ao19 t364.length co19) t364) ∧ Aside0 (Kd.R k24 24 wc w.heap.size (fun k_ => some k_ ≠ ((.slice Ao19 t364.length co19) : Value).ownBlock ∧ k_ ≠ gb360) v381 y380) ∧ Aside0 (Kd.R (Kd.int .i64) 3 wc w.heap.size (fun _ => True) (.slice Ao18 t368.length co18) t368) ∧ Aside0 (wc.heap[gb360]? = some (.cells #[.string a3_0, .int .i64 a3_1, .bool a3_2] 24 (0, 0))) ∧ Aside0 (wc.heap[gb373]? = some (.cells #[.string t367, (.slice Ao18 t368.length co18)] 27 (0, 0))) ∧ Aside0 (IsS72 w wc g363 t371 t372) ∧ Aside0 (Below w.heap.size w wc))
    case first =>
      have H := HC10.out
      clear HC10
      replace H := Option.bind_eq_some_iff.mp H
      obtain ⟨t383, A280, H⟩ := H
      replace H : (if t383 = true then (cippuslaw07_StemmaSources.j0 k l0 a1 a2 t364 y380 true t371 t372) else ((cippuslaw07_large.f k y380).bind fun t384 => (cippuslaw07_StemmaSources.j0 k l0 a1 a2 t364 y380 t384 t371 t372))) = some r := H
      have A28 := Aside0.mk A280
      clear A280
      by_cases c29 : t383 = true
      · subst c29
        have H1 : (cippuslaw07_StemmaSources.j0 k l0 a1 a2 t364 y380 true t371 t372) = some r := by rw [if_pos rfl] at H; exact H
        clear H
        have H := H1
        clear H1
        have H' := Aside0.mk H
        clear H
        go_wp2_with (first | ((with_reducible refine gate_callee (f := 16) rfl ?_); refine goesL_ (some 41) rfl rfl Try.func16 (by kernel_rfl) rfl #[.slice A0 l0.length c0] rfl (by (try simp only [List.map_toArray, List.map_cons, List.map_nil]); first | done | rfl | (simp only [List.length_drop, List.length_take]; rfl)) ?_; (with_reducible refine (cippuslaw07_large.calls k _ _ l0 true _ ?side1 ?side2 A28.out).mono ?_); (case side1 => repeat (first | exact (Kd.C_below HR0.out HB.out) | (with_reducible refine Kd.C_alloc ?_ _) | (with_reducible refine Kd.C_drewN ?_ _) | (with_reducible refine Kd.C_drew ?_))); (case side2 => exact HC0.out); rintro e w30 ⟨rfl, hb⟩; refine ⟨_, rfl, ?_⟩; have n0_ := Aside0.mk (Kd.R_below (by (with_reducible repeat (first | apply Kd.R_alloc | apply Kd.R_drewN | apply Kd.R_drew)); exact HO366.out) hb); have n1_ := Aside0.mk (Kd.R_below (by (with_reducible repeat (first | apply Kd.R_alloc | apply Kd.R_drewN | apply Kd.R_drew)); exact HO370.out) hb); have n2_ := Aside0.mk (Kd.R_below (by (with_reducible repeat (first | apply Kd.R_alloc | apply Kd.R_drewN | apply Kd.R_drew)); exact HO379.out) hb); have n3_ := Aside0.mk (Kd.R_below (by (with_reducible repeat (first | apply Kd.R_alloc | apply Kd.R_drewN | apply Kd.R_drew)); exact HO382.out) hb); have n4_ := Aside0.mk (blk_below (g := gb360) (o := .cells #[.string a3_0, .int .i64 a3_1, .bool a3_2] 24 (0, 0)) (by (with_reducible repeat (first | refine blk_drewN ?_ _ | refine blk_drew ?_ | refine blk_alloc ?_ _)); exact BK360.out) hb); have n5_ := Aside0.mk (IsS72.below (by repeat (first | (with_reducible first | exact HI363.out | apply IsS72.alloc | apply IsS72.drewN | apply IsS72.drew | apply IsS72.set_0 | apply IsS72.set_1 | refine IsS72.far ?_ NB363_360.out _ | refine IsS72.far ?_ NB363_373.out _) | exact HI363.out)) hb); have n6_ := Aside0.mk (blk_below (g := gb373) (o := .cells #[.string t367, .slice Ao18 t368.length co18] 27 (0, 0)) (by (with_reducible repeat (first | refine blk_drewN ?_ _ | refine blk_drew ?_ | refine blk_alloc ?_ _)); exact BK373.out) hb); have n7_ := Aside0.mk (below_step (by repeat (first | (with_reducible first | exact HB.out | apply below_alloc | apply pw_below_drewN | apply below_drew1 | refine below_set ?_ (IsS72.ge HI363.out) | refine below_set ?_ GE360.out | refine below_set ?_ GE373.out) | exact HB.out)) hb); clear HO366; clear HO370; clear HO379; clear HO382; clear BK360; clear HI363; clear BK373; clear HB; have HO366 := n0_; have HO370 := n1_; have HO379 := n2_; have HO382 := n3_; have BK360 := n4_; have HI363 := n5_; have BK373 := n6_; have HB := n7_; clear n0_ n1_ n2_ n3_ n4_ n5_ n6_ n7_; (try clear hb); (try clear hb2); (try clear hk); (try clear hi)))
        go_meet
        case rel => exact ⟨_, (true), (by first | rfl | (simp; done) | (simp [*]; done)), H', ⟨by first | omega | exact Nat.le_refl _⟩, ⟨by (with_reducible repeat (first | apply Kd.R_alloc | apply Kd.R_drewN | apply Kd.R_drew)); exact Kd.R_mono HO366.out (fun _ hk => ⟨hk.2, hk.1.2⟩)⟩, ⟨by (with_reducible repeat (first | apply Kd.R_alloc | apply Kd.R_drewN | apply Kd.R_drew)); exact Kd.R_mono HO382.out (fun _ hk => ⟨hk.1, hk.2.2⟩)⟩, ⟨by (with_reducible repeat (first | apply Kd.R_alloc | apply Kd.R_drewN | apply Kd.R_drew)); exact HO370.out⟩, ⟨by (with_reducible repeat (first | refine blk_drewN ?_ _ | refine blk_drew ?_ | refine blk_alloc ?_ _)); exact BK360.out⟩, ⟨by (with_reducible repeat (first | refine blk_drewN ?_ _ | refine blk_drew ?_ | refine blk_alloc ?_ _)); exact BK373.out⟩, ⟨by repeat (first | (with_reducible first | exact HI363.out | apply IsS72.alloc | apply IsS72.drewN | apply IsS72.drew | apply IsS72.set_0 | apply IsS72.set_1 | refine IsS72.far ?_ NB363_360.out _ | refine IsS72.far ?_ NB363_373.out _) | exact HI363.out)⟩, ⟨by repeat (first | (with_reducible first | exact HB.out | apply below_alloc | apply pw_below_drewN | apply below_drew1 | refine below_set ?_ (IsS72.ge HI363.out) | refine below_set ?_ GE360.out | refine below_set ?_ GE373.out) | exact HB.out)⟩⟩
      · replace c29 := Bool.eq_false_iff.mpr c29
        subst c29
        have H1 : ((cippuslaw07_large.f k y380).bind fun t384 => (cippuslaw07_StemmaSources.j0 k l0 a1 a2 t364 y380 t384 t371 t372)) = some r := by rw [if_neg (show ¬ (false = true) by decide)] at H; exact H
        clear H
        have H := H1
        clear H1
        replace H := Option.bind_eq_some_iff.mp H
        obtain ⟨t384, A310, H⟩ := H
        replace H : (cippuslaw07_StemmaSources.j0 k l0 a1 a2 t364 y380 t384 t371 t372) = some r := H
        have A31 := Aside0.mk A310
        clear A310
        have H' := Aside0.mk H
        clear H
        go_wp2_with (first | ((with_reducible refine gate_callee (f := 16) rfl ?_); refine goesL_ (some 41) rfl rfl Try.func16 (by kernel_rfl) rfl #[.slice A0 l0.length c0] rfl (by (try simp only [List.map_toArray, List.map_cons, List.map_nil]); first | done | rfl | (simp only [List.length_drop, List.length_take]; rfl)) ?_; (with_reducible refine (cippuslaw07_large.calls k _ _ l0 false _ ?side1 ?side2 A28.out).mono ?_); (case side1 => repeat (first | exact (Kd.C_below HR0.out HB.out) | (with_reducible refine Kd.C_alloc ?_ _) | (with_reducible refine Kd.C_drewN ?_ _) | (with_reducible refine Kd.C_drew ?_))); (case side2 => exact HC0.out); rintro e w32 ⟨rfl, hb⟩; refine ⟨_, rfl, ?_⟩; have n0_ := Aside0.mk (Kd.R_below (by (with_reducible repeat (first | apply Kd.R_alloc | apply Kd.R_drewN | apply Kd.R_drew)); exact HO366.out) hb); have n1_ := Aside0.mk (Kd.R_below (by (with_reducible repeat (first | apply Kd.R_alloc | apply Kd.R_drewN | apply Kd.R_drew)); exact HO370.out) hb); have n2_ := Aside0.mk (Kd.R_below (by (with_reducible repeat (first | apply Kd.R_alloc | apply Kd.R_drewN | apply Kd.R_drew)); exact HO379.out) hb); have n3_ := Aside0.mk (Kd.R_below (by (with_reducible repeat (first | apply Kd.R_alloc | apply Kd.R_drewN | apply Kd.R_drew)); exact HO382.out) hb); have n4_ := Aside0.mk (blk_below (g := gb360) (o := .cells #[.string a3_0, .int .i64 a3_1, .bool a3_2] 24 (0, 0)) (by (with_reducible repeat (first | refine blk_drewN ?_ _ | refine blk_drew ?_ | refine blk_alloc ?_ _)); exact BK360.out) hb); have n5_ := Aside0.mk (IsS72.below (by repeat (first | (with_reducible first | exact HI363.out | apply IsS72.alloc | apply IsS72.drewN | apply IsS72.drew | apply IsS72.set_0 | apply IsS72.set_1 | refine IsS72.far ?_ NB363_360.out _ | refine IsS72.far ?_ NB363_373.out _) | exact HI363.out)) hb); have n6_ := Aside0.mk (blk_below (g := gb373) (o := .cells #[.string t367, .slice Ao18 t368.length co18] 27 (0, 0)) (by (with_reducible repeat (first | refine blk_drewN ?_ _ | refine blk_drew ?_ | refine blk_alloc ?_ _)); exact BK373.out) hb); have n7_ := Aside0.mk (below_step (by repeat (first | (with_reducible first | exact HB.out | apply below_alloc | apply pw_below_drewN | apply below_drew1 | refine below_set ?_ (IsS72.ge HI363.out) | refine below_set ?_ GE360.out | refine below_set ?_ GE373.out) | exact HB.out)) hb); clear HO366; clear HO370; clear HO379; clear HO382; clear BK360; clear HI363; clear BK373; clear HB; have HO366 := n0_; have HO370 := n1_; have HO379 := n2_; have HO382 := n3_; have BK360 := n4_; have HI363 := n5_; have BK373 := n6_; have HB := n7_; clear n0_ n1_ n2_ n3_ n4_ n5_ n6_ n7_; (try clear hb); (try clear hb2); (try clear hk); (try clear hi); obtain ⟨Ao33, co33, eo33⟩ := Kd.R_slice HO382.out; subst eo33) | (go_at_call 16; (with_reducible refine (cippuslaw07_large.calls k _ _ y380 t384 _ ?side1 ?side2 A31.out).mono ?_); (case side1 => repeat (first | exact (Kd.R_reads' HO382.out).2.2 | (with_reducible refine Kd.C_alloc ?_ _) | (with_reducible refine Kd.C_drewN ?_ _) | (with_reducible refine Kd.C_drew ?_))); (case side2 => exact (Kd.R_reads' HO382.out).2.1); rintro e w34 ⟨rfl, hb⟩; have n0_ := Aside0.mk (Kd.R_below (by (with_reducible repeat (first | apply Kd.R_alloc | apply Kd.R_drewN | apply Kd.R_drew)); exact HO366.out) hb); have n1_ := Aside0.mk (Kd.R_below (by (with_reducible repeat (first | apply Kd.R_alloc | apply Kd.R_drewN | apply Kd.R_drew)); exact HO370.out) hb); have n2_ := Aside0.mk (Kd.R_below (by (with_reducible repeat (first | apply Kd.R_alloc | apply Kd.R_drewN | apply Kd.R_drew)); exact HO379.out) hb); have n3_ := Aside0.mk (Kd.R_below (by (with_reducible repeat (first | apply Kd.R_alloc | apply Kd.R_drewN | apply Kd.R_drew)); exact HO382.out) hb); have n4_ := Aside0.mk (blk_below (g := gb360) (o := .cells #[.string a3_0, .int .i64 a3_1, .bool a3_2] 24 (0, 0)) (by (with_reducible repeat (first | refine blk_drewN ?_ _ | refine blk_drew ?_ | refine blk_alloc ?_ _)); exact BK360.out) hb); have n5_ := Aside0.mk (IsS72.below (by repeat (first | (with_reducible first | exact HI363.out | apply IsS72.alloc | apply IsS72.drewN | apply IsS72.drew | apply IsS72.set_0 | apply IsS72.set_1 | refine IsS72.far ?_ NB363_360.out _ | refine IsS72.far ?_ NB363_373.out _) | exact HI363.out)) hb); have n6_ := Aside0.mk (blk_below (g := gb373) (o := .cells #[.string t367, .slice Ao18 t368.length co18] 27 (0, 0)) (by (with_reducible repeat (first | refine blk_drewN ?_ _ | refine blk_drew ?_ | refine blk_alloc ?_ _)); exact BK373.out) hb); have n7_ := Aside0.mk (below_step (by repeat (first | (with_reducible first | exact HB.out | apply below_alloc | apply pw_below_drewN | apply below_drew1 | refine below_set ?_ (IsS72.ge HI363.out) | refine below_set ?_ GE360.out | refine below_set ?_ GE373.out) | exact HB.out)) hb); clear HO366; clear HO370; clear HO379; clear HO382; clear BK360; clear HI363; clear BK373; clear HB; have HO366 := n0_; have HO370 := n1_; have HO379 := n2_; have HO382 := n3_; have BK360 := n4_; have HI363 := n5_; have BK373 := n6_; have HB := n7_; clear n0_ n1_ n2_ n3_ n4_ n5_ n6_ n7_; (try clear hb); (try clear hb2); (try clear hk); (try clear hi)))
        go_meet
        case rel => exact ⟨_, (t384), (by first | rfl | (simp; done) | (simp [*]; done)), H', ⟨by first | omega | exact Nat.le_refl _⟩, ⟨by (with_reducible repeat (first | apply Kd.R_alloc | apply Kd.R_drewN | apply Kd.R_drew)); exact Kd.R_mono HO366.out (fun _ hk => ⟨hk.2, hk.1.2⟩)⟩, ⟨by (with_reducible repeat (first | apply Kd.R_alloc | apply Kd.R_drewN | apply Kd.R_drew)); exact Kd.R_mono HO382.out (fun _ hk => ⟨hk.1, hk.2.2⟩)⟩, ⟨by (with_reducible repeat (first | apply Kd.R_alloc | apply Kd.R_drewN | apply Kd.R_drew)); exact HO370.out⟩, ⟨by (with_reducible repeat (first | refine blk_drewN ?_ _ | refine blk_drew ?_ | refine blk_alloc ?_ _)); exact BK360.out⟩, ⟨by (with_reducible repeat (first | refine blk_drewN ?_ _ | refine blk_drew ?_ | refine blk_alloc ?_ _)); exact BK373.out⟩, ⟨by repeat (first | (with_reducible first | exact HI363.out | apply IsS72.alloc | apply IsS72.drewN | apply IsS72.drew | apply IsS72.set_0 | apply IsS72.set_1 | refine IsS72.far ?_ NB363_360.out _ | refine IsS72.far ?_ NB363_373.out _) | exact HI363.out)⟩, ⟨by repeat (first | (with_reducible first | exact HB.out | apply below_alloc | apply pw_below_drewN | apply below_drew1 | refine below_set ?_ (IsS72.ge HI363.out) | refine below_set ?_ GE360.out | refine below_set ?_ GE373.out) | exact HB.out)⟩⟩
    case rest =>
      clear HC10
      try clear c1
      try clear c2
      try clear p2
      try clear c3
      try clear c4
      try clear c9
      try clear c10
      try clear c13
      try clear c14
      try clear c15
      try clear c16
      try clear c29
      try clear hcz17_0
      try clear hcz17_1
      try clear hfz17_0
      try clear hfz17_1
      obtain ⟨kq, x45_9, rfl, HA, HJ9, HO_12, HO_14, HO_374001, BK360, BK373, HI363, HB⟩ := hcut
      cases kq with
      | zero => exact absurd HA.out (by simp [cippuslaw07_StemmaSources.j0])
      | succ kj9 =>
        have H := HA.out
        clear HA
        simp only [cippuslaw07_StemmaSources.j0] at H
        by_cases c35 : x45_9 = true
        · subst c35
          have H1 : ((cippuslaw07_found.f kj9).bind fun t385 => (some t385)) = some r := by rw [if_pos rfl] at H; exact H
          clear H
          have H := H1
          clear H1
          replace H := Option.bind_eq_some_iff.mp H
          obtain ⟨t385, A360, H⟩ := H
          replace H : (some t385) = some r := H
          have A36 := Aside0.mk A360
          clear A360
          obtain rfl := Option.some.inj H
          go_wp2_with (first | ((with_reducible refine gate_callee (f := 17) rfl ?_); refine goesL_ (some 46) rfl rfl Try.func17 (by kernel_rfl) rfl #[] rfl (by (try simp only [List.map_toArray, List.map_cons, List.map_nil]); first | done | rfl | (simp only [List.length_drop, List.length_take]; rfl)) ?_; (with_reducible refine (cippuslaw07_found.calls kj9  t385 _ A36.out).mono ?_); rintro e w37 ⟨rfl, hb⟩; refine ⟨_, rfl, ?_⟩; have n0_ := Aside0.mk (Kd.R_below (by (with_reducible repeat (first | apply Kd.R_alloc | apply Kd.R_drewN | apply Kd.R_drew)); exact HO_12.out) hb); have n1_ := Aside0.mk (Kd.R_below (by (with_reducible repeat (first | apply Kd.R_alloc | apply Kd.R_drewN | apply Kd.R_drew)); exact HO_14.out) hb); have n2_ := Aside0.mk (Kd.R_below (by (with_reducible repeat (first | apply Kd.R_alloc | apply Kd.R_drewN | apply Kd.R_drew)); exact HO_374001.out) hb); have n3_ := Aside0.mk (blk_below (g := gb360) (o := .cells #[.string a3_0, .int .i64 a3_1, .bool a3_2] 24 (0, 0)) (by (with_reducible repeat (first | refine blk_drewN ?_ _ | refine blk_drew ?_ | refine blk_alloc ?_ _)); exact BK360.out) hb); have n4_ := Aside0.mk (blk_below (g := gb373) (o := .cells #[.string t367, .slice Ao18 t368.length co18] 27 (0, 0)) (by (with_reducible repeat (first | refine blk_drewN ?_ _ | refine blk_drew ?_ | refine blk_alloc ?_ _)); exact BK373.out) hb); have n5_ := Aside0.mk (IsS72.below (by repeat (first | (with_reducible first | exact HI363.out | apply IsS72.alloc | apply IsS72.drewN | apply IsS72.drew | apply IsS72.set_0 | apply IsS72.set_1 | refine IsS72.far ?_ NB363_360.out _ | refine IsS72.far ?_ NB363_373.out _) | exact HI363.out)) hb); have n6_ := Aside0.mk (below_step (by repeat (first | (with_reducible first | exact HB.out | apply below_alloc | apply pw_below_drewN | apply below_drew1 | refine below_set ?_ (IsS72.ge HI363.out) | refine below_set ?_ GE360.out | refine below_set ?_ GE373.out) | exact HB.out)) hb); clear HO_12; clear HO_14; clear HO_374001; clear BK360; clear BK373; clear HI363; clear HB; have HO_12 := n0_; have HO_14 := n1_; have HO_374001 := n2_; have BK360 := n3_; have BK373 := n4_; have HI363 := n5_; have HB := n6_; clear n0_ n1_ n2_ n3_ n4_ n5_ n6_; (try clear hb); (try clear hb2); (try clear hk); (try clear hi)))
          go_ret
          exact ⟨by first | rfl | (simp [errW_none, errW_some] <;> rfl) | (simp [*, errW_none, errW_some] <;> rfl), by repeat (first | (with_reducible first | exact HB.out | apply below_alloc | apply pw_below_drewN | apply below_drew1 | refine below_set ?_ (IsS72.ge HI363.out) | refine below_set ?_ GE360.out | refine below_set ?_ GE373.out) | exact HB.out)⟩
        · replace c35 := Bool.eq_false_iff.mpr c35
          subst c35
          have H1 : ((cippuslaw07_every10.f t371 t372 l0 t364 y380 a1 a2).bind fun bt386 => ((cippuslaw07_found.f kj9).bind fun t389 => (some t389))) = some r := by rw [if_neg (show ¬ (false = true) by decide)] at H; exact H
          clear H
          have H := H1
          clear H1
          replace H := Option.bind_eq_some_iff.mp H
          obtain ⟨⟨t386, t387, t388⟩, A380, H⟩ := H
          replace H : ((cippuslaw07_found.f kj9).bind fun t389 => (some t389)) = some r := H
          have A38 := Aside0.mk A380
          clear A380
          replace H := Option.bind_eq_some_iff.mp H
          obtain ⟨t389, A390, H⟩ := H
          replace H : (some t389) = some r := H
          have A39 := Aside0.mk A390
          clear A390
          obtain rfl := Option.some.inj H
          obtain ⟨Ao40, co40, eo40⟩ := Kd.R_slice HO_14.out
          subst eo40
          obtain ⟨hN0, hN1, hN2⟩ := Pure.every10_some A38.out
          have hle : (t364.length : Int) ≤ 1000 := by omega
          have hgn : wc.heap.size ≠ g363 := fun h_ => by have h2_ := blk_lt HI363.out.1; omega
          obtain ⟨sa, sb, HI⟩ : ∃ sa sb, Aside0 (IsS72 w wc g363 sa sb) := ⟨_, _, HI363⟩
          go_upto_block 0 with (first | (go_at_call 28; have hm_ := BKb.out; clear hm_; obtain ⟨v3, sa, sb, e_, _, _⟩ := up_ok sa sb (t364.length : Int) hle; (with_reducible refine (cippuskit_Urn_Up.calls g363 _ _ _ v3 sa sb w _ ?side1 ?side2 e_).mono ?_); (case side1 => repeat (first | (with_reducible first | exact HI.out | apply IsS72.alloc | apply IsS72.drewN | apply IsS72.drew) | exact HI.out)); (case side2 => repeat (first | (with_reducible first | exact HB.out | apply below_alloc | apply pw_below_drewN | apply below_drew1) | exact HB.out)); rintro e wd ⟨rfl, hi, hb, hk⟩; have n0_ := Aside0.mk (KeepBut.trans HK.out hk (.inl rfl)); have n1_ := Aside0.mk (KeepBut.blk hk (g' := wc.heap.size) (o := .cells #[Value.slice A0 l0.length c0, Value.slice Ao19 t364.length co19, Value.slice Ao40 y380.length co40, Value.slice Ao19 t364.length co19] 22) (by exact BKa.out) hgn (by simp)); have n2_ := Aside0.mk (KeepBut.blk hk (g' := wa.heap.size) (o := .cells #[Value.int .i64 a1, Value.int .i64 v1, Value.int .i64 a1, Value.int .i64 a1] 3) BKb.out hgb (by simp)); have n5_ := Aside0.mk hb; have n6_ := Aside0.mk hi; clear HB HI HK BKa BKb e_ hb hi hk; have HK := n0_; have BKa := n1_; have BKb := n2_; have HB := n5_; have HI := n6_; clear n0_ n1_ n2_ n5_ n6_) | (go_at_call 28; have hm_ := BKa.out; clear hm_; obtain ⟨v2, sa, sb, e_, _, _⟩ := up_ok sa sb (t364.length : Int) hle; (with_reducible refine (cippuskit_Urn_Up.calls g363 _ _ _ v2 sa sb w _ ?side1 ?side2 e_).mono ?_); (case side1 => repeat (first | (with_reducible first | exact HI.out | apply IsS72.alloc | apply IsS72.drewN | apply IsS72.drew) | exact HI.out)); (case side2 => repeat (first | (with_reducible first | exact HB.out | apply below_alloc | apply pw_below_drewN | apply below_drew1) | exact HB.out)); rintro e wb ⟨rfl, hi, hb, hk⟩; have n0_ := Aside0.mk (KeepBut.trans (keep_alloc HK.out _) hk (.inl rfl)); have n1_ := Aside0.mk (KeepBut.blk hk (g' := wc.heap.size) (o := .cells #[Value.slice A0 l0.length c0, Value.slice Ao19 t364.length co19, Value.slice Ao40 y380.length co40, Value.slice Ao19 t364.length co19] 22) (by exact blk_alloc BKa.out _) hgn (by simp)); have hgb : wa.heap.size ≠ g363 := (fun h_ => by (have h2_ := blk_lt HI.out.1; omega)); have n2_ := Aside0.mk (KeepBut.blk hk (g' := wa.heap.size) (o := .cells #[Value.int .i64 a1, Value.int .i64 v1, Value.int .i64 a1, Value.int .i64 a1] 3) (by exact blk_new _ _) hgb (by simp)); have n5_ := Aside0.mk hb; have n6_ := Aside0.mk hi; clear HB HI HK BKa e_ hb hi hk; have HK := n0_; have BKa := n1_; have BKb := n2_; have HB := n5_; have HI := n6_; clear n0_ n1_ n2_ n5_ n6_) | (go_at_call 28; obtain ⟨v1, sa, sb, e_, _, _⟩ := up_ok sa sb (t364.length : Int) hle; (with_reducible refine (cippuskit_Urn_Up.calls g363 _ _ _ v1 sa sb w _ ?side1 ?side2 e_).mono ?_); (case side1 => repeat (first | (with_reducible first | exact HI.out | apply IsS72.alloc | apply IsS72.drewN | apply IsS72.drew) | exact HI.out)); (case side2 => repeat (first | (with_reducible first | exact HB.out | apply below_alloc | apply pw_below_drewN | apply below_drew1) | exact HB.out)); rintro e wa ⟨rfl, hi, hb, hk⟩; have n0_ := Aside0.mk (KeepBut.trans (keep_alloc (KeepBut.refl wc g363 none) _) hk (.inl rfl)); have n1_ := Aside0.mk (KeepBut.blk hk (g' := wc.heap.size) (o := .cells #[Value.slice A0 l0.length c0, Value.slice Ao19 t364.length co19, Value.slice Ao40 y380.length co40, Value.slice Ao19 t364.length co19] 22) (by exact blk_new _ _) hgn (by simp)); have n5_ := Aside0.mk hb; have n6_ := Aside0.mk hi; clear HB HI e_ hb hi hk; have HK := n0_; have BKa := n1_; have HB := n5_; have HI := n6_; clear n0_ n1_ n5_ n6_))
          obtain ⟨ls, hls⟩ : ∃ ls : List (List S24), ls = [l0, t364, y380, t364] := ⟨_, rfl⟩
          obtain ⟨la, hla⟩ : ∃ la : List Int, la = [a1, v1, a1, a1] := ⟨_, rfl⟩
          obtain ⟨lb, hlb⟩ : ∃ lb : List Int, lb = [a2, v2, v3, a2] := ⟨_, rfl⟩
          have hlen : ls.length = 4 := by rw [hls]; rfl
          have hlea : la.length = 4 := by rw [hla]; rfl
          have hleb : lb.length = 4 := by rw [hlb]; rfl
          have HBw := Aside0.mk (below_alloc HB.out (.cells #[Value.int .i64 a2, Value.int .i64 v2, Value.int .i64 v3, Value.int .i64 a2] 3))
          have HM := Aside0.mk (Kd.R_alloc (o := .cells #[Value.int .i64 a2, Value.int .i64 v2, Value.int .i64 v3, Value.int .i64 a2] 3) (Kd.R_keep (IsS72.apart HI363.out HO_12.out (by decide)) HK.out (fun _ h => h.2)))
          have HX := Aside0.mk (Kd.R_alloc (o := .cells #[Value.int .i64 a2, Value.int .i64 v2, Value.int .i64 v3, Value.int .i64 a2] 3) (Kd.R_keep (IsS72.apart HI363.out HO_14.out (by decide)) HK.out (fun _ h => h.2)))
          have HRa : Aside0 (Kd.C (Kd.slice 24 k24) (wd.alloc (.cells #[Value.int .i64 a2, Value.int .i64 v2, Value.int .i64 v3, Value.int .i64 a2] 3)) (some ⟨wc.heap.size, 0, none⟩) ls.length ls) := ⟨by
            rw [hls]
            refine all_C (t := 22) (vs := [Value.slice A0 l0.length c0, Value.slice Ao19 t364.length co19, Value.slice Ao40 y380.length co40, Value.slice Ao19 t364.length co19]) (blk_alloc BKa.out _) rfl (by simp) (fun j x hx => ?_)
            rcases j with _ | _ | _ | _ | j
            · have hx : l0 = x := by simpa using hx
              subst hx
              exact ⟨_, _, rfl, HC0.out, Kd.C_alloc (Kd.C_below HR0.out HB.out) _⟩
            · have hx : t364 = x := by simpa using hx
              subst hx
              exact ⟨_, _, rfl, (Kd.R_reads' HM.out).2.1, (Kd.R_reads' HM.out).2.2⟩
            · have hx : y380 = x := by simpa using hx
              subst hx
              exact ⟨_, _, rfl, (Kd.R_reads' HX.out).2.1, (Kd.R_reads' HX.out).2.2⟩
            · have hx : t364 = x := by simpa using hx
              subst hx
              exact ⟨_, _, rfl, (Kd.R_reads' HM.out).2.1, (Kd.R_reads' HM.out).2.2⟩
            · simp at hx⟩
          have HCa : Aside0 (ls.length ≤ 4) := ⟨by omega⟩
          have HRb : Aside0 (Kd.C (Kd.int .i64) (wd.alloc (.cells #[Value.int .i64 a2, Value.int .i64 v2, Value.int .i64 v3, Value.int .i64 a2] 3)) (some ⟨wa.heap.size, 0, none⟩) la.length la) := ⟨by
            rw [hla]
            exact ints_C (t := 3) (vs := [Value.int .i64 a1, Value.int .i64 v1, Value.int .i64 a1, Value.int .i64 a1]) (blk_alloc BKb.out _) rfl (by simp)⟩
          have HCb : Aside0 (la.length ≤ 4) := ⟨by omega⟩
          have HRc : Aside0 (Kd.C (Kd.int .i64) (wd.alloc (.cells #[Value.int .i64 a2, Value.int .i64 v2, Value.int .i64 v3, Value.int .i64 a2] 3)) (some ⟨wd.heap.size, 0, none⟩) lb.length lb) := ⟨by
            rw [hlb]
            exact ints_C (t := 3) (vs := [Value.int .i64 a2, Value.int .i64 v2, Value.int .i64 v3, Value.int .i64 a2]) (blk_new _ _) rfl (by simp)⟩
          have HCc : Aside0 (lb.length ≤ 4) := ⟨by omega⟩
          obtain ⟨kz, HZ⟩ := (Pure.loop10_ev ls la lb (by omega) (by omega) (by omega) (fun j hj => by
            rw [hls] at hj ⊢
            rcases j with _ | _ | _ | _ | j
            · exact hN0
            · exact hN1
            · exact hN2
            · exact hN1
            · simp at hj; omega)).rounds
          have H : (cippuslaw07_loop10.l0 kz ls la lb 0) = some true := HZ
          clear HZ hN0 hN1 hN2
          have H' := Aside0.mk H
          clear H
          rw [show (Value.slice (some ⟨wc.heap.size, 0, none⟩) 4 4) = Value.slice (some ⟨wc.heap.size, 0, none⟩) ls.length 4 by rw [hlen], show (Value.slice (some ⟨wa.heap.size, 0, none⟩) 4 4) = Value.slice (some ⟨wa.heap.size, 0, none⟩) la.length 4 by rw [hlea], show (Value.slice (some ⟨wd.heap.size, 0, none⟩) 4 4) = Value.slice (some ⟨wd.heap.size, 0, none⟩) lb.length 4 by rw [hleb]]
          obtain ⟨Aa, hAa⟩ : ∃ Aa : Option Addr, Aa = some ⟨wc.heap.size, 0, none⟩ := ⟨_, rfl⟩
          rw [← hAa] at HRa ⊢
          obtain ⟨Ab, hAb⟩ : ∃ Ab : Option Addr, Ab = some ⟨wa.heap.size, 0, none⟩ := ⟨_, rfl⟩
          rw [← hAb] at HRb ⊢
          obtain ⟨Ac, hAc⟩ : ∃ Ac : Option Addr, Ac = some ⟨wd.heap.size, 0, none⟩ := ⟨_, rfl⟩
          rw [← hAc] at HRc ⊢
          clear hAa hAb hAc hls hla hlb hlen hlea hleb HO_12 HO_14 HO_374001 BK360 BK373 HB HI HK BKa BKb HM HX HI363 hgb hgn hle
          generalize wd.alloc (.cells #[Value.int .i64 a2, Value.int .i64 v2, Value.int .i64 v3, Value.int .i64 a2] 3) = wq at HBw HRa HRb HRc ⊢
          go_cut [] (fun wx => Aside0 (Below w.heap.size w wx))
          case first =>
            have HB := Aside0.mk (Below.refl wq.heap.size wq)
            go_wp2_with fail
            go_loopg [18] kz (fun kq v18 w' => ∃ (x18_1 : Int), v18 = .int .i64 x18_1 ∧ Aside0 (cippuslaw07_loop10.l0 kq ls la lb x18_1 = some true) ∧ Aside0 (kq ≤ kz) ∧ Aside0 (Below wq.heap.size wq w'))
            case atStart => exact ⟨(0), (by first | rfl | (simp; done) | (simp [*]; done)), H', ⟨Nat.le_refl _⟩, ⟨by repeat (first | (with_reducible first | exact HB.out | apply below_alloc | apply pw_below_drewN | apply below_drew1) | exact HB.out)⟩⟩
            case round =>
              clear H'
              try clear 4
              try clear 4
              try clear p2
              obtain ⟨x18_1, rfl, HA, HK1, HB⟩ := hrel
              cases gk with
              | zero => exact absurd HA.out (by simp [cippuslaw07_loop10.l0])
              | succ k1 =>
                have H := HA.out
                clear HA
                simp only [cippuslaw07_loop10.l0] at H
                by_cases c4 : x18_1 < (ls.length : Int)
                · rw [if_pos c4] at H
                  have c4b0 : decide (x18_1 < (ls.length : Int)) = true := decide_eq_true c4
                  clear c4
                  by_cases c5 : 0 ≤ x18_1
                  · rw [if_pos c5] at H
                    have c5b0 : decide (0 ≤ x18_1) = true := decide_eq_true c5
                    clear c5
                    replace H := Option.bind_eq_some_iff.mp H
                    obtain ⟨t358, A60, H⟩ := H
                    replace H : ((stemma_Sources.f k1 t358).bind fun bt361 => ((cippusref07_Sources.f k1 (rd_L8 ls x18_1)).bind fun bt366 => (if x18_1 < (la.length : Int) then (if x18_1 < (lb.length : Int) then ((stemma_Depends.f k1 t358 (rd la x18_1) (rd lb x18_1)).bind fun bt372 => ((cippusref07_Depends.f k1 (rd_L8 ls x18_1) (rd la x18_1) (rd lb x18_1)).bind fun bt377 => ((stemma_Check.f k1 t358).bind fun t379 => ((cippusref07_Check.f k1 (rd_L8 ls x18_1)).bind fun t381 => (if t379 = t381 then (if bt361.2 = bt366.2 then (if bt372.1 = bt377.1 then (if bt372.2 = bt377.2 then ((cippuskit_SameGrids.f k1 bt361.1 bt366.1).bind fun t382 => (if t382 = true then ((cippuskit_SameCopies.f k1 t358 (rd_L8 ls x18_1)).bind fun t384 => (if t384 = true then (cippuslaw07_loop10.l0 k1 ls la lb (wrap64 (x18_1 + 1))) else (some false))) else (some false))) else (some false)) else (some false)) else (some false)) else (some false)))))) else (none)) else (none)))) = some true := H
                    have A6 := Aside0.mk A60
                    clear A60
                    replace H := Option.bind_eq_some_iff.mp H
                    obtain ⟨⟨t361, t364⟩, A70, H⟩ := H
                    replace H : ((cippusref07_Sources.f k1 (rd_L8 ls x18_1)).bind fun bt366 => (if x18_1 < (la.length : Int) then (if x18_1 < (lb.length : Int) then ((stemma_Depends.f k1 t358 (rd la x18_1) (rd lb x18_1)).bind fun bt372 => ((cippusref07_Depends.f k1 (rd_L8 ls x18_1) (rd la x18_1) (rd lb x18_1)).bind fun bt377 => ((stemma_Check.f k1 t358).bind fun t379 => ((cippusref07_Check.f k1 (rd_L8 ls x18_1)).bind fun t381 => (if t379 = t381 then (if t364 = bt366.2 then (if bt372.1 = bt377.1 then (if bt372.2 = bt377.2 then ((cippuskit_SameGrids.f k1 t361 bt366.1).bind fun t382 => (if t382 = true then ((cippuskit_SameCopies.f k1 t358 (rd_L8 ls x18_1)).bind fun t384 => (if t384 = true then (cippuslaw07_loop10.l0 k1 ls la lb (wrap64 (x18_1 + 1))) else (some false))) else (some false))) else (some false)) else (some false)) else (some false)) else (some false)))))) else (none)) else (none))) = some true := H
                    have A7 := Aside0.mk A70
                    clear A70
                    replace H := Option.bind_eq_some_iff.mp H
                    obtain ⟨⟨t366, t369⟩, A80, H⟩ := H
                    replace H : (if x18_1 < (la.length : Int) then (if x18_1 < (lb.length : Int) then ((stemma_Depends.f k1 t358 (rd la x18_1) (rd lb x18_1)).bind fun bt372 => ((cippusref07_Depends.f k1 (rd_L8 ls x18_1) (rd la x18_1) (rd lb x18_1)).bind fun bt377 => ((stemma_Check.f k1 t358).bind fun t379 => ((cippusref07_Check.f k1 (rd_L8 ls x18_1)).bind fun t381 => (if t379 = t381 then (if t364 = t369 then (if bt372.1 = bt377.1 then (if bt372.2 = bt377.2 then ((cippuskit_SameGrids.f k1 t361 t366).bind fun t382 => (if t382 = true then ((cippuskit_SameCopies.f k1 t358 (rd_L8 ls x18_1)).bind fun t384 => (if t384 = true then (cippuslaw07_loop10.l0 k1 ls la lb (wrap64 (x18_1 + 1))) else (some false))) else (some false))) else (some false)) else (some false)) else (some false)) else (some false)))))) else (none)) else (none)) = some true := H
                    have A8 := Aside0.mk A80
                    clear A80
                    by_cases c9 : x18_1 < (la.length : Int)
                    · rw [if_pos c9] at H
                      have c9b0 : decide (x18_1 < (la.length : Int)) = true := decide_eq_true c9
                      clear c9
                      by_cases c10 : x18_1 < (lb.length : Int)
                      · rw [if_pos c10] at H
                        have c10b0 : decide (x18_1 < (lb.length : Int)) = true := decide_eq_true c10
                        clear c10
                        replace H := Option.bind_eq_some_iff.mp H
                        obtain ⟨⟨t372, t373⟩, A110, H⟩ := H
                        replace H : ((cippusref07_Depends.f k1 (rd_L8 ls x18_1) (rd la x18_1) (rd lb x18_1)).bind fun bt377 => ((stemma_Check.f k1 t358).bind fun t379 => ((cippusref07_Check.f k1 (rd_L8 ls x18_1)).bind fun t381 => (if t379 = t381 then (if t364 = t369 then (if t372 = bt377.1 then (if t373 = bt377.2 then ((cippuskit_SameGrids.f k1 t361 t366).bind fun t382 => (if t382 = true then ((cippuskit_SameCopies.f k1 t358 (rd_L8 ls x18_1)).bind fun t384 => (if t384 = true then (cippuslaw07_loop10.l0 k1 ls la lb (wrap64 (x18_1 + 1))) else (some false))) else (some false))) else (some false)) else (some false)) else (some false)) else (some false))))) = some true := H
                        have A11 := Aside0.mk A110
                        clear A110
                        replace H := Option.bind_eq_some_iff.mp H
                        obtain ⟨⟨t377, t378⟩, A120, H⟩ := H
                        replace H : ((stemma_Check.f k1 t358).bind fun t379 => ((cippusref07_Check.f k1 (rd_L8 ls x18_1)).bind fun t381 => (if t379 = t381 then (if t364 = t369 then (if t372 = t377 then (if t373 = t378 then ((cippuskit_SameGrids.f k1 t361 t366).bind fun t382 => (if t382 = true then ((cippuskit_SameCopies.f k1 t358 (rd_L8 ls x18_1)).bind fun t384 => (if t384 = true then (cippuslaw07_loop10.l0 k1 ls la lb (wrap64 (x18_1 + 1))) else (some false))) else (some false))) else (some false)) else (some false)) else (some false)) else (some false)))) = some true := H
                        have A12 := Aside0.mk A120
                        clear A120
                        replace H := Option.bind_eq_some_iff.mp H
                        obtain ⟨t379, A130, H⟩ := H
                        replace H : ((cippusref07_Check.f k1 (rd_L8 ls x18_1)).bind fun t381 => (if t379 = t381 then (if t364 = t369 then (if t372 = t377 then (if t373 = t378 then ((cippuskit_SameGrids.f k1 t361 t366).bind fun t382 => (if t382 = true then ((cippuskit_SameCopies.f k1 t358 (rd_L8 ls x18_1)).bind fun t384 => (if t384 = true then (cippuslaw07_loop10.l0 k1 ls la lb (wrap64 (x18_1 + 1))) else (some false))) else (some false))) else (some false)) else (some false)) else (some false)) else (some false))) = some true := H
                        have A13 := Aside0.mk A130
                        clear A130
                        replace H := Option.bind_eq_some_iff.mp H
                        obtain ⟨t381, A140, H⟩ := H
                        replace H : (if t379 = t381 then (if t364 = t369 then (if t372 = t377 then (if t373 = t378 then ((cippuskit_SameGrids.f k1 t361 t366).bind fun t382 => (if t382 = true then ((cippuskit_SameCopies.f k1 t358 (rd_L8 ls x18_1)).bind fun t384 => (if t384 = true then (cippuslaw07_loop10.l0 k1 ls la lb (wrap64 (x18_1 + 1))) else (some false))) else (some false))) else (some false)) else (some false)) else (some false)) else (some false)) = some true := H
                        have A14 := Aside0.mk A140
                        clear A140
                        by_cases c15 : t379 = t381
                        · rw [if_pos c15] at H
                          have c15b0 : (t379 == t381) = true := beq_iff_eq.mpr c15
                          have c15b1 : (t379 != t381) = false := bne_eq_false_iff_eq.mpr c15
                          clear c15
                          by_cases c16 : t364 = t369
                          · rw [if_pos c16] at H
                            have c16b0 : (t364 == t369) = true := beq_iff_eq.mpr c16
                            have c16b1 : (t364 != t369) = false := bne_eq_false_iff_eq.mpr c16
                            clear c16
                            by_cases c17 : t372 = t377
                            · rw [if_pos c17] at H
                              have c17b0 : (t372 == t377) = true := beq_iff_eq.mpr c17
                              have c17b1 : (t372 != t377) = false := bne_eq_false_iff_eq.mpr c17
                              clear c17
                              by_cases c18 : t373 = t378
                              · rw [if_pos c18] at H
                                have c18b0 : (t373 == t378) = true := beq_iff_eq.mpr c18
                                have c18b1 : (t373 != t378) = false := bne_eq_false_iff_eq.mpr c18
                                clear c18
                                replace H := Option.bind_eq_some_iff.mp H
                                obtain ⟨t382, A190, H⟩ := H
                                replace H : (if t382 = true then ((cippuskit_SameCopies.f k1 t358 (rd_L8 ls x18_1)).bind fun t384 => (if t384 = true then (cippuslaw07_loop10.l0 k1 ls la lb (wrap64 (x18_1 + 1))) else (some false))) else (some false)) = some true := H
                                have A19 := Aside0.mk A190
                                clear A190
                                by_cases c20 : t382 = true
                                · subst c20
                                  have H1 : ((cippuskit_SameCopies.f k1 t358 (rd_L8 ls x18_1)).bind fun t384 => (if t384 = true then (cippuslaw07_loop10.l0 k1 ls la lb (wrap64 (x18_1 + 1))) else (some false))) = some true := by rw [if_pos rfl] at H; exact H
                                  clear H
                                  have H := H1
                                  clear H1
                                  replace H := Option.bind_eq_some_iff.mp H
                                  obtain ⟨t384, A210, H⟩ := H
                                  replace H : (if t384 = true then (cippuslaw07_loop10.l0 k1 ls la lb (wrap64 (x18_1 + 1))) else (some false)) = some true := H
                                  have A21 := Aside0.mk A210
                                  clear A210
                                  by_cases c22 : t384 = true
                                  · subst c22
                                    have H1 : (cippuslaw07_loop10.l0 k1 ls la lb (wrap64 (x18_1 + 1))) = some true := by rw [if_pos rfl] at H; exact H
                                    clear H
                                    have H := H1
                                    clear H1
                                    have H' := Aside0.mk H
                                    clear H
                                    have p357 : 0 ≤ (x18_1 : Int) := of_decide_eq_true (by first | (with_reducible assumption) | assumption)
                                    have q357 : x18_1 < (ls.length : Int) := of_decide_eq_true (by first | (with_reducible assumption) | assumption)
                                    obtain ⟨ad357, A357_0, c357_0, e357, hx357_0, hl357_0, hi357_0⟩ := at_L8 HRa.out x18_1 p357 q357
                                    cases e357
                                    try replace hx357_0 := (HB.out.cell (World.block_lt_of_cell? wq _ hx357_0)).trans hx357_0
                                    have HR357_0 := Aside0.mk hi357_0
                                    have HC357_0 := Aside0.mk hl357_0
                                    clear hi357_0 hl357_0
                                    replace p357 := eq_true p357
                                    replace q357 := eq_true q357
                                    try go_wp2_with (first | ((with_reducible refine gate_callee (f := 15) rfl ?_); refine goesL_ (some 81) rfl rfl Try.func15 (by kernel_rfl) rfl #[.slice A357_0 (rd_L8 ls x18_1).length c357_0] rfl (by (try simp only [List.map_toArray, List.map_cons, List.map_nil]); first | done | rfl | (simp only [List.length_drop, List.length_take]; rfl)) ?_; (with_reducible refine (cippuskit_CopyCopies.calls _ _ (rd_L8 ls x18_1) t358 _ ?side1 ?side2 A6.out).mono ?_); (case side1 => repeat (first | exact (Kd.C_below HR357_0.out HB.out) | (with_reducible refine Kd.C_alloc ?_ _) | (with_reducible refine Kd.C_drewN ?_ _) | (with_reducible refine Kd.C_drew ?_))); (case side2 => exact HC357_0.out); rintro e w23 ⟨v359, rfl, ho0, hb⟩; refine ⟨_, rfl, ?_⟩; have n0_ := Aside0.mk (Kd.R_lower ho0 (below_size (by repeat (first | (with_reducible first | exact HB.out | apply below_alloc | apply pw_below_drewN | apply below_drew1) | exact HB.out)))); have n1_ := Aside0.mk (below_step (by repeat (first | (with_reducible first | exact HB.out | apply below_alloc | apply pw_below_drewN | apply below_drew1) | exact HB.out)) hb); clear HB; have HO360 := n0_; have HB := n1_; clear n0_ n1_; (try clear hb); (try clear hb2); (try clear hk); (try clear hi); (try clear ho0); obtain ⟨Ao24, co24, eo24⟩ := Kd.R_slice HO360.out; subst eo24) | ((with_reducible refine gate_callee (f := 30) rfl ?_); refine goesL_ (some 84) rfl rfl Try.func30 (by kernel_rfl) rfl #[.slice Ao24 t358.length co24] rfl (by (try simp only [List.map_toArray, List.map_cons, List.map_nil]); first | done | rfl | (simp only [List.length_drop, List.length_take]; rfl)) ?_; (with_reducible refine (stemma_Sources.calls k1 _ _ t358 t361 t364 _ ?side1 ?side2 A7.out).mono ?_); (case side1 => repeat (first | exact (Kd.R_reads' HO360.out).2.2 | (with_reducible refine Kd.C_alloc ?_ _) | (with_reducible refine Kd.C_drewN ?_ _) | (with_reducible refine Kd.C_drew ?_))); (case side2 => exact (Kd.R_reads' HO360.out).2.1); rintro e w25 ⟨v362, rfl, ho0, hb⟩; refine ⟨_, rfl, ?_⟩; have n0_ := Aside0.mk (Kd.R_below (by (with_reducible repeat (first | apply Kd.R_alloc | apply Kd.R_drewN | apply Kd.R_drew)); exact HO360.out) hb); have n1_ := Aside0.mk (Kd.N_lower (Kd.N_mono (ok' := fun k_ => some k_ ≠ (.slice Ao24 t358.length co24 : Value).ownBlock) ho0 (fun k_ hk_ => (Kd.fresh' (Kd.R_lt (by (with_reducible repeat (first | apply Kd.R_alloc | apply Kd.R_drewN | apply Kd.R_drew)); exact HO360.out)) k_ hk_))) (below_size (by repeat (first | (with_reducible first | exact HB.out | apply below_alloc | apply pw_below_drewN | apply below_drew1) | exact HB.out)))); have n2_ := Aside0.mk (below_step (by repeat (first | (with_reducible first | exact HB.out | apply below_alloc | apply pw_below_drewN | apply below_drew1) | exact HB.out)) hb); clear HO360; clear HB; have HO360 := n0_; have HO363 := n1_; have HB := n2_; clear n0_ n1_ n2_; (try clear hb); (try clear hb2); (try clear hk); (try clear hi); (try clear ho0); have p365 : 0 ≤ (x18_1 : Int) := of_decide_eq_true (by first | (with_reducible assumption) | assumption); have q365 : x18_1 < (ls.length : Int) := of_decide_eq_true (by first | (with_reducible assumption) | assumption); obtain ⟨ad365, A365_0, c365_0, e365, hx365_0, hl365_0, hi365_0⟩ := at_L8 HRa.out x18_1 p365 q365; obtain rfl : ad357 = ad365 := (by injection e365); replace hx365_0 := (HB.out.cell (World.block_lt_of_cell? wq _ hx365_0)).trans hx365_0; have HR365_0 := Aside0.mk hi365_0; have HC365_0 := Aside0.mk hl365_0; clear hi365_0 hl365_0; replace p365 := eq_true p365; replace q365 := eq_true q365) | ((with_reducible refine gate_callee (f := 36) rfl ?_); refine goesL_ (some 92) rfl rfl Try.func36 (by kernel_rfl) rfl #[.slice A365_0 (rd_L8 ls x18_1).length c365_0] rfl (by (try simp only [List.map_toArray, List.map_cons, List.map_nil]); first | done | rfl | (simp only [List.length_drop, List.length_take]; rfl)) ?_; (with_reducible refine (cippusref07_Sources.calls k1 _ _ (rd_L8 ls x18_1) t366 t369 _ ?side1 ?side2 A8.out).mono ?_); (case side1 => repeat (first | exact (Kd.C_below HR365_0.out HB.out) | (with_reducible refine Kd.C_alloc ?_ _) | (with_reducible refine Kd.C_drewN ?_ _) | (with_reducible refine Kd.C_drew ?_))); (case side2 => exact HC365_0.out); rintro e w26 ⟨v367, rfl, ho0, hb⟩; refine ⟨_, rfl, ?_⟩; have n0_ := Aside0.mk (Kd.R_below (by (with_reducible repeat (first | apply Kd.R_alloc | apply Kd.R_drewN | apply Kd.R_drew)); exact HO360.out) hb); have n1_ := Aside0.mk (Kd.N_elder' (by (with_reducible repeat (first | apply Kd.N_alloc | apply Kd.N_drewN | apply Kd.N_drew)); exact HO363.out) (Kd.N_base ho0) hb); have n2_ := Aside0.mk (Kd.N_lower (Kd.N_mono (ok' := fun k_ => some k_ ≠ (.slice Ao24 t358.length co24 : Value).ownBlock ∧ some k_ ≠ (v362 : Value).ownBlock) ho0 (fun k_ hk_ => ⟨(Kd.fresh' (Kd.R_lt (by (with_reducible repeat (first | apply Kd.R_alloc | apply Kd.R_drewN | apply Kd.R_drew)); exact HO360.out)) k_ hk_), (Kd.fresh' (Kd.N_lt (by (with_reducible repeat (first | apply Kd.N_alloc | apply Kd.N_drewN | apply Kd.N_drew)); exact HO363.out)) k_ hk_)⟩)) (below_size (by repeat (first | (with_reducible first | exact HB.out | apply below_alloc | apply pw_below_drewN | apply below_drew1) | exact HB.out)))); have n3_ := Aside0.mk (below_step (by repeat (first | (with_reducible first | exact HB.out | apply below_alloc | apply pw_below_drewN | apply below_drew1) | exact HB.out)) hb); clear HO360; clear HO363; clear HB; have HO360 := n0_; have HO363 := n1_; have HO368 := n2_; have HB := n3_; clear n0_ n1_ n2_ n3_; (try clear hb); (try clear hb2); (try clear hk); (try clear hi); (try clear ho0)))
                                    have n0_ := Aside0.mk (Kd.R_drew HO360.out)
                                    have n1_ := Aside0.mk (Kd.N_drew HO363.out)
                                    have n2_ := Aside0.mk (Kd.N_drew HO368.out)
                                    have n3_ := Aside0.mk (below_drew1 HB.out)
                                    clear HO360
                                    clear HO363
                                    clear HO368
                                    clear HB
                                    have HO360 := n0_
                                    have HO363 := n1_
                                    have HO368 := n2_
                                    have HB := n3_
                                    clear n0_ n1_ n2_ n3_
                                    have p370 : 0 ≤ (x18_1 : Int) := of_decide_eq_true (by first | (with_reducible assumption) | assumption)
                                    have q370 : x18_1 < (la.length : Int) := of_decide_eq_true (by first | (with_reducible assumption) | assumption)
                                    obtain ⟨ad370, e370, hx370_0⟩ := Kd.at_int HRb.out x18_1 p370 q370
                                    have hw370_0 := hx370_0
                                    cases e370
                                    try replace hx370_0 := (HB.out.cell (World.block_lt_of_cell? wq _ hx370_0)).trans hx370_0
                                    replace p370 := eq_true p370
                                    replace q370 := eq_true q370
                                    have p371 : 0 ≤ (x18_1 : Int) := of_decide_eq_true (by first | (with_reducible assumption) | assumption)
                                    have q371 : x18_1 < (lb.length : Int) := of_decide_eq_true (by first | (with_reducible assumption) | assumption)
                                    obtain ⟨ad371, e371, hx371_0⟩ := Kd.at_int HRc.out x18_1 p371 q371
                                    have hw371_0 := hx371_0
                                    cases e371
                                    try replace hx371_0 := (HB.out.cell (World.block_lt_of_cell? wq _ hx371_0)).trans hx371_0
                                    replace p371 := eq_true p371
                                    replace q371 := eq_true q371
                                    refine start_ (n := 15) (S := fun w' => w'.cell? (ad370.add (x18_1).toNat) = some (.int .i64 (rd la x18_1)) ∧ w'.cell? (ad371.add (x18_1).toNat) = some (.int .i64 (rd lb x18_1))) (ds := []) #[false, false, false, false, false, false, false, false, false, false, false, false, false, false, false] (by kernel_rfl) rfl rfl ⟨((HB.out.cell (World.block_lt_of_cell? wq _ hw370_0)).trans hw370_0), ((HB.out.cell (World.block_lt_of_cell? wq _ hw371_0)).trans hw371_0)⟩ (fun hHeld => ?_); refine with_tabW cippuslaw07_loop10.tab13 cippuslaw07_loop10.bits13 (fun HT_ HW_ => ?_)
                                    generalize w26.drew = w27 at HO360 HO363 HO368 HB hx370_0 hx371_0 hHeld ⊢
                                    refine pure_ (i := 0) (N := some 96) (v := ?_) (a' := ?_) #[true, false, false, false, false, false, false, false, false, false, false, false, false, false, false] rfl rfl (any_of HT_.out (by kernel_rfl)) (fun _ _ _ h => h) (Or.inl ⟨by rfl, ?_⟩) ?_ ?_
                                    rotate_left
                                    · intro w'
                                      go_simp
                                      with_reducible rfl
                                    rotate_left
                                    · simp only [Act.put, List.setIfInBounds_toArray, List.set_cons_zero, List.set_cons_succ, i64_w, i32_w]
                                      rfl
                                    refine pure_ (i := 1) (N := some 97) (v := ?_) (a' := ?_) #[true, true, false, false, false, false, false, false, false, false, false, false, false, false, false] rfl rfl (any_of HT_.out (by kernel_rfl)) (fun _ _ _ h => h) (Or.inl ⟨by rfl, ?_⟩) ?_ ?_
                                    rotate_left
                                    · intro w'
                                      go_simp
                                      with_reducible rfl
                                    rotate_left
                                    · simp only [Act.put, List.setIfInBounds_toArray, List.set_cons_zero, List.set_cons_succ, i64_w, i32_w]
                                      rfl
                                    refine pure_ (i := 2) (N := some 98) (v := ?_) (a' := ?_) #[true, true, true, false, false, false, false, false, false, false, false, false, false, false, false] rfl rfl (any_of HT_.out (by kernel_rfl)) (fun _ _ _ h => h) (Or.inl ⟨by rfl, ?_⟩) ?_ ?_
                                    rotate_left
                                    · intro w'
                                      go_simp
                                      with_reducible rfl
                                    rotate_left
                                    · simp only [Act.put, List.setIfInBounds_toArray, List.set_cons_zero, List.set_cons_succ, i64_w, i32_w]
                                      rfl
                                    refine pure_ (i := 3) (N := some 99) (v := ?_) (a' := ?_) #[true, true, true, true, false, false, false, false, false, false, false, false, false, false, false] rfl rfl (any_of HT_.out (by kernel_rfl)) (fun _ _ _ h => h) (Or.inl ⟨by rfl, ?_⟩) ?_ ?_
                                    rotate_left
                                    · intro w'
                                      go_simp
                                      with_reducible rfl
                                    rotate_left
                                    · simp only [Act.put, List.setIfInBounds_toArray, List.set_cons_zero, List.set_cons_succ, i64_w, i32_w]
                                      rfl
                                    refine pure_ (i := 5) (N := some 101) (v := ?_) (a' := ?_) #[true, true, true, true, false, true, false, false, false, false, false, false, false, false, false] rfl rfl (any_of HT_.out (by kernel_rfl)) (fun _ _ _ h => h) (Or.inl ⟨by rfl, ?_⟩) ?_ ?_
                                    rotate_left
                                    · intro w'
                                      go_simp
                                      with_reducible rfl
                                    rotate_left
                                    · simp only [Act.put, List.setIfInBounds_toArray, List.set_cons_zero, List.set_cons_succ, i64_w, i32_w]
                                      rfl
                                    refine pure_ (i := 6) (N := some 102) (v := ?_) (a' := ?_) #[true, true, true, true, false, true, true, false, false, false, false, false, false, false, false] rfl rfl (any_of HT_.out (by kernel_rfl)) (fun _ _ _ h => h) (Or.inl ⟨by rfl, ?_⟩) ?_ ?_
                                    rotate_left
                                    · intro w'
                                      go_simp
                                      with_reducible rfl
                                    rotate_left
                                    · simp only [Act.put, List.setIfInBounds_toArray, List.set_cons_zero, List.set_cons_succ, i64_w, i32_w]
                                      rfl
                                    refine pure_ (i := 7) (N := some 103) (v := ?_) (a' := ?_) #[true, true, true, true, false, true, true, true, false, false, false, false, false, false, false] rfl rfl (any_of HT_.out (by kernel_rfl)) (fun _ _ _ h => h) (Or.inl ⟨by rfl, ?_⟩) ?_ ?_
                                    rotate_left
                                    · intro w'
                                      go_simp
                                      with_reducible rfl
                                    rotate_left
                                    · simp only [Act.put, List.setIfInBounds_toArray, List.set_cons_zero, List.set_cons_succ, i64_w, i32_w]
                                      rfl
                                    refine take_ (i := 4) (N := some 100) (v := ?_) (a' := ?_) #[true, true, true, true, true, true, true, true, false, false, false, false, false, false, false] rfl rfl (take_ofW HT_.out HW_.out (by kernel_rfl)) (fun _ _ _ h => h) (Or.inl ⟨by rfl, ?_⟩) hHeld ?_ ?_
                                    rotate_left
                                    · rintro w' ⟨s0, s1⟩
                                      go_simp
                                      with_reducible rfl
                                    rotate_left
                                    · simp only [Act.put, List.setIfInBounds_toArray, List.set_cons_zero, List.set_cons_succ, i64_w, i32_w]
                                      rfl
                                    refine take_ (i := 8) (N := some 104) (v := ?_) (a' := ?_) #[true, true, true, true, true, true, true, true, true, false, false, false, false, false, false] rfl rfl (take_ofW HT_.out HW_.out (by kernel_rfl)) (fun _ _ _ h => h) (Or.inl ⟨by rfl, ?_⟩) hHeld ?_ ?_
                                    rotate_left
                                    · rintro w' ⟨s0, s1⟩
                                      go_simp
                                      with_reducible rfl
                                    rotate_left
                                    · simp only [Act.put, List.setIfInBounds_toArray, List.set_cons_zero, List.set_cons_succ, i64_w, i32_w]
                                      rfl
                                    refine one_ (i := 9) (N := some 105) #[true, true, true, true, true, true, true, true, true, true, false, false, false, false, false] rfl rfl (one_of HT_.out (by kernel_rfl)) (by decide) (fun K hK => ?_)
                                    refine goes_ Try.func37 (by kernel_rfl) rfl #[.slice Ao24 t358.length co24, .int .i64 (rd la x18_1), .int .i64 (rd lb x18_1)] (by rfl) rfl rfl (by (try simp only [List.map_toArray, List.map_cons, List.map_nil]); first | done | rfl | (simp only [List.length_drop, List.length_take]; rfl)) ?_
                                    with_reducible refine (stemma_Depends.calls k1 _ _ t358 (rd la x18_1) (rd lb x18_1) t372 t373 _ ?side1 ?side2 A11.out).mono ?_
                                    (case side1 => repeat (first | exact (Kd.R_reads' HO360.out).2.2 | (with_reducible refine Kd.C_alloc ?_ _) | (with_reducible refine Kd.C_drewN ?_ _) | (with_reducible refine Kd.C_drew ?_)))
                                    (case side2 => exact (Kd.R_reads' HO360.out).2.1)
                                    rintro e w28 ⟨rfl, hb⟩
                                    refine ⟨_, rfl, ?_⟩
                                    have n0_ := Aside0.mk (Kd.R_below (by (with_reducible repeat (first | apply Kd.R_alloc | apply Kd.R_drewN | apply Kd.R_drew)); exact HO360.out) hb)
                                    have n1_ := Aside0.mk (Kd.N_below (by (with_reducible repeat (first | apply Kd.N_alloc | apply Kd.N_drewN | apply Kd.N_drew)); exact HO363.out) hb)
                                    have n2_ := Aside0.mk (Kd.N_below (by (with_reducible repeat (first | apply Kd.N_alloc | apply Kd.N_drewN | apply Kd.N_drew)); exact HO368.out) hb)
                                    have n3_ := Aside0.mk (below_step (by repeat (first | (with_reducible first | exact HB.out | apply below_alloc | apply pw_below_drewN | apply below_drew1) | exact HB.out)) hb)
                                    clear HO360
                                    clear HO363
                                    clear HO368
                                    clear HB
                                    have HO360 := n0_
                                    have HO363 := n1_
                                    have HO368 := n2_
                                    have HB := n3_
                                    clear n0_ n1_ n2_ n3_
                                    (try clear hb)
                                    (try clear hb2)
                                    (try clear hk)
                                    (try clear hi)
                                    refine hK.out _ _ ⟨((HB.out.cell (World.block_lt_of_cell? wq _ hw370_0)).trans hw370_0), ((HB.out.cell (World.block_lt_of_cell? wq _ hw371_0)).trans hw371_0)⟩ (fun hHeld => ?_)
                                    clear hK K
                                    refine norm_ (a' := ?_) ?_ ?_
                                    rotate_left
                                    · show Act.put _ (some 105) _ = _
                                      simp only [Act.put, List.setIfInBounds_toArray, List.set_cons_zero, List.set_cons_succ, i64_w, i32_w]
                                      rfl
                                    refine pure_ (i := 10) (N := some 95) (v := ?_) (a' := ?_) #[true, true, true, true, true, true, true, true, true, true, true, false, false, false, false] rfl rfl (any_of HT_.out (by kernel_rfl)) (fun _ _ _ h => h) (Or.inl ⟨by rfl, ?_⟩) ?_ ?_
                                    rotate_left
                                    · intro w'
                                      go_simp
                                      with_reducible rfl
                                    rotate_left
                                    · simp only [Act.put, List.setIfInBounds_toArray, List.set_cons_zero, List.set_cons_succ, i64_w, i32_w]
                                      rfl
                                    refine pure_ (i := 11) (N := some 106) (v := ?_) (a' := ?_) #[true, true, true, true, true, true, true, true, true, true, true, true, false, false, false] rfl rfl (any_of HT_.out (by kernel_rfl)) (fun _ _ _ h => h) (Or.inl ⟨by rfl, ?_⟩) ?_ ?_
                                    rotate_left
                                    · intro w'
                                      go_simp
                                      with_reducible rfl
                                    rotate_left
                                    · simp only [Act.put, List.setIfInBounds_toArray, List.set_cons_zero, List.set_cons_succ, i64_w, i32_w]
                                      rfl
                                    refine pure_ (i := 12) (N := some 107) (v := ?_) (a' := ?_) #[true, true, true, true, true, true, true, true, true, true, true, true, true, false, false] rfl rfl (any_of HT_.out (by kernel_rfl)) (fun _ _ _ h => h) (Or.inl ⟨by rfl, ?_⟩) ?_ ?_
                                    rotate_left
                                    · intro w'
                                      go_simp
                                      with_reducible rfl
                                    rotate_left
                                    · simp only [Act.put, List.setIfInBounds_toArray, List.set_cons_zero, List.set_cons_succ, i64_w, i32_w]
                                      rfl
                                    refine pure_ (i := 13) (N := some 24) (v := ?_) (a' := ?_) #[true, true, true, true, true, true, true, true, true, true, true, true, true, true, false] rfl rfl (any_of HT_.out (by kernel_rfl)) (fun _ _ _ h => h) (Or.inl ⟨by rfl, ?_⟩) ?_ ?_
                                    rotate_left
                                    · intro w'
                                      go_simp
                                      with_reducible rfl
                                    rotate_left
                                    · simp only [Act.put, List.setIfInBounds_toArray, List.set_cons_zero, List.set_cons_succ, i64_w, i32_w]
                                      rfl
                                    refine pure_ (i := 14) (N := some 25) (v := ?_) (a' := ?_) #[true, true, true, true, true, true, true, true, true, true, true, true, true, true, true] rfl rfl (any_of HT_.out (by kernel_rfl)) (fun _ _ _ h => h) (Or.inl ⟨by rfl, ?_⟩) ?_ ?_
                                    rotate_left
                                    · intro w'
                                      go_simp
                                      with_reducible rfl
                                    rotate_left
                                    · simp only [Act.put, List.setIfInBounds_toArray, List.set_cons_zero, List.set_cons_succ, i64_w, i32_w]
                                      rfl
                                    refine done_ (done_of HT_.out (by kernel_rfl)) ?_
                                    try go_wp2
                                    have n0_ := Aside0.mk (Kd.R_drew HO360.out)
                                    have n1_ := Aside0.mk (Kd.N_drew HO363.out)
                                    have n2_ := Aside0.mk (Kd.N_drew HO368.out)
                                    have n3_ := Aside0.mk (below_drew1 HB.out)
                                    clear HO360
                                    clear HO363
                                    clear HO368
                                    clear HB
                                    have HO360 := n0_
                                    have HO363 := n1_
                                    have HO368 := n2_
                                    have HB := n3_
                                    clear n0_ n1_ n2_ n3_
                                    have p374 : 0 ≤ (x18_1 : Int) := of_decide_eq_true (by first | (with_reducible assumption) | assumption)
                                    have q374 : x18_1 < (ls.length : Int) := of_decide_eq_true (by first | (with_reducible assumption) | assumption)
                                    obtain ⟨ad374, A374_0, c374_0, e374, hx374_0, hl374_0, hi374_0⟩ := at_L8 HRa.out x18_1 p374 q374
                                    have hw374_0 := hx374_0
                                    obtain rfl : ad357 = ad374 := (by injection e374)
                                    try replace hx374_0 := (HB.out.cell (World.block_lt_of_cell? wq _ hx374_0)).trans hx374_0
                                    have HR374_0 := Aside0.mk hi374_0
                                    have HC374_0 := Aside0.mk hl374_0
                                    clear hi374_0 hl374_0
                                    replace p374 := eq_true p374
                                    replace q374 := eq_true q374
                                    have p375 : 0 ≤ (x18_1 : Int) := of_decide_eq_true (by first | (with_reducible assumption) | assumption)
                                    have q375 : x18_1 < (la.length : Int) := of_decide_eq_true (by first | (with_reducible assumption) | assumption)
                                    obtain ⟨ad375, e375, hx375_0⟩ := Kd.at_int HRb.out x18_1 p375 q375
                                    have hw375_0 := hx375_0
                                    obtain rfl : ad370 = ad375 := (by injection e375)
                                    try replace hx375_0 := (HB.out.cell (World.block_lt_of_cell? wq _ hx375_0)).trans hx375_0
                                    replace p375 := eq_true p375
                                    replace q375 := eq_true q375
                                    have p376 : 0 ≤ (x18_1 : Int) := of_decide_eq_true (by first | (with_reducible assumption) | assumption)
                                    have q376 : x18_1 < (lb.length : Int) := of_decide_eq_true (by first | (with_reducible assumption) | assumption)
                                    obtain ⟨ad376, e376, hx376_0⟩ := Kd.at_int HRc.out x18_1 p376 q376
                                    have hw376_0 := hx376_0
                                    obtain rfl : ad371 = ad376 := (by injection e376)
                                    try replace hx376_0 := (HB.out.cell (World.block_lt_of_cell? wq _ hx376_0)).trans hx376_0
                                    replace p376 := eq_true p376
                                    replace q376 := eq_true q376
                                    refine start_ (n := 18) (S := fun w' => w'.cell? (ad357.add (x18_1).toNat) = some (.slice A374_0 (rd_L8 ls x18_1).length c374_0) ∧ w'.cell? (ad370.add (x18_1).toNat) = some (.int .i64 (rd la x18_1)) ∧ w'.cell? (ad371.add (x18_1).toNat) = some (.int .i64 (rd lb x18_1))) (ds := []) #[false, false, false, false, false, false, false, false, false, false, false, false, false, false, false, false, false, false] (by kernel_rfl) rfl rfl ⟨((HB.out.cell (World.block_lt_of_cell? wq _ hw374_0)).trans hw374_0), ((HB.out.cell (World.block_lt_of_cell? wq _ hw375_0)).trans hw375_0), ((HB.out.cell (World.block_lt_of_cell? wq _ hw376_0)).trans hw376_0)⟩ (fun hHeld => ?_); refine with_tabW cippuslaw07_loop10.tab14 cippuslaw07_loop10.bits14 (fun HT_ HW_ => ?_)
                                    generalize w28.drew = w29 at HO360 HO363 HO368 HB HR374_0 hx374_0 hx375_0 hx376_0 hHeld ⊢
                                    refine pure_ (i := 0) (N := some 109) (v := ?_) (a' := ?_) #[true, false, false, false, false, false, false, false, false, false, false, false, false, false, false, false, false, false] rfl rfl (any_of HT_.out (by kernel_rfl)) (fun _ _ _ h => h) (Or.inl ⟨by rfl, ?_⟩) ?_ ?_
                                    rotate_left
                                    · intro w'
                                      go_simp
                                      with_reducible rfl
                                    rotate_left
                                    · simp only [Act.put, List.setIfInBounds_toArray, List.set_cons_zero, List.set_cons_succ, i64_w, i32_w]
                                      rfl
                                    refine pure_ (i := 1) (N := some 110) (v := ?_) (a' := ?_) #[true, true, false, false, false, false, false, false, false, false, false, false, false, false, false, false, false, false] rfl rfl (any_of HT_.out (by kernel_rfl)) (fun _ _ _ h => h) (Or.inl ⟨by rfl, ?_⟩) ?_ ?_
                                    rotate_left
                                    · intro w'
                                      go_simp
                                      with_reducible rfl
                                    rotate_left
                                    · simp only [Act.put, List.setIfInBounds_toArray, List.set_cons_zero, List.set_cons_succ, i64_w, i32_w]
                                      rfl
                                    refine pure_ (i := 2) (N := some 111) (v := ?_) (a' := ?_) #[true, true, true, false, false, false, false, false, false, false, false, false, false, false, false, false, false, false] rfl rfl (any_of HT_.out (by kernel_rfl)) (fun _ _ _ h => h) (Or.inl ⟨by rfl, ?_⟩) ?_ ?_
                                    rotate_left
                                    · intro w'
                                      go_simp
                                      with_reducible rfl
                                    rotate_left
                                    · simp only [Act.put, List.setIfInBounds_toArray, List.set_cons_zero, List.set_cons_succ, i64_w, i32_w]
                                      rfl
                                    refine pure_ (i := 4) (N := some 113) (v := ?_) (a' := ?_) #[true, true, true, false, true, false, false, false, false, false, false, false, false, false, false, false, false, false] rfl rfl (any_of HT_.out (by kernel_rfl)) (fun _ _ _ h => h) (Or.inl ⟨by rfl, ?_⟩) ?_ ?_
                                    rotate_left
                                    · intro w'
                                      go_simp
                                      with_reducible rfl
                                    rotate_left
                                    · simp only [Act.put, List.setIfInBounds_toArray, List.set_cons_zero, List.set_cons_succ, i64_w, i32_w]
                                      rfl
                                    refine pure_ (i := 5) (N := some 114) (v := ?_) (a' := ?_) #[true, true, true, false, true, true, false, false, false, false, false, false, false, false, false, false, false, false] rfl rfl (any_of HT_.out (by kernel_rfl)) (fun _ _ _ h => h) (Or.inl ⟨by rfl, ?_⟩) ?_ ?_
                                    rotate_left
                                    · intro w'
                                      go_simp
                                      with_reducible rfl
                                    rotate_left
                                    · simp only [Act.put, List.setIfInBounds_toArray, List.set_cons_zero, List.set_cons_succ, i64_w, i32_w]
                                      rfl
                                    refine pure_ (i := 6) (N := some 115) (v := ?_) (a' := ?_) #[true, true, true, false, true, true, true, false, false, false, false, false, false, false, false, false, false, false] rfl rfl (any_of HT_.out (by kernel_rfl)) (fun _ _ _ h => h) (Or.inl ⟨by rfl, ?_⟩) ?_ ?_
                                    rotate_left
                                    · intro w'
                                      go_simp
                                      with_reducible rfl
                                    rotate_left
                                    · simp only [Act.put, List.setIfInBounds_toArray, List.set_cons_zero, List.set_cons_succ, i64_w, i32_w]
                                      rfl
                                    refine pure_ (i := 8) (N := some 117) (v := ?_) (a' := ?_) #[true, true, true, false, true, true, true, false, true, false, false, false, false, false, false, false, false, false] rfl rfl (any_of HT_.out (by kernel_rfl)) (fun _ _ _ h => h) (Or.inl ⟨by rfl, ?_⟩) ?_ ?_
                                    rotate_left
                                    · intro w'
                                      go_simp
                                      with_reducible rfl
                                    rotate_left
                                    · simp only [Act.put, List.setIfInBounds_toArray, List.set_cons_zero, List.set_cons_succ, i64_w, i32_w]
                                      rfl
                                    refine pure_ (i := 9) (N := some 118) (v := ?_) (a' := ?_) #[true, true, true, false, true, true, true, false, true, true, false, false, false, false, false, false, false, false] rfl rfl (any_of HT_.out (by kernel_rfl)) (fun _ _ _ h => h) (Or.inl ⟨by rfl, ?_⟩) ?_ ?_
                                    rotate_left
                                    · intro w'
                                      go_simp
                                      with_reducible rfl
                                    rotate_left
                                    · simp only [Act.put, List.setIfInBounds_toArray, List.set_cons_zero, List.set_cons_succ, i64_w, i32_w]
                                      rfl
                                    refine pure_ (i := 10) (N := some 119) (v := ?_) (a' := ?_) #[true, true, true, false, true, true, true, false, true, true, true, false, false, false, false, false, false, false] rfl rfl (any_of HT_.out (by kernel_rfl)) (fun _ _ _ h => h) (Or.inl ⟨by rfl, ?_⟩) ?_ ?_
                                    rotate_left
                                    · intro w'
                                      go_simp
                                      with_reducible rfl
                                    rotate_left
                                    · simp only [Act.put, List.setIfInBounds_toArray, List.set_cons_zero, List.set_cons_succ, i64_w, i32_w]
                                      rfl
                                    refine take_ (i := 3) (N := some 112) (v := ?_) (a' := ?_) #[true, true, true, true, true, true, true, false, true, true, true, false, false, false, false, false, false, false] rfl rfl (take_ofW HT_.out HW_.out (by kernel_rfl)) (fun _ _ _ h => h) (Or.inl ⟨by rfl, ?_⟩) hHeld ?_ ?_
                                    rotate_left
                                    · rintro w' ⟨s0, s1, s2⟩
                                      go_simp
                                      with_reducible rfl
                                    rotate_left
                                    · simp only [Act.put, List.setIfInBounds_toArray, List.set_cons_zero, List.set_cons_succ, i64_w, i32_w]
                                      rfl
                                    refine take_ (i := 7) (N := some 116) (v := ?_) (a' := ?_) #[true, true, true, true, true, true, true, true, true, true, true, false, false, false, false, false, false, false] rfl rfl (take_ofW HT_.out HW_.out (by kernel_rfl)) (fun _ _ _ h => h) (Or.inl ⟨by rfl, ?_⟩) hHeld ?_ ?_
                                    rotate_left
                                    · rintro w' ⟨s0, s1, s2⟩
                                      go_simp
                                      with_reducible rfl
                                    rotate_left
                                    · simp only [Act.put, List.setIfInBounds_toArray, List.set_cons_zero, List.set_cons_succ, i64_w, i32_w]
                                      rfl
                                    refine take_ (i := 11) (N := some 120) (v := ?_) (a' := ?_) #[true, true, true, true, true, true, true, true, true, true, true, true, false, false, false, false, false, false] rfl rfl (take_ofW HT_.out HW_.out (by kernel_rfl)) (fun _ _ _ h => h) (Or.inl ⟨by rfl, ?_⟩) hHeld ?_ ?_
                                    rotate_left
                                    · rintro w' ⟨s0, s1, s2⟩
                                      go_simp
                                      with_reducible rfl
                                    rotate_left
                                    · simp only [Act.put, List.setIfInBounds_toArray, List.set_cons_zero, List.set_cons_succ, i64_w, i32_w]
                                      rfl
                                    refine one_ (i := 12) (N := some 121) #[true, true, true, true, true, true, true, true, true, true, true, true, true, false, false, false, false, false] rfl rfl (one_of HT_.out (by kernel_rfl)) (by decide) (fun K hK => ?_)
                                    refine goes_ Try.func38 (by kernel_rfl) rfl #[.slice A374_0 (rd_L8 ls x18_1).length c374_0, .int .i64 (rd la x18_1), .int .i64 (rd lb x18_1)] (by rfl) rfl rfl (by (try simp only [List.map_toArray, List.map_cons, List.map_nil]); first | done | rfl | (simp only [List.length_drop, List.length_take]; rfl)) ?_
                                    with_reducible refine (cippusref07_Depends.calls k1 _ _ (rd_L8 ls x18_1) (rd la x18_1) (rd lb x18_1) t377 t378 _ ?side1 ?side2 A12.out).mono ?_
                                    (case side1 => repeat (first | exact (Kd.C_below HR374_0.out HB.out) | (with_reducible refine Kd.C_alloc ?_ _) | (with_reducible refine Kd.C_drewN ?_ _) | (with_reducible refine Kd.C_drew ?_)))
                                    (case side2 => exact HC374_0.out)
                                    rintro e w30 ⟨rfl, hb⟩
                                    refine ⟨_, rfl, ?_⟩
                                    have n0_ := Aside0.mk (Kd.R_below (by (with_reducible repeat (first | apply Kd.R_alloc | apply Kd.R_drewN | apply Kd.R_drew)); exact HO360.out) hb)
                                    have n1_ := Aside0.mk (Kd.N_below (by (with_reducible repeat (first | apply Kd.N_alloc | apply Kd.N_drewN | apply Kd.N_drew)); exact HO363.out) hb)
                                    have n2_ := Aside0.mk (Kd.N_below (by (with_reducible repeat (first | apply Kd.N_alloc | apply Kd.N_drewN | apply Kd.N_drew)); exact HO368.out) hb)
                                    have n3_ := Aside0.mk (below_step (by repeat (first | (with_reducible first | exact HB.out | apply below_alloc | apply pw_below_drewN | apply below_drew1) | exact HB.out)) hb)
                                    clear HO360
                                    clear HO363
                                    clear HO368
                                    clear HB
                                    have HO360 := n0_
                                    have HO363 := n1_
                                    have HO368 := n2_
                                    have HB := n3_
                                    clear n0_ n1_ n2_ n3_
                                    (try clear hb)
                                    (try clear hb2)
                                    (try clear hk)
                                    (try clear hi)
                                    refine hK.out _ _ ⟨((HB.out.cell (World.block_lt_of_cell? wq _ hw374_0)).trans hw374_0), ((HB.out.cell (World.block_lt_of_cell? wq _ hw375_0)).trans hw375_0), ((HB.out.cell (World.block_lt_of_cell? wq _ hw376_0)).trans hw376_0)⟩ (fun hHeld => ?_)
                                    clear hK K
                                    refine norm_ (a' := ?_) ?_ ?_
                                    rotate_left
                                    · show Act.put _ (some 121) _ = _
                                      simp only [Act.put, List.setIfInBounds_toArray, List.set_cons_zero, List.set_cons_succ, i64_w, i32_w]
                                      rfl
                                    refine pure_ (i := 13) (N := some 108) (v := ?_) (a' := ?_) #[true, true, true, true, true, true, true, true, true, true, true, true, true, true, false, false, false, false] rfl rfl (any_of HT_.out (by kernel_rfl)) (fun _ _ _ h => h) (Or.inl ⟨by rfl, ?_⟩) ?_ ?_
                                    rotate_left
                                    · intro w'
                                      go_simp
                                      with_reducible rfl
                                    rotate_left
                                    · simp only [Act.put, List.setIfInBounds_toArray, List.set_cons_zero, List.set_cons_succ, i64_w, i32_w]
                                      rfl
                                    refine pure_ (i := 14) (N := some 122) (v := ?_) (a' := ?_) #[true, true, true, true, true, true, true, true, true, true, true, true, true, true, true, false, false, false] rfl rfl (any_of HT_.out (by kernel_rfl)) (fun _ _ _ h => h) (Or.inl ⟨by rfl, ?_⟩) ?_ ?_
                                    rotate_left
                                    · intro w'
                                      go_simp
                                      with_reducible rfl
                                    rotate_left
                                    · simp only [Act.put, List.setIfInBounds_toArray, List.set_cons_zero, List.set_cons_succ, i64_w, i32_w]
                                      rfl
                                    refine pure_ (i := 15) (N := some 123) (v := ?_) (a' := ?_) #[true, true, true, true, true, true, true, true, true, true, true, true, true, true, true, true, false, false] rfl rfl (any_of HT_.out (by kernel_rfl)) (fun _ _ _ h => h) (Or.inl ⟨by rfl, ?_⟩) ?_ ?_
                                    rotate_left
                                    · intro w'
                                      go_simp
                                      with_reducible rfl
                                    rotate_left
                                    · simp only [Act.put, List.setIfInBounds_toArray, List.set_cons_zero, List.set_cons_succ, i64_w, i32_w]
                                      rfl
                                    refine pure_ (i := 16) (N := some 26) (v := ?_) (a' := ?_) #[true, true, true, true, true, true, true, true, true, true, true, true, true, true, true, true, true, false] rfl rfl (any_of HT_.out (by kernel_rfl)) (fun _ _ _ h => h) (Or.inl ⟨by rfl, ?_⟩) ?_ ?_
                                    rotate_left
                                    · intro w'
                                      go_simp
                                      with_reducible rfl
                                    rotate_left
                                    · simp only [Act.put, List.setIfInBounds_toArray, List.set_cons_zero, List.set_cons_succ, i64_w, i32_w]
                                      rfl
                                    refine pure_ (i := 17) (N := some 27) (v := ?_) (a' := ?_) #[true, true, true, true, true, true, true, true, true, true, true, true, true, true, true, true, true, true] rfl rfl (any_of HT_.out (by kernel_rfl)) (fun _ _ _ h => h) (Or.inl ⟨by rfl, ?_⟩) ?_ ?_
                                    rotate_left
                                    · intro w'
                                      go_simp
                                      with_reducible rfl
                                    rotate_left
                                    · simp only [Act.put, List.setIfInBounds_toArray, List.set_cons_zero, List.set_cons_succ, i64_w, i32_w]
                                      rfl
                                    refine done_ (done_of HT_.out (by kernel_rfl)) ?_
                                    try go_wp2
                                    have n0_ := Aside0.mk (Kd.R_drew HO360.out)
                                    have n1_ := Aside0.mk (Kd.N_drew HO363.out)
                                    have n2_ := Aside0.mk (Kd.N_drew HO368.out)
                                    have n3_ := Aside0.mk (below_drew1 HB.out)
                                    clear HO360
                                    clear HO363
                                    clear HO368
                                    clear HB
                                    have HO360 := n0_
                                    have HO363 := n1_
                                    have HO368 := n2_
                                    have HB := n3_
                                    clear n0_ n1_ n2_ n3_
                                    have p380 : 0 ≤ (x18_1 : Int) := of_decide_eq_true (by first | (with_reducible assumption) | assumption)
                                    have q380 : x18_1 < (ls.length : Int) := of_decide_eq_true (by first | (with_reducible assumption) | assumption)
                                    obtain ⟨ad380, A380_0, c380_0, e380, hx380_0, hl380_0, hi380_0⟩ := at_L8 HRa.out x18_1 p380 q380
                                    have hw380_0 := hx380_0
                                    obtain rfl : ad357 = ad380 := (by injection e380)
                                    try replace hx380_0 := (HB.out.cell (World.block_lt_of_cell? wq _ hx380_0)).trans hx380_0
                                    have HR380_0 := Aside0.mk hi380_0
                                    have HC380_0 := Aside0.mk hl380_0
                                    clear hi380_0 hl380_0
                                    replace p380 := eq_true p380
                                    replace q380 := eq_true q380
                                    have p383 : 0 ≤ (x18_1 : Int) := of_decide_eq_true (by first | (with_reducible assumption) | assumption)
                                    have q383 : x18_1 < (ls.length : Int) := of_decide_eq_true (by first | (with_reducible assumption) | assumption)
                                    obtain ⟨ad383, A383_0, c383_0, e383, hx383_0, hl383_0, hi383_0⟩ := at_L8 HRa.out x18_1 p383 q383
                                    have hw383_0 := hx383_0
                                    obtain rfl : ad357 = ad383 := (by injection e383)
                                    try replace hx383_0 := (HB.out.cell (World.block_lt_of_cell? wq _ hx383_0)).trans hx383_0
                                    have HR383_0 := Aside0.mk hi383_0
                                    have HC383_0 := Aside0.mk hl383_0
                                    clear hi383_0 hl383_0
                                    replace p383 := eq_true p383
                                    replace q383 := eq_true q383
                                    refine start_ (n := 38) (S := fun w' => w'.cell? (ad357.add (x18_1).toNat) = some (.slice A380_0 (rd_L8 ls x18_1).length c380_0) ∧ w'.cell? (ad357.add (x18_1).toNat) = some (.slice A383_0 (rd_L8 ls x18_1).length c383_0)) (ds := []) #[false, false, false, false, false, false, false, false, false, false, false, false, false, false, false, false, false, false, false, false, false, false, false, false, false, false, false, false, false, false, false, false, false, false, false, false, false, false] (by kernel_rfl) rfl rfl ⟨((HB.out.cell (World.block_lt_of_cell? wq _ hw380_0)).trans hw380_0), ((HB.out.cell (World.block_lt_of_cell? wq _ hw383_0)).trans hw383_0)⟩ (fun hHeld => ?_); refine with_tabW cippuslaw07_loop10.tab15 cippuslaw07_loop10.bits15 (fun HT_ HW_ => ?_)
                                    generalize w30.drew = w31 at HO360 HO363 HO368 HB HR380_0 HR383_0 hx380_0 hx383_0 hHeld ⊢
                                    refine pure_ (i := 0) (N := some 124) (v := ?_) (a' := ?_) #[true, false, false, false, false, false, false, false, false, false, false, false, false, false, false, false, false, false, false, false, false, false, false, false, false, false, false, false, false, false, false, false, false, false, false, false, false, false] rfl rfl (any_of HT_.out (by kernel_rfl)) (fun _ _ _ h => h) (Or.inl ⟨by rfl, ?_⟩) ?_ ?_
                                    rotate_left
                                    · intro w'
                                      go_simp
                                      with_reducible rfl
                                    rotate_left
                                    · simp only [Act.put, List.setIfInBounds_toArray, List.set_cons_zero, List.set_cons_succ, i64_w, i32_w]
                                      rfl
                                    refine pure_ (i := 2) (N := some 126) (v := ?_) (a' := ?_) #[true, false, true, false, false, false, false, false, false, false, false, false, false, false, false, false, false, false, false, false, false, false, false, false, false, false, false, false, false, false, false, false, false, false, false, false, false, false] rfl rfl (any_of HT_.out (by kernel_rfl)) (fun _ _ _ h => h) (Or.inl ⟨by rfl, ?_⟩) ?_ ?_
                                    rotate_left
                                    · intro w'
                                      go_simp
                                      with_reducible rfl
                                    rotate_left
                                    · simp only [Act.put, List.setIfInBounds_toArray, List.set_cons_zero, List.set_cons_succ, i64_w, i32_w]
                                      rfl
                                    refine pure_ (i := 3) (N := some 127) (v := ?_) (a' := ?_) #[true, false, true, true, false, false, false, false, false, false, false, false, false, false, false, false, false, false, false, false, false, false, false, false, false, false, false, false, false, false, false, false, false, false, false, false, false, false] rfl rfl (any_of HT_.out (by kernel_rfl)) (fun _ _ _ h => h) (Or.inl ⟨by rfl, ?_⟩) ?_ ?_
                                    rotate_left
                                    · intro w'
                                      go_simp
                                      with_reducible rfl
                                    rotate_left
                                    · simp only [Act.put, List.setIfInBounds_toArray, List.set_cons_zero, List.set_cons_succ, i64_w, i32_w]
                                      rfl
                                    refine pure_ (i := 4) (N := some 128) (v := ?_) (a' := ?_) #[true, false, true, true, true, false, false, false, false, false, false, false, false, false, false, false, false, false, false, false, false, false, false, false, false, false, false, false, false, false, false, false, false, false, false, false, false, false] rfl rfl (any_of HT_.out (by kernel_rfl)) (fun _ _ _ h => h) (Or.inl ⟨by rfl, ?_⟩) ?_ ?_
                                    rotate_left
                                    · intro w'
                                      go_simp
                                      with_reducible rfl
                                    rotate_left
                                    · simp only [Act.put, List.setIfInBounds_toArray, List.set_cons_zero, List.set_cons_succ, i64_w, i32_w]
                                      rfl
                                    refine take_ (i := 5) (N := some 129) (v := ?_) (a' := ?_) #[true, false, true, true, true, true, false, false, false, false, false, false, false, false, false, false, false, false, false, false, false, false, false, false, false, false, false, false, false, false, false, false, false, false, false, false, false, false] rfl rfl (take_ofW HT_.out HW_.out (by kernel_rfl)) (fun _ _ _ h => h) (Or.inl ⟨by rfl, ?_⟩) hHeld ?_ ?_
                                    rotate_left
                                    · rintro w' ⟨s0, s1⟩
                                      go_simp
                                      with_reducible rfl
                                    rotate_left
                                    · simp only [Act.put, List.setIfInBounds_toArray, List.set_cons_zero, List.set_cons_succ, i64_w, i32_w]
                                      rfl
                                    refine one_ (i := 1) (N := some 125) #[true, true, true, true, true, true, false, false, false, false, false, false, false, false, false, false, false, false, false, false, false, false, false, false, false, false, false, false, false, false, false, false, false, false, false, false, false, false] rfl rfl (one_of HT_.out (by kernel_rfl)) (by decide) (fun K hK => ?_)
                                    refine goes_ Try.func39 (by kernel_rfl) rfl #[.slice Ao24 t358.length co24] (by rfl) rfl rfl (by (try simp only [List.map_toArray, List.map_cons, List.map_nil]); first | done | rfl | (simp only [List.length_drop, List.length_take]; rfl)) ?_
                                    with_reducible refine (stemma_Check.calls k1 _ _ t358 t379 _ ?side1 ?side2 A13.out).mono ?_
                                    (case side1 => repeat (first | exact (Kd.R_reads' HO360.out).2.2 | (with_reducible refine Kd.C_alloc ?_ _) | (with_reducible refine Kd.C_drewN ?_ _) | (with_reducible refine Kd.C_drew ?_)))
                                    (case side2 => exact (Kd.R_reads' HO360.out).2.1)
                                    rintro e w32 ⟨rfl, hb⟩
                                    refine ⟨_, rfl, ?_⟩
                                    have n0_ := Aside0.mk (Kd.R_below (by (with_reducible repeat (first | apply Kd.R_alloc | apply Kd.R_drewN | apply Kd.R_drew)); exact HO360.out) hb)
                                    have n1_ := Aside0.mk (Kd.N_below (by (with_reducible repeat (first | apply Kd.N_alloc | apply Kd.N_drewN | apply Kd.N_drew)); exact HO363.out) hb)
                                    have n2_ := Aside0.mk (Kd.N_below (by (with_reducible repeat (first | apply Kd.N_alloc | apply Kd.N_drewN | apply Kd.N_drew)); exact HO368.out) hb)
                                    have n3_ := Aside0.mk (below_step (by repeat (first | (with_reducible first | exact HB.out | apply below_alloc | apply pw_below_drewN | apply below_drew1) | exact HB.out)) hb)
                                    clear HO360
                                    clear HO363
                                    clear HO368
                                    clear HB
                                    have HO360 := n0_
                                    have HO363 := n1_
                                    have HO368 := n2_
                                    have HB := n3_
                                    clear n0_ n1_ n2_ n3_
                                    (try clear hb)
                                    (try clear hb2)
                                    (try clear hk)
                                    (try clear hi)
                                    refine hK.out _ _ ⟨((HB.out.cell (World.block_lt_of_cell? wq _ hw380_0)).trans hw380_0), ((HB.out.cell (World.block_lt_of_cell? wq _ hw383_0)).trans hw383_0)⟩ (fun hHeld => ?_)
                                    clear hK K
                                    refine norm_ (a' := ?_) ?_ ?_
                                    rotate_left
                                    · show Act.put _ (some 125) _ = _
                                      simp only [Act.put, List.setIfInBounds_toArray, List.set_cons_zero, List.set_cons_succ, i64_w, i32_w]
                                      rfl
                                    refine one_ (i := 6) (N := some 130) #[true, true, true, true, true, true, true, false, false, false, false, false, false, false, false, false, false, false, false, false, false, false, false, false, false, false, false, false, false, false, false, false, false, false, false, false, false, false] rfl rfl (one_of HT_.out (by kernel_rfl)) (by decide) (fun K hK => ?_)
                                    refine goes_ Try.func40 (by kernel_rfl) rfl #[.slice A380_0 (rd_L8 ls x18_1).length c380_0] (by rfl) rfl rfl (by (try simp only [List.map_toArray, List.map_cons, List.map_nil]); first | done | rfl | (simp only [List.length_drop, List.length_take]; rfl)) ?_
                                    with_reducible refine (cippusref07_Check.calls k1 _ _ (rd_L8 ls x18_1) t381 _ ?side1 ?side2 A14.out).mono ?_
                                    (case side1 => repeat (first | exact (Kd.C_below HR380_0.out HB.out) | (with_reducible refine Kd.C_alloc ?_ _) | (with_reducible refine Kd.C_drewN ?_ _) | (with_reducible refine Kd.C_drew ?_)))
                                    (case side2 => exact HC380_0.out)
                                    rintro e w' ⟨rfl, ⟨nd, rfl⟩⟩
                                    refine ⟨_, rfl, ?_⟩
                                    obtain ⟨Ao33, co33, eo33⟩ := Kd.N_slice HO363.out
                                    (first | subst eo33 | (injection eo33 with f1_ f2_ f3_; have f4_ := f1_.symm; have f5_ := f3_.symm; clear f1_ f2_ f3_; subst f4_; subst f5_))
                                    obtain ⟨Ao34, co34, eo34⟩ := Kd.N_slice HO368.out
                                    (first | subst eo34 | (injection eo34 with f1_ f2_ f3_; have f4_ := f1_.symm; have f5_ := f3_.symm; clear f1_ f2_ f3_; subst f4_; subst f5_))
                                    refine hK.out _ _ ⟨((HB.out.cell (World.block_lt_of_cell? wq _ hw380_0)).trans hw380_0), ((HB.out.cell (World.block_lt_of_cell? wq _ hw383_0)).trans hw383_0)⟩ (fun hHeld => ?_)
                                    clear hK K
                                    refine norm_ (a' := ?_) ?_ ?_
                                    rotate_left
                                    · show Act.put _ (some 130) _ = _
                                      simp only [Act.put, List.setIfInBounds_toArray, List.set_cons_zero, List.set_cons_succ, i64_w, i32_w]
                                      rfl
                                    refine pure_ (i := 7) (N := some 131) (v := ?_) (a' := ?_) #[true, true, true, true, true, true, true, true, false, false, false, false, false, false, false, false, false, false, false, false, false, false, false, false, false, false, false, false, false, false, false, false, false, false, false, false, false, false] rfl rfl (any_of HT_.out (by kernel_rfl)) (fun _ _ _ h => h) (Or.inl ⟨by rfl, ?_⟩) ?_ ?_
                                    rotate_left
                                    · intro w'
                                      go_simp
                                      with_reducible rfl
                                    rotate_left
                                    · simp only [Act.put, List.setIfInBounds_toArray, List.set_cons_zero, List.set_cons_succ, i64_w, i32_w]
                                      rfl
                                    refine pure_ (i := 8) (N := some 132) (v := ?_) (a' := ?_) #[true, true, true, true, true, true, true, true, true, false, false, false, false, false, false, false, false, false, false, false, false, false, false, false, false, false, false, false, false, false, false, false, false, false, false, false, false, false] rfl rfl (any_of HT_.out (by kernel_rfl)) (fun _ _ _ h => h) (Or.inl ⟨by rfl, ?_⟩) ?_ ?_
                                    rotate_left
                                    · intro w'
                                      go_simp
                                      with_reducible rfl
                                    rotate_left
                                    · simp only [Act.put, List.setIfInBounds_toArray, List.set_cons_zero, List.set_cons_succ, i64_w, i32_w]
                                      rfl
                                    refine pure_ (i := 9) (N := some 133) (v := ?_) (a' := ?_) #[true, true, true, true, true, true, true, true, true, true, false, false, false, false, false, false, false, false, false, false, false, false, false, false, false, false, false, false, false, false, false, false, false, false, false, false, false, false] rfl rfl (any_of HT_.out (by kernel_rfl)) (fun _ _ _ h => h) (Or.inl ⟨by rfl, ?_⟩) ?_ ?_
                                    rotate_left
                                    · intro w'
                                      go_simp
                                      with_reducible rfl
                                    rotate_left
                                    · simp only [Act.put, List.setIfInBounds_toArray, List.set_cons_zero, List.set_cons_succ, i64_w, i32_w]
                                      rfl
                                    refine pure_ (i := 10) (N := some 134) (v := ?_) (a' := ?_) #[true, true, true, true, true, true, true, true, true, true, true, false, false, false, false, false, false, false, false, false, false, false, false, false, false, false, false, false, false, false, false, false, false, false, false, false, false, false] rfl rfl (any_of HT_.out (by kernel_rfl)) (fun _ _ _ h => h) (Or.inl ⟨by rfl, ?_⟩) ?_ ?_
                                    rotate_left
                                    · intro w'
                                      go_simp
                                      with_reducible rfl
                                    rotate_left
                                    · simp only [Act.put, List.setIfInBounds_toArray, List.set_cons_zero, List.set_cons_succ, i64_w, i32_w]
                                      rfl
                                    refine pure_ (i := 11) (N := some 135) (v := ?_) (a' := ?_) #[true, true, true, true, true, true, true, true, true, true, true, true, false, false, false, false, false, false, false, false, false, false, false, false, false, false, false, false, false, false, false, false, false, false, false, false, false, false] rfl rfl (any_of HT_.out (by kernel_rfl)) (fun _ _ _ h => h) (Or.inl ⟨by rfl, ?_⟩) ?_ ?_
                                    rotate_left
                                    · intro w'
                                      go_simp
                                      with_reducible rfl
                                    rotate_left
                                    · simp only [Act.put, List.setIfInBounds_toArray, List.set_cons_zero, List.set_cons_succ, i64_w, i32_w]
                                      rfl
                                    refine pure_ (i := 12) (N := some 136) (v := ?_) (a' := ?_) #[true, true, true, true, true, true, true, true, true, true, true, true, true, false, false, false, false, false, false, false, false, false, false, false, false, false, false, false, false, false, false, false, false, false, false, false, false, false] rfl rfl (any_of HT_.out (by kernel_rfl)) (fun _ _ _ h => h) (Or.inl ⟨by rfl, ?_⟩) ?_ ?_
                                    rotate_left
                                    · intro w'
                                      go_simp
                                      with_reducible rfl
                                    rotate_left
                                    · simp only [Act.put, List.setIfInBounds_toArray, List.set_cons_zero, List.set_cons_succ, i64_w, i32_w]
                                      rfl
                                    refine pure_ (i := 13) (N := some 137) (v := ?_) (a' := ?_) #[true, true, true, true, true, true, true, true, true, true, true, true, true, true, false, false, false, false, false, false, false, false, false, false, false, false, false, false, false, false, false, false, false, false, false, false, false, false] rfl rfl (any_of HT_.out (by kernel_rfl)) (fun _ _ _ h => h) (Or.inl ⟨by rfl, ?_⟩) ?_ ?_
                                    rotate_left
                                    · intro w'
                                      go_simp
                                      with_reducible rfl
                                    rotate_left
                                    · simp only [Act.put, List.setIfInBounds_toArray, List.set_cons_zero, List.set_cons_succ, i64_w, i32_w]
                                      rfl
                                    refine pure_ (i := 14) (N := some 138) (v := ?_) (a' := ?_) #[true, true, true, true, true, true, true, true, true, true, true, true, true, true, true, false, false, false, false, false, false, false, false, false, false, false, false, false, false, false, false, false, false, false, false, false, false, false] rfl rfl (any_of HT_.out (by kernel_rfl)) (fun _ _ _ h => h) (Or.inl ⟨by rfl, ?_⟩) ?_ ?_
                                    rotate_left
                                    · intro w'
                                      go_simp
                                      with_reducible rfl
                                    rotate_left
                                    · simp only [Act.put, List.setIfInBounds_toArray, List.set_cons_zero, List.set_cons_succ, i64_w, i32_w]
                                      rfl
                                    refine pure_ (i := 15) (N := some 139) (v := ?_) (a' := ?_) #[true, true, true, true, true, true, true, true, true, true, true, true, true, true, true, true, false, false, false, false, false, false, false, false, false, false, false, false, false, false, false, false, false, false, false, false, false, false] rfl rfl (any_of HT_.out (by kernel_rfl)) (fun _ _ _ h => h) (Or.inl ⟨by rfl, ?_⟩) ?_ ?_
                                    rotate_left
                                    · intro w'
                                      go_simp
                                      with_reducible rfl
                                    rotate_left
                                    · simp only [Act.put, List.setIfInBounds_toArray, List.set_cons_zero, List.set_cons_succ, i64_w, i32_w]
                                      rfl
                                    refine pure_ (i := 16) (N := some 140) (v := ?_) (a' := ?_) #[true, true, true, true, true, true, true, true, true, true, true, true, true, true, true, true, true, false, false, false, false, false, false, false, false, false, false, false, false, false, false, false, false, false, false, false, false, false] rfl rfl (any_of HT_.out (by kernel_rfl)) (fun _ _ _ h => h) (Or.inl ⟨by rfl, ?_⟩) ?_ ?_
                                    rotate_left
                                    · intro w'
                                      go_simp
                                      with_reducible rfl
                                    rotate_left
                                    · simp only [Act.put, List.setIfInBounds_toArray, List.set_cons_zero, List.set_cons_succ, i64_w, i32_w]
                                      rfl
                                    refine pure_ (i := 17) (N := some 141) (v := ?_) (a' := ?_) #[true, true, true, true, true, true, true, true, true, true, true, true, true, true, true, true, true, true, false, false, false, false, false, false, false, false, false, false, false, false, false, false, false, false, false, false, false, false] rfl rfl (any_of HT_.out (by kernel_rfl)) (fun _ _ _ h => h) (Or.inl ⟨by rfl, ?_⟩) ?_ ?_
                                    rotate_left
                                    · intro w'
                                      go_simp
                                      with_reducible rfl
                                    rotate_left
                                    · simp only [Act.put, List.setIfInBounds_toArray, List.set_cons_zero, List.set_cons_succ, i64_w, i32_w]
                                      rfl
                                    refine pure_ (i := 18) (N := some 142) (v := ?_) (a' := ?_) #[true, true, true, true, true, true, true, true, true, true, true, true, true, true, true, true, true, true, true, false, false, false, false, false, false, false, false, false, false, false, false, false, false, false, false, false, false, false] rfl rfl (any_of HT_.out (by kernel_rfl)) (fun _ _ _ h => h) (Or.inl ⟨by rfl, ?_⟩) ?_ ?_
                                    rotate_left
                                    · intro w'
                                      go_simp
                                      with_reducible rfl
                                    rotate_left
                                    · simp only [Act.put, List.setIfInBounds_toArray, List.set_cons_zero, List.set_cons_succ, i64_w, i32_w]
                                      rfl
                                    refine pure_ (i := 19) (N := some 143) (v := ?_) (a' := ?_) #[true, true, true, true, true, true, true, true, true, true, true, true, true, true, true, true, true, true, true, true, false, false, false, false, false, false, false, false, false, false, false, false, false, false, false, false, false, false] rfl rfl (any_of HT_.out (by kernel_rfl)) (fun _ _ _ h => h) (Or.inl ⟨by rfl, ?_⟩) ?_ ?_
                                    rotate_left
                                    · intro w'
                                      go_simp
                                      with_reducible rfl
                                    rotate_left
                                    · simp only [Act.put, List.setIfInBounds_toArray, List.set_cons_zero, List.set_cons_succ, i64_w, i32_w]
                                      rfl
                                    refine pure_ (i := 20) (N := some 144) (v := ?_) (a' := ?_) #[true, true, true, true, true, true, true, true, true, true, true, true, true, true, true, true, true, true, true, true, true, false, false, false, false, false, false, false, false, false, false, false, false, false, false, false, false, false] rfl rfl (any_of HT_.out (by kernel_rfl)) (fun _ _ _ h => h) (Or.inl ⟨by rfl, ?_⟩) ?_ ?_
                                    rotate_left
                                    · intro w'
                                      go_simp
                                      with_reducible rfl
                                    rotate_left
                                    · simp only [Act.put, List.setIfInBounds_toArray, List.set_cons_zero, List.set_cons_succ, i64_w, i32_w]
                                      rfl
                                    refine pure_ (i := 21) (N := some 145) (v := ?_) (a' := ?_) #[true, true, true, true, true, true, true, true, true, true, true, true, true, true, true, true, true, true, true, true, true, true, false, false, false, false, false, false, false, false, false, false, false, false, false, false, false, false] rfl rfl (any_of HT_.out (by kernel_rfl)) (fun _ _ _ h => h) (Or.inl ⟨by rfl, ?_⟩) ?_ ?_
                                    rotate_left
                                    · intro w'
                                      go_simp
                                      with_reducible rfl
                                    rotate_left
                                    · simp only [Act.put, List.setIfInBounds_toArray, List.set_cons_zero, List.set_cons_succ, i64_w, i32_w]
                                      rfl
                                    refine pure_ (i := 22) (N := some 146) (v := ?_) (a' := ?_) #[true, true, true, true, true, true, true, true, true, true, true, true, true, true, true, true, true, true, true, true, true, true, true, false, false, false, false, false, false, false, false, false, false, false, false, false, false, false] rfl rfl (any_of HT_.out (by kernel_rfl)) (fun _ _ _ h => h) (Or.inl ⟨by rfl, ?_⟩) ?_ ?_
                                    rotate_left
                                    · intro w'
                                      go_simp
                                      with_reducible rfl
                                    rotate_left
                                    · simp only [Act.put, List.setIfInBounds_toArray, List.set_cons_zero, List.set_cons_succ, i64_w, i32_w]
                                      rfl
                                    refine pure_ (i := 23) (N := some 147) (v := ?_) (a' := ?_) #[true, true, true, true, true, true, true, true, true, true, true, true, true, true, true, true, true, true, true, true, true, true, true, true, false, false, false, false, false, false, false, false, false, false, false, false, false, false] rfl rfl (any_of HT_.out (by kernel_rfl)) (fun _ _ _ h => h) (Or.inl ⟨by rfl, ?_⟩) ?_ ?_
                                    rotate_left
                                    · intro w'
                                      go_simp
                                      with_reducible rfl
                                    rotate_left
                                    · simp only [Act.put, List.setIfInBounds_toArray, List.set_cons_zero, List.set_cons_succ, i64_w, i32_w]
                                      rfl
                                    refine pure_ (i := 24) (N := some 148) (v := ?_) (a' := ?_) #[true, true, true, true, true, true, true, true, true, true, true, true, true, true, true, true, true, true, true, true, true, true, true, true, true, false, false, false, false, false, false, false, false, false, false, false, false, false] rfl rfl (any_of HT_.out (by kernel_rfl)) (fun _ _ _ h => h) (Or.inl ⟨by rfl, ?_⟩) ?_ ?_
                                    rotate_left
                                    · intro w'
                                      go_simp
                                      with_reducible rfl
                                    rotate_left
                                    · simp only [Act.put, List.setIfInBounds_toArray, List.set_cons_zero, List.set_cons_succ, i64_w, i32_w]
                                      rfl
                                    refine pure_ (i := 25) (N := some 149) (v := ?_) (a' := ?_) #[true, true, true, true, true, true, true, true, true, true, true, true, true, true, true, true, true, true, true, true, true, true, true, true, true, true, false, false, false, false, false, false, false, false, false, false, false, false] rfl rfl (any_of HT_.out (by kernel_rfl)) (fun _ _ _ h => h) (Or.inl ⟨by rfl, ?_⟩) ?_ ?_
                                    rotate_left
                                    · intro w'
                                      go_simp
                                      with_reducible rfl
                                    rotate_left
                                    · simp only [Act.put, List.setIfInBounds_toArray, List.set_cons_zero, List.set_cons_succ, i64_w, i32_w]
                                      rfl
                                    refine one_ (i := 26) (N := some 150) #[true, true, true, true, true, true, true, true, true, true, true, true, true, true, true, true, true, true, true, true, true, true, true, true, true, true, true, false, false, false, false, false, false, false, false, false, false, false] rfl rfl (one_of HT_.out (by kernel_rfl)) (by decide) (fun K hK => ?_)
                                    refine goes_ Try.func35 (by kernel_rfl) rfl #[.slice Ao33 t361.length co33, .slice Ao34 t366.length co34] (by rfl) rfl rfl (by (try simp only [List.map_toArray, List.map_cons, List.map_nil]); first | done | rfl | (simp only [List.length_drop, List.length_take]; rfl)) ?_
                                    with_reducible refine (cippuskit_SameGrids.calls k1 _ _ t361 _ _ t366 true _ ?side1 ?side2 ?side3 ?side4 A19.out).mono ?_
                                    (case side1 => repeat (first | exact (Kd.N_reads' HO363.out).2.2 | (with_reducible refine Kd.C_alloc ?_ _) | (with_reducible refine Kd.C_drewN ?_ _) | (with_reducible refine Kd.C_drew ?_)))
                                    (case side2 => exact (Kd.N_reads' HO363.out).2.1)
                                    (case side3 => repeat (first | exact (Kd.N_reads' HO368.out).2.2 | (with_reducible refine Kd.C_alloc ?_ _) | (with_reducible refine Kd.C_drewN ?_ _) | (with_reducible refine Kd.C_drew ?_)))
                                    (case side4 => exact (Kd.N_reads' HO368.out).2.1)
                                    rintro e w' ⟨rfl, ⟨nd, rfl⟩⟩
                                    refine ⟨_, rfl, ?_⟩
                                    refine hK.out _ _ ⟨((HB.out.cell (World.block_lt_of_cell? wq _ hw380_0)).trans hw380_0), ((HB.out.cell (World.block_lt_of_cell? wq _ hw383_0)).trans hw383_0)⟩ (fun hHeld => ?_)
                                    clear hK K
                                    refine norm_ (a' := ?_) ?_ ?_
                                    rotate_left
                                    · show Act.put _ (some 150) _ = _
                                      simp only [Act.put, List.setIfInBounds_toArray, List.set_cons_zero, List.set_cons_succ, i64_w, i32_w]
                                      rfl
                                    refine pure_ (i := 27) (N := some 151) (v := ?_) (a' := ?_) #[true, true, true, true, true, true, true, true, true, true, true, true, true, true, true, true, true, true, true, true, true, true, true, true, true, true, true, true, false, false, false, false, false, false, false, false, false, false] rfl rfl (any_of HT_.out (by kernel_rfl)) (fun _ _ _ h => h) (Or.inl ⟨by rfl, ?_⟩) ?_ ?_
                                    rotate_left
                                    · intro w'
                                      go_simp
                                      with_reducible rfl
                                    rotate_left
                                    · simp only [Act.put, List.setIfInBounds_toArray, List.set_cons_zero, List.set_cons_succ, i64_w, i32_w]
                                      rfl
                                    refine pure_ (i := 28) (N := some 152) (v := ?_) (a' := ?_) #[true, true, true, true, true, true, true, true, true, true, true, true, true, true, true, true, true, true, true, true, true, true, true, true, true, true, true, true, true, false, false, false, false, false, false, false, false, false] rfl rfl (any_of HT_.out (by kernel_rfl)) (fun _ _ _ h => h) (Or.inl ⟨by rfl, ?_⟩) ?_ ?_
                                    rotate_left
                                    · intro w'
                                      go_simp
                                      with_reducible rfl
                                    rotate_left
                                    · simp only [Act.put, List.setIfInBounds_toArray, List.set_cons_zero, List.set_cons_succ, i64_w, i32_w]
                                      rfl
                                    refine pure_ (i := 29) (N := some 153) (v := ?_) (a' := ?_) #[true, true, true, true, true, true, true, true, true, true, true, true, true, true, true, true, true, true, true, true, true, true, true, true, true, true, true, true, true, true, false, false, false, false, false, false, false, false] rfl rfl (any_of HT_.out (by kernel_rfl)) (fun _ _ _ h => h) (Or.inl ⟨by rfl, ?_⟩) ?_ ?_
                                    rotate_left
                                    · intro w'
                                      go_simp
                                      with_reducible rfl
                                    rotate_left
                                    · simp only [Act.put, List.setIfInBounds_toArray, List.set_cons_zero, List.set_cons_succ, i64_w, i32_w]
                                      rfl
                                    refine pure_ (i := 30) (N := some 154) (v := ?_) (a' := ?_) #[true, true, true, true, true, true, true, true, true, true, true, true, true, true, true, true, true, true, true, true, true, true, true, true, true, true, true, true, true, true, true, false, false, false, false, false, false, false] rfl rfl (any_of HT_.out (by kernel_rfl)) (fun _ _ _ h => h) (Or.inl ⟨by rfl, ?_⟩) ?_ ?_
                                    rotate_left
                                    · intro w'
                                      go_simp
                                      with_reducible rfl
                                    rotate_left
                                    · simp only [Act.put, List.setIfInBounds_toArray, List.set_cons_zero, List.set_cons_succ, i64_w, i32_w]
                                      rfl
                                    refine pure_ (i := 31) (N := some 155) (v := ?_) (a' := ?_) #[true, true, true, true, true, true, true, true, true, true, true, true, true, true, true, true, true, true, true, true, true, true, true, true, true, true, true, true, true, true, true, true, false, false, false, false, false, false] rfl rfl (any_of HT_.out (by kernel_rfl)) (fun _ _ _ h => h) (Or.inl ⟨by rfl, ?_⟩) ?_ ?_
                                    rotate_left
                                    · intro w'
                                      go_simp
                                      with_reducible rfl
                                    rotate_left
                                    · simp only [Act.put, List.setIfInBounds_toArray, List.set_cons_zero, List.set_cons_succ, i64_w, i32_w]
                                      rfl
                                    refine pure_ (i := 32) (N := some 156) (v := ?_) (a' := ?_) #[true, true, true, true, true, true, true, true, true, true, true, true, true, true, true, true, true, true, true, true, true, true, true, true, true, true, true, true, true, true, true, true, true, false, false, false, false, false] rfl rfl (any_of HT_.out (by kernel_rfl)) (fun _ _ _ h => h) (Or.inl ⟨by rfl, ?_⟩) ?_ ?_
                                    rotate_left
                                    · intro w'
                                      go_simp
                                      with_reducible rfl
                                    rotate_left
                                    · simp only [Act.put, List.setIfInBounds_toArray, List.set_cons_zero, List.set_cons_succ, i64_w, i32_w]
                                      rfl
                                    refine pure_ (i := 33) (N := some 157) (v := ?_) (a' := ?_) #[true, true, true, true, true, true, true, true, true, true, true, true, true, true, true, true, true, true, true, true, true, true, true, true, true, true, true, true, true, true, true, true, true, true, false, false, false, false] rfl rfl (any_of HT_.out (by kernel_rfl)) (fun _ _ _ h => h) (Or.inl ⟨by rfl, ?_⟩) ?_ ?_
                                    rotate_left
                                    · intro w'
                                      go_simp
                                      with_reducible rfl
                                    rotate_left
                                    · simp only [Act.put, List.setIfInBounds_toArray, List.set_cons_zero, List.set_cons_succ, i64_w, i32_w]
                                      rfl
                                    refine take_ (i := 34) (N := some 158) (v := ?_) (a' := ?_) #[true, true, true, true, true, true, true, true, true, true, true, true, true, true, true, true, true, true, true, true, true, true, true, true, true, true, true, true, true, true, true, true, true, true, true, false, false, false] rfl rfl (take_ofW HT_.out HW_.out (by kernel_rfl)) (fun _ _ _ h => h) (Or.inl ⟨by rfl, ?_⟩) hHeld ?_ ?_
                                    rotate_left
                                    · rintro w' ⟨s0, s1⟩
                                      go_simp
                                      with_reducible rfl
                                    rotate_left
                                    · simp only [Act.put, List.setIfInBounds_toArray, List.set_cons_zero, List.set_cons_succ, i64_w, i32_w]
                                      rfl
                                    refine one_ (i := 35) (N := some 159) #[true, true, true, true, true, true, true, true, true, true, true, true, true, true, true, true, true, true, true, true, true, true, true, true, true, true, true, true, true, true, true, true, true, true, true, true, false, false] rfl rfl (one_of HT_.out (by kernel_rfl)) (by decide) (fun K hK => ?_)
                                    refine goes_ Try.func23 (by kernel_rfl) rfl #[.slice Ao24 t358.length co24, .slice A380_0 (rd_L8 ls x18_1).length c380_0] (by rfl) rfl rfl (by (try simp only [List.map_toArray, List.map_cons, List.map_nil]); first | done | rfl | (simp only [List.length_drop, List.length_take]; rfl)) ?_
                                    with_reducible refine (cippuskit_SameCopies.calls k1 _ _ t358 _ _ (rd_L8 ls x18_1) true _ ?side1 ?side2 ?side3 ?side4 A21.out).mono ?_
                                    (case side1 => repeat (first | exact (Kd.R_reads' HO360.out).2.2 | (with_reducible refine Kd.C_alloc ?_ _) | (with_reducible refine Kd.C_drewN ?_ _) | (with_reducible refine Kd.C_drew ?_)))
                                    (case side2 => exact (Kd.R_reads' HO360.out).2.1)
                                    (case side3 => repeat (first | exact (Kd.C_below HR380_0.out (by repeat (first | (with_reducible first | exact HB.out | apply below_alloc | apply pw_below_drewN | apply below_drew1) | exact HB.out))) | (with_reducible refine Kd.C_alloc ?_ _) | (with_reducible refine Kd.C_drewN ?_ _) | (with_reducible refine Kd.C_drew ?_)))
                                    (case side4 => exact HC380_0.out)
                                    rintro e w' ⟨rfl, ⟨nd, rfl⟩⟩
                                    refine ⟨_, rfl, ?_⟩
                                    refine hK.out _ _ ⟨((HB.out.cell (World.block_lt_of_cell? wq _ hw380_0)).trans hw380_0), ((HB.out.cell (World.block_lt_of_cell? wq _ hw383_0)).trans hw383_0)⟩ (fun hHeld => ?_)
                                    clear hK K
                                    refine norm_ (a' := ?_) ?_ ?_
                                    rotate_left
                                    · show Act.put _ (some 159) _ = _
                                      simp only [Act.put, List.setIfInBounds_toArray, List.set_cons_zero, List.set_cons_succ, i64_w, i32_w]
                                      rfl
                                    refine pure_ (i := 36) (N := some 160) (v := ?_) (a' := ?_) #[true, true, true, true, true, true, true, true, true, true, true, true, true, true, true, true, true, true, true, true, true, true, true, true, true, true, true, true, true, true, true, true, true, true, true, true, true, false] rfl rfl (any_of HT_.out (by kernel_rfl)) (fun _ _ _ h => h) (Or.inl ⟨by rfl, ?_⟩) ?_ ?_
                                    rotate_left
                                    · intro w'
                                      go_simp
                                      with_reducible rfl
                                    rotate_left
                                    · simp only [Act.put, List.setIfInBounds_toArray, List.set_cons_zero, List.set_cons_succ, i64_w, i32_w]
                                      rfl
                                    refine pure_ (i := 37) (N := some 161) (v := ?_) (a' := ?_) #[true, true, true, true, true, true, true, true, true, true, true, true, true, true, true, true, true, true, true, true, true, true, true, true, true, true, true, true, true, true, true, true, true, true, true, true, true, true] rfl rfl (any_of HT_.out (by kernel_rfl)) (fun _ _ _ h => h) (Or.inl ⟨by rfl, ?_⟩) ?_ ?_
                                    rotate_left
                                    · intro w'
                                      go_simp
                                      with_reducible rfl
                                    rotate_left
                                    · simp only [Act.put, List.setIfInBounds_toArray, List.set_cons_zero, List.set_cons_succ, i64_w, i32_w]
                                      rfl
                                    refine done_ (done_of HT_.out (by kernel_rfl)) ?_
                                    try go_wp2
                                    go_roundg k1
                                    case measure => have := HK1.out; omega
                                    case rel => exact ⟨(wrap64 (x18_1 + 1)), (by first | rfl | (simp; done) | (simp [*]; done)), H', ⟨by have := HK1.out; omega⟩, ⟨by repeat (first | (with_reducible first | exact HB.out | apply below_alloc | apply pw_below_drewN | apply below_drew1) | exact HB.out)⟩⟩
                                  · replace c22 := Bool.eq_false_iff.mpr c22
                                    subst c22
                                    have H1 : (some false) = some true := by rw [if_neg (show ¬ (false = true) by decide)] at H; exact H
                                    clear H
                                    have H := H1
                                    clear H1
                                    exact absurd (Option.some.inj H) (by decide)
                                · replace c20 := Bool.eq_false_iff.mpr c20
                                  subst c20
                                  have H1 : (some false) = some true := by rw [if_neg (show ¬ (false = true) by decide)] at H; exact H
                                  clear H
                                  have H := H1
                                  clear H1
                                  exact absurd (Option.some.inj H) (by decide)
                              · rw [if_neg c18] at H
                                have c18b0 : (t373 == t378) = false := beq_eq_false_iff_ne.mpr c18
                                have c18b1 : (t373 != t378) = true := bne_iff_ne.mpr c18
                                exact absurd (Option.some.inj H) (by decide)
                            · rw [if_neg c17] at H
                              have c17b0 : (t372 == t377) = false := beq_eq_false_iff_ne.mpr c17
                              have c17b1 : (t372 != t377) = true := bne_iff_ne.mpr c17
                              exact absurd (Option.some.inj H) (by decide)
                          · rw [if_neg c16] at H
                            have c16b0 : (t364 == t369) = false := beq_eq_false_iff_ne.mpr c16
                            have c16b1 : (t364 != t369) = true := bne_iff_ne.mpr c16
                            exact absurd (Option.some.inj H) (by decide)
                        · rw [if_neg c15] at H
                          have c15b0 : (t379 == t381) = false := beq_eq_false_iff_ne.mpr c15
                          have c15b1 : (t379 != t381) = true := bne_iff_ne.mpr c15
                          exact absurd (Option.some.inj H) (by decide)
                      · rw [if_neg c10] at H
                        exact absurd H (by simp)
                    · rw [if_neg c9] at H
                      exact absurd H (by simp)
                  · rw [if_neg c5] at H
                    exact absurd H (by simp)
                · rw [if_neg c4] at H
                  have c4b0 : decide (x18_1 < (ls.length : Int)) = false := decide_eq_false c4
                  clear c4
                  clear H
                  go_wp2
                  go_meet
                  case rel => exact ⟨below_step HBw.out (by repeat (first | (with_reducible first | exact HB.out | apply below_alloc | apply pw_below_drewN | apply below_drew1) | exact HB.out))⟩
          case rest =>
            have HB := hcut
            clear hcut
            go_wp2_with (first | ((with_reducible refine gate_callee (f := 17) rfl ?_); refine goesL_ (some 162) rfl rfl Try.func17 (by kernel_rfl) rfl #[] rfl (by (try simp only [List.map_toArray, List.map_cons, List.map_nil]); first | done | rfl) ?_; (with_reducible refine (cippuslaw07_found.calls kj9  t389 _ A39.out).mono ?_); rintro e w39 ⟨rfl, hb⟩; refine ⟨_, rfl, ?_⟩; have n0_ := Aside0.mk (below_step (by repeat (first | (with_reducible first | exact HB.out | apply below_alloc | apply pw_below_drewN | apply below_drew1) | exact HB.out)) hb); clear HB; have HB := n0_; clear n0_ hb))
            go_ret
            exact ⟨rfl, by repeat (first | (with_reducible first | exact HB.out | apply below_alloc | apply pw_below_drewN | apply below_drew1) | exact HB.out)⟩
  · rw [if_neg c9] at H
    exact absurd H (by simp)
end Go.Proofs.Ytegjollhajgcdaa.P
namespace Go.Proofs.Ytegjollhajgcdaa.P
open Go.RowKit Go.Deep Go.ChangeShapes Go.WideShapes Go.Proofs.YtegjollhajgcdaaW.PrintWords Go.Proofs.YtegjollhajgcdaaW.PrintLast Go.Proofs.YtegjollhajgcdaaW.PrintMore
set_option linter.unusedVariables false
set_option linter.unusedSimpArgs false
section
variable {H : Type} {enc : TypeId × Value → H} {w : World} {base : Nat} {spare : Nat → Bool} {held : Bool}
theorem cells24_ : Try.prog.cellsOf 24 = 3 := by kernel_rfl
theorem cells9_ : Try.prog.cellsOf 9 = 1 := by kernel_rfl
theorem cells3_ : Try.prog.cellsOf 3 = 1 := by kernel_rfl
theorem cells4_ : Try.prog.cellsOf 4 = 1 := by kernel_rfl
set_option maxRecDepth 100000 in
theorem open_copy {fuel : Nat} {cs : List Value} {x : DataW H × List MemPlace} (h : DataW.trod enc Try.prog w base spare held fuel 24 cs = some x) (hlen : cs.length = 3) : ∃ y : S24, cs = [.string y.f0, .int .i64 y.f1, .bool y.f2] := by
  obtain ⟨y0, y1, y2, k, hxy, _, u0, u1, u2⟩ := trod_struct3 Try.underlying24 h
  match cs, hlen with
  | [v0, v1, v2], _ =>
    simp only [cells9_, cells3_, cells4_, List.drop, List.take] at u0 u1 u2
    obtain ⟨s, e0, d0, _⟩ := DataW.trod_string Try.underlying9 u0
    obtain ⟨q, e1, d1, _⟩ := DataW.trod_int Try.underlying3 u1
    obtain ⟨b, e2, d2⟩ := DataW.trod_bool Try.underlying4 u2
    simp only [List.cons.injEq, and_true] at e0 e1 e2
    subst e0; subst e1; subst e2
    exact ⟨⟨s, q, b⟩, rfl⟩
set_option maxRecDepth 100000 in
theorem open_copies {a : Option Addr} {len cap : Nat} {d : DataW H} {ps : List MemPlace} (h : DataW.Trod enc Try.prog w base spare held 22 (.slice a len cap) d ps) : ∃ xs : List S24, xs.length = len ∧ len ≤ cap ∧ k24.C w a xs.length xs := by
  obtain ⟨fuel, hf⟩ := h
  rcases open_slice Try.underlying22 hf with ⟨hcs, _⟩ | ⟨a', l, c, m, n, D, Pl, hcs, _, hl, hm, hmm, _, hx⟩
  · simp [Value.cells] at hcs
    obtain ⟨rfl, rfl, rfl⟩ := hcs
    exact ⟨[], rfl, Nat.le_refl _, Kd.C_nil _ _⟩
  · simp [Value.cells] at hcs
    obtain ⟨rfl, rfl, rfl⟩ := hcs
    have hlm : len ≤ m := by rw [hmm]; split <;> omega
    have each : ∀ i, i < len → ∃ y : S24, ∀ j u, [Value.string y.f0, .int .i64 y.f1, .bool y.f2][j]? = some u → w.cell? (a'.add (i * 3 + j)) = some u := by
      intro i hi
      obtain ⟨cs', h1, h2⟩ := hx i (by omega)
      rw [cells24_] at h1
      obtain ⟨_, hlen, hcell⟩ := World.cells?_some h1
      obtain ⟨y, rfl⟩ := open_copy h2 hlen
      refine ⟨y, fun j u hu => ?_⟩
      have hj : j < 3 := by
        rw [List.getElem?_eq_some_iff] at hu
        exact hu.1
      have := hcell j hj
      rw [Go.Deep.add_add] at this
      rw [this]
      exact hu
    have hcap : cap ≤ 9223372036854775807 := hm
    haveI : Inhabited S24 := ⟨z24⟩
    obtain ⟨f, hf⟩ := choose_lt each
    have hxl : ((List.range len).map f).length = len := by simp
    refine ⟨(List.range len).map f, hxl, hl, rfl, by omega, fun _ => ⟨a', rfl, fun j p hp => ?_⟩⟩
    have hj : j < len := by
      rw [List.getElem?_eq_some_iff] at hp
      obtain ⟨h1, _⟩ := hp
      simpa using h1
    have e : p = f j := by
      rw [List.getElem?_map, List.getElem?_range hj] at hp
      simpa using hp.symm
    subst e
    exact ⟨_, rfl, k24_mk w (f j), fun i u hu => hf j hj i u hu⟩
set_option maxRecDepth 100000 in
theorem open_one {v : Value} {b0 : Nat} {d : DataW H} {ps : List MemPlace} (hval : Value.okWide Try.prog w .any b0 24 v) (h : DataW.Trod enc Try.prog w base spare held 24 v d ps) : ∃ s n b, v = .agg #[.string s, .int .i64 n, .bool b] := by
  obtain ⟨cs, rfl, hs⟩ := okWide_struct Try.underlying24 hval
  rw [cells24_] at hs
  obtain ⟨fuel, hf⟩ := h
  obtain ⟨y, hy⟩ := open_copy hf (by simpa [Value.cells] using hs)
  simp only [Value.cells] at hy
  refine ⟨y.f0, y.f1, y.f2, ?_⟩
  first | (rw [hy]; done) | (congr 1; first | exact hy | (apply Array.ext'; rw [hy]))
end
end Go.Proofs.Ytegjollhajgcdaa.P
namespace Go.Proofs.YtegjollhajgcdaaW.PrintWords
open Go.ChangeShapes Go.WideShapes
theorem sized_ints {H : Type} {enc : TypeId × Value → H} {P : Program} {W : World} {base : Nat} {spare : Nat → Bool} {held : Bool} {t e : TypeId} {k : IntKind} {a : Option Addr} {len cap : Nat} {d : DataW H} {ps : List MemPlace} {ts : List TypeId} {ds : List (DataW H)} {j : Nat}
    (hsz : (DataW.weightsEach P ts ds).all (· ≤ reachBytes) = true) (ht : ts[j]? = some t) (hd : ds[j]? = some d) (hu : P.underlying t = some (.slice e)) (he : P.underlying e = some (.int k)) (hc : P.cellsOf e = 1) {B : Nat} (hB : P.bytesOf e = B)
    (h : DataW.Trod enc P W base spare held t (.slice a len cap) d ps) : len * B ≤ 140737488351232 := by
  obtain ⟨fuel, hf⟩ := h
  rcases open_ints hu he hc hf with ⟨hcs, _⟩ | ⟨x, l, c, zs, hcs, _, hl, _, hz, hx, _, _⟩
  · simp [Value.cells] at hcs
    obtain ⟨rfl, rfl, rfl⟩ := hcs
    simp
  · simp [Value.cells] at hcs
    obtain ⟨rfl, rfl, rfl⟩ := hcs
    obtain ⟨hx, _⟩ := Prod.mk.inj hx
    subst hx
    have z := sized_slice hsz ht hd hu
    rw [hB] at z
    have hl2 : len ≤ zs.length := by
      rw [hz]
      split
      · exact hl
      · exact Nat.le_refl _
    have h1 : (lits (H := H) k (zs.take len)).length + (lits (H := H) k (zs.drop len)).length = zs.length := by
      simp [lits]
      omega
    rw [h1] at z
    exact Nat.le_trans (Nat.mul_le_mul_right _ hl2) z
end Go.Proofs.YtegjollhajgcdaaW.PrintWords
