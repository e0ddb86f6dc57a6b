/- Lemmas for the statement StemmaAll of the given program, for every input that its row lets in. Conditions: none beyond those that each lemma tells. -/
import Derived.BigQuiet
import Derived.Deep.CutBlock
import Derived.Test.YtegjollhajgcdaaMStemmaAll4
set_option linter.unusedVariables false
set_option linter.unusedSimpArgs false
namespace Go.Proofs.Ytegjollhajgcdaa.P
open Go.RowKit Go.Proofs.YtegjollhajgcdaaW.PrintWords Go.Proofs.YtegjollhajgcdaaW.PrintLast Go.Proofs.YtegjollhajgcdaaW.PrintMore
attribute [local go_sem] max2_int min2_int max_two min_two max_three min_three max_four min_four   -- for this text's walks alone
set_option linter.unusedVariables false
set_option linter.unusedSimpArgs false
end Go.Proofs.Ytegjollhajgcdaa.P
namespace Go.Proofs.Ytegjollhajgcdaa.P.OwnSt
open Go.RowKit Go.Proofs.YtegjollhajgcdaaW.PrintWords Go.Proofs.YtegjollhajgcdaaW.PrintLast Go.Proofs.YtegjollhajgcdaaW.PrintMore
set_option linter.unusedVariables false
set_option linter.unusedSimpArgs false
section
variable (l : List S24) (fs : Nat → Int) (place letter : Int)
def hsum (t : Nat → Int) (i : Nat) : Nat → Nat → Int
  | 0, _ => 0
  | rem + 1, p => (if hit l fs (p : Int) (t p) i = true then 1 else 0) + hsum t i rem (p + 1)
def cost (t : Nat → Int) : Nat → Nat → Int
  | 0, _ => 0
  | rem + 1, p => errsTo l fs (p : Int) (t p) l.length + cost t rem (p + 1)
def GoodT (t : Nat → Int) : Prop := ∀ p, 65 ≤ t p ∧ t p ≤ 90
def PlaceOk (t : Nat → Int) : Prop := ∀ p : Nat, (p : Int) = place → t p = letter
end
section
variable {l : List S24} {fs : Nat → Int} {place letter : Int}
theorem hsum_nonneg (t : Nat → Int) (i : Nat) : ∀ rem p, 0 ≤ hsum l fs t i rem p := by
  intro rem
  induction rem with
  | zero => intro p; exact Int.le_refl _
  | succ rem ih =>
    intro p
    have := ih (p + 1)
    unfold hsum
    split <;> omega
theorem hsum_congr (t t' : Nat → Int) (i : Nat) : ∀ rem p, (∀ q, p ≤ q → t q = t' q) → hsum l fs t i rem p = hsum l fs t' i rem p := by
  intro rem
  induction rem with
  | zero => intro p _; rfl
  | succ rem ih =>
    intro p h
    unfold hsum
    rw [h p (Nat.le_refl _), ih (p + 1) (fun q hq => h q (by omega))]
theorem cost_congr (t t' : Nat → Int) : ∀ rem p, (∀ q, p ≤ q → t q = t' q) → cost l fs t rem p = cost l fs t' rem p := by
  intro rem
  induction rem with
  | zero => intro p _; rfl
  | succ rem ih =>
    intro p h
    unfold cost
    rw [h p (Nat.le_refl _), ih (p + 1) (fun q hq => h q (by omega))]
theorem hit_other {p c : Int} (h : atB l fs p c = false) (i : Nat) (hi : i < l.length) : hit l fs p c i = (fs i == -1) := by
  unfold atB at h
  rw [← Bool.not_eq_true, List.any_eq_true] at h
  have h2 : atOne l fs p c i = false := by
    rw [← Bool.not_eq_true]
    exact fun hh => h ⟨i, List.mem_range.2 hi, hh⟩
  unfold atOne at h2
  unfold hit
  cases hf : fs i == -1 with
  | false => simp
  | true =>
    rw [hf] at h2
    simp at h2
    simp [h2]
theorem errsTo_eq {p c d : Int} (h : ∀ i, i < l.length → hit l fs p c i = hit l fs p d i) : errsTo l fs p c l.length = errsTo l fs p d l.length := by
  unfold errsTo
  rw [List.filter_congr fun i hi => h i (List.mem_range.1 hi)]
theorem fitsTo_eq {g : Nat → Int} {p c d : Int} (h : ∀ i, i < l.length → hit l fs p c i = hit l fs p d i) : fitsTo l fs g p c l.length = fitsTo l fs g p d l.length := by
  unfold fitsTo
  rw [Bool.eq_iff_iff, List.all_eq_true, List.all_eq_true]
  constructor <;> intro h2 i hi <;> have h3 := h2 i hi
  · rw [← h i (List.mem_range.1 hi)]; exact h3
  · rw [h i (List.mem_range.1 hi)]; exact h3
theorem leftTo_eq {g : Nat → Int} {p c d : Int} (h : ∀ i, i < l.length → hit l fs p c i = hit l fs p d i) : leftTo l fs g p c l.length = leftTo l fs g p d l.length := by
  funext i
  unfold leftTo
  by_cases hi : i < l.length
  · rw [h i hi]
  · simp [hi]
def valC (l : List S24) (fs : Nat → Int) (nx : (Nat → Int) → Int) (p : Int) (g : Nat → Int) (c : Int) : Int := errsTo l fs p c l.length + nx (leftTo l fs g p c l.length)
theorem fold_le (nx : (Nat → Int) → Int) (p : Int) (g : Nat → Int) : ∀ (cl : List Int) (st : Int × Bool), (cl.foldl (stepC l fs place letter nx p g) st).1 ≤ st.1 := by
  intro cl
  induction cl with
  | nil => intro st; exact Int.le_refl _
  | cons x r ih =>
    intro st
    rw [List.foldl_cons]
    refine Int.le_trans (ih _) ?_
    unfold stepC
    split
    · exact Int.le_refl _
    · split
      · show min st.1 _ ≤ st.1
        omega
      · exact Int.le_refl _
theorem fold_hit (nx : (Nat → Int) → Int) (p : Int) (g : Nat → Int) : ∀ (cl : List Int) (st : Int × Bool), (st.2 = true → ∃ d, atB l fs p d = false ∧ (fitsTo l fs g p d l.length = true → st.1 ≤ valC l fs nx p g d)) →
    ∀ c ∈ cl, (p == place && c != letter) = false → fitsTo l fs g p c l.length = true → (cl.foldl (stepC l fs place letter nx p g) st).1 ≤ valC l fs nx p g c := by
  intro cl
  induction cl with
  | nil => intro st _ c hc; simp at hc
  | cons x r ih =>
    intro st hinv c hc hex hfit
    rw [List.foldl_cons]
    rcases List.mem_cons.1 hc with rfl | hc
    · refine Int.le_trans (fold_le nx p g r _) ?_
      unfold stepC
      split
      · rename_i hs
        unfold skipC at hs
        rw [hex, Bool.false_or, Bool.and_eq_true, Bool.and_eq_true] at hs
        obtain ⟨_, h2, h3⟩ := hs
        have h2' : atB l fs p c = false := by simpa using h2
        obtain ⟨d, hd1, hd2⟩ := hinv h3
        have hh : ∀ i, i < l.length → hit l fs p c i = hit l fs p d i := fun i hi => by rw [hit_other h2' i hi, hit_other hd1 i hi]
        have h4 := hd2 (by rw [← fitsTo_eq hh]; exact hfit)
        unfold valC at h4 ⊢
        rw [errsTo_eq hh, leftTo_eq hh]
        exact h4
      · try rw [if_pos hfit]
        show min st.1 _ ≤ _
        unfold valC
        omega
    · refine ih _ ?_ c hc hex hfit
      unfold stepC
      split
      · exact hinv
      · split
        · rename_i hs hf
          intro h2
          rcases Bool.or_eq_true_iff.1 h2 with h2 | h2
          · obtain ⟨d, hd1, hd2⟩ := hinv h2
            refine ⟨d, hd1, fun h3 => ?_⟩
            have := hd2 h3
            show min st.1 _ ≤ _
            omega
          · refine ⟨x, by simpa using h2, fun h3 => ?_⟩
            show min st.1 _ ≤ _
            unfold valC
            omega
        · rename_i hs hf
          intro h2
          rcases Bool.or_eq_true_iff.1 h2 with h2 | h2
          · exact hinv h2
          · exact ⟨x, by simpa using h2, fun h3 => absurd h3 hf⟩
theorem fold_att (nx : (Nat → Int) → Int) (p : Int) (g : Nat → Int) : ∀ (cl : List Int) (st : Int × Bool), (cl.foldl (stepC l fs place letter nx p g) st).1 = st.1 ∨
    ∃ c ∈ cl, (p == place && c != letter) = false ∧ fitsTo l fs g p c l.length = true ∧ (cl.foldl (stepC l fs place letter nx p g) st).1 = valC l fs nx p g c := by
  intro cl
  induction cl with
  | nil => intro st; exact .inl rfl
  | cons x r ih =>
    intro st
    rw [List.foldl_cons]
    rcases ih (stepC l fs place letter nx p g st x) with h | ⟨c, hc, h1, h2, h3⟩
    · rw [h]
      by_cases hs : skipC l fs place letter p x st.2 = true
      · left
        unfold stepC
        rw [if_pos hs]
      · by_cases hf : fitsTo l fs g p x l.length = true
        · unfold stepC
          rw [if_neg hs, if_pos hf]
          by_cases hm : st.1 ≤ valC l fs nx p g x
          · left
            show min st.1 _ = st.1
            unfold valC at hm
            omega
          · right
            refine ⟨x, List.mem_cons_self, ?_, hf, ?_⟩
            · unfold skipC at hs
              simp only [Bool.or_eq_true, not_or] at hs
              simpa using hs.1
            · show min st.1 _ = _
              unfold valC at hm ⊢
              omega
        · left
          unfold stepC
          rw [if_neg hs, if_neg hf]
    · exact .inr ⟨c, List.mem_cons_of_mem _ hc, h1, h2, h3⟩
theorem mem_cs {c : Int} (h : 65 ≤ c ∧ c ≤ 90) : c ∈ cs 26 := by
  unfold cs
  rw [List.mem_map]
  exact ⟨(c - 65).toNat, List.mem_range.2 (by omega), by omega⟩
theorem cs_mem {c : Int} (h : c ∈ cs 26) : 65 ≤ c ∧ c ≤ 90 := by
  unfold cs at h
  rw [List.mem_map] at h
  obtain ⟨j, hj, rfl⟩ := h
  have := List.mem_range.1 hj
  omega
theorem nextS_le : ∀ (rem p : Nat) (g t : Nat → Int), GoodT t → PlaceOk place letter t → (∀ i, i < l.length → hsum l fs t i rem p ≠ 0 → hsum l fs t i rem p ≤ g i) → nextS l fs place letter rem (p : Int) g ≤ cost l fs t rem p := by
  intro rem
  induction rem with
  | zero => intro p g t _ _ _; exact Int.le_refl _
  | succ rem ih =>
    intro p g t hg hp hh
    have hfit : fitsTo l fs g (p : Int) (t p) l.length = true := by
      unfold fitsTo
      rw [List.all_eq_true]
      intro i hi
      have h1 := hh i (List.mem_range.1 hi)
      have h2 := hsum_nonneg (l := l) (fs := fs) t i rem (p + 1)
      unfold hsum at h1
      by_cases hc : hit l fs (p : Int) (t p) i = true
      · rw [if_pos hc] at h1
        have := h1 (by omega)
        rw [hc]
        simp
        omega
      · simp [hc]
    have hex : ((p : Int) == place && t p != letter) = false := by
      by_cases e : (p : Int) = place
      · rw [hp p e]; simp
      · simp [e]
    have h1 := fold_hit (place := place) (letter := letter) (nextS l fs place letter rem ((p : Int) + 1)) (p : Int) g (cs 26) (1048576, false) (fun h => by cases h) (t p) (mem_cs (hg p)) hex hfit
    rw [nextS, cost]
    refine Int.le_trans h1 ?_
    unfold valC
    have h2 := ih (p + 1) (leftTo l fs g (p : Int) (t p) l.length) t hg hp (fun i hi h3 => by
      have h4 := hh i hi
      have h5 := hsum_nonneg (l := l) (fs := fs) t i rem (p + 1)
      unfold hsum at h4
      unfold leftTo
      by_cases hc : hit l fs (p : Int) (t p) i = true
      · rw [if_pos hc] at h4
        rw [if_pos ⟨hi, hc⟩]
        have := h4 (by omega)
        omega
      · rw [if_neg hc] at h4
        rw [if_neg (fun h => hc h.2)]
        have := h4 (by omega)
        omega)
    have e : ((p + 1 : Nat) : Int) = (p : Int) + 1 := by omega
    rw [e] at h2
    omega
theorem nextS_att : ∀ (rem p : Nat) (g : Nat → Int), nextS l fs place letter rem (p : Int) g < 1048576 →
    ∃ t, GoodT t ∧ (∀ q : Nat, p ≤ q → q < p + rem → (q : Int) = place → t q = letter) ∧ (∀ i, i < l.length → hsum l fs t i rem p ≠ 0 → hsum l fs t i rem p ≤ g i) ∧ cost l fs t rem p = nextS l fs place letter rem (p : Int) g := by
  intro rem
  induction rem with
  | zero => intro p g _; exact ⟨fun _ => 65, fun p => ⟨Int.le_refl 65, show (65 : Int) ≤ 90 by decide⟩, fun q h1 h2 => by omega, fun i _ h => absurd rfl h, rfl⟩
  | succ rem ih =>
    intro p g hlt
    rw [nextS] at hlt ⊢
    rcases fold_att (place := place) (letter := letter) (nextS l fs place letter rem ((p : Int) + 1)) (p : Int) g (cs 26) (1048576, false) with h | ⟨c, hc, hex, hfit, hv⟩
    · rw [h] at hlt
      exact absurd hlt (by decide)
    · rw [hv] at hlt ⊢
      unfold valC at hlt ⊢
      have e : ((p + 1 : Nat) : Int) = (p : Int) + 1 := by omega
      have he := (errsTo_bound l fs (p : Int) c l.length).1
      obtain ⟨t, t1, t2, t3, t4⟩ := ih (p + 1) (leftTo l fs g (p : Int) c l.length) (by rw [e]; omega)
      rw [e] at t4
      have hc2 := cs_mem hc
      have hq : ∀ q, p + 1 ≤ q → (fun q => if q = p then c else t q) q = t q := fun q hq => by simp [show q ≠ p by omega]
      refine ⟨fun q => if q = p then c else t q, fun q => ?_, fun q h1 h2 h3 => ?_, fun i hi h0 => ?_, ?_⟩
      · show 65 ≤ (if q = p then c else t q) ∧ (if q = p then c else t q) ≤ 90
        split
        · exact hc2
        · exact t1 q
      · show (if q = p then c else t q) = letter
        by_cases e2 : q = p
        · subst e2
          rw [if_pos rfl]
          rw [h3] at hex
          simp at hex
          exact hex
        · rw [if_neg e2]
          exact t2 q (by omega) (by omega) h3
      · unfold hsum at h0 ⊢
        rw [hsum_congr _ t i rem (p + 1) hq] at h0 ⊢
        simp only [if_true] at h0 ⊢
        have h5 := t3 i hi
        have h6 := hsum_nonneg (l := l) (fs := fs) t i rem (p + 1)
        unfold leftTo at h5
        by_cases hh : hit l fs (p : Int) c i = true
        · rw [if_pos hh]
          rw [if_pos ⟨hi, hh⟩] at h5
          unfold fitsTo at hfit
          rw [List.all_eq_true] at hfit
          have h7 := hfit i (List.mem_range.2 hi)
          rw [hh] at h7
          simp at h7
          by_cases e3 : hsum l fs t i rem (p + 1) = 0
          · rw [e3]; omega
          · have := h5 e3; omega
        · rw [if_neg hh] at h0 ⊢
          rw [if_neg (fun h => hh h.2)] at h5
          have := h5 (by omega)
          omega
      · unfold cost
        rw [cost_congr _ t rem (p + 1) hq]
        simp only [if_true]
        rw [t4]
end
def FitT (l : List S24) (fs t : Nat → Int) : Prop := GoodT t ∧ ∀ i, i < l.length → hsum l fs t i (rd_T24 l 0).f0.size 0 ≠ 0 → hsum l fs t i (rd_T24 l 0).f0.size 0 ≤ (rd_T24 l (i : Int)).f1
def costT (l : List S24) (fs t : Nat → Int) : Int := cost l fs t (rd_T24 l 0).f0.size 0
theorem leastV_le {l : List S24} {fs t : Nat → Int} {place letter : Int} (h : FitT l fs t) (hp : PlaceOk place letter t) : leastV l fs place letter ≤ costT l fs t := by
  unfold leastV costT
  refine nextS_le _ 0 _ t h.1 hp (fun i hi h2 => ?_)
  unfold errV
  rw [if_pos hi]
  exact h.2 i hi h2
theorem leastV_att {l : List S24} {fs : Nat → Int} {place letter : Int} (h : leastV l fs place letter < 1048576) : ∃ t, FitT l fs t ∧ (∀ q : Nat, q < (rd_T24 l 0).f0.size → (q : Int) = place → t q = letter) ∧ costT l fs t = leastV l fs place letter := by
  unfold leastV at h ⊢
  obtain ⟨t, t1, t2, t3, t4⟩ := nextS_att _ 0 _ h
  refine ⟨t, ⟨t1, fun i hi h2 => ?_⟩, fun q hq h2 => t2 q (by omega) (by omega) h2, t4⟩
  have := t3 i hi h2
  unfold errV at this
  rw [if_pos hi] at this
  exact this
end Go.Proofs.Ytegjollhajgcdaa.P.OwnSt
namespace Go.Proofs.Ytegjollhajgcdaa.P.OwnSt
open Go.RowKit Go.Proofs.YtegjollhajgcdaaW.PrintWords Go.Proofs.YtegjollhajgcdaaW.PrintLast Go.Proofs.YtegjollhajgcdaaW.PrintMore
set_option linter.unusedVariables false
set_option linter.unusedSimpArgs false
theorem cost_bound (l : List S24) (fs t : Nat → Int) : ∀ rem p, 0 ≤ cost l fs t rem p ∧ cost l fs t rem p ≤ l.length * rem := by
  intro rem
  induction rem with
  | zero => intro p; simp [cost]
  | succ rem ih =>
    intro p
    have h1 := ih (p + 1)
    have h2 := errsTo_bound l fs (p : Int) (t p) l.length
    unfold cost
    have e : (l.length : Int) * ((rem + 1 : Nat) : Int) = l.length * rem + l.length := by
      rw [Int.natCast_add, Int.mul_add]; simp
    rw [e]
    omega
theorem costT_bound {l : List S24} (hv : Valid l) (fs t : Nat → Int) : 0 ≤ costT l fs t ∧ costT l fs t ≤ 40 := by
  have h := cost_bound l fs t (rd_T24 l 0).f0.size 0
  unfold costT
  have h1 := hv.five
  have h2 := hv.high
  have h3 : l.length * (rd_T24 l 0).f0.size ≤ 5 * 8 := Nat.mul_le_mul h1 h2
  have h4 : (l.length : Int) * ((rd_T24 l 0).f0.size : Int) = ((l.length * (rd_T24 l 0).f0.size : Nat) : Int) := by simp
  rw [h4] at h
  omega
theorem lies_of_fit {l : List S24} (hv : Valid l) {fs t : Nat → Int} (h : FitT l fs t) : liesB l fs = true := by
  unfold liesB
  have h1 := leastV_le (place := -1) (letter := 0) h (fun p hp => by omega)
  have h2 := (costT_bound hv fs t).2
  exact decide_eq_true (by omega)
theorem fit_of_lies {l : List S24} {fs : Nat → Int} (h : liesB l fs = true) : ∃ t, FitT l fs t ∧ costT l fs t = leastV l fs (-1) 0 := by
  unfold liesB at h
  obtain ⟨t, h1, _, h3⟩ := leastV_att (of_decide_eq_true h)
  exact ⟨t, h1, h3⟩
theorem may_of_fit {l : List S24} (hv : Valid l) {fs t : Nat → Int} (h : FitT l fs t) (i j : Nat) (hi : t i = 65 + (j : Int)) : mayC l i j fs = true := by
  unfold mayC
  have h1 := leastV_le (place := (i : Int)) (letter := 65 + (j : Int)) h (fun p hp => by
    have : p = i := by omega
    rw [this]; exact hi)
  have h2 := (costT_bound hv fs t).2
  exact decide_eq_true (by omega)
theorem fit_of_may {l : List S24} {fs : Nat → Int} {i j : Nat} (hi : i < (rd_T24 l 0).f0.size) (h : mayC l i j fs = true) : ∃ t, FitT l fs t ∧ t i = 65 + (j : Int) := by
  unfold mayC at h
  obtain ⟨t, h1, h2, _⟩ := leastV_att (of_decide_eq_true h)
  exact ⟨t, h1, h2 i hi rfl⟩
def TreeOk (l : List S24) (s : Nat → Int) : Prop := (∀ k, k < l.length → -1 ≤ s k ∧ s k < k ∧ canF l k (s k) = true) ∧ ∀ k, l.length ≤ k → s k = 0
theorem known_iff {l : List S24} (hv : Valid l) (s : Nat → Int) : s ∈ knownV l ↔ TreeOk l s ∧ ∃ t, FitT l s t := by
  constructor
  · intro h
    obtain ⟨h1, h2, h3⟩ := knownV_mem h
    obtain ⟨t, ht, _⟩ := fit_of_lies h3
    exact ⟨⟨h1, h2⟩, t, ht⟩
  · rintro ⟨⟨h1, h2⟩, t, ht⟩
    exact mem_knownV h1 h2 (lies_of_fit hv ht)
theorem mayAt_iff {l : List S24} (hv : Valid l) (i j : Nat) (hi : i < (rd_T24 l 0).f0.size) : mayAt l i j = true ↔ ∃ s t, TreeOk l s ∧ FitT l s t ∧ t i = 65 + (j : Int) := by
  unfold mayAt
  rw [List.any_eq_true]
  constructor
  · rintro ⟨s, hs, h⟩
    obtain ⟨t, ht, h2⟩ := fit_of_may hi h
    exact ⟨s, t, ((known_iff hv s).1 hs).1, ht, h2⟩
  · rintro ⟨s, t, hs, ht, h⟩
    exact ⟨s, (known_iff hv s).2 ⟨hs, t, ht⟩, may_of_fit hv ht i j h⟩
theorem numF_le {l : List S24} {s t : Nat → Int} (h : FitT l s t) : numF l s ≤ costT l s t + apTo l s l.length := by
  unfold numF
  have h1 := leastV_le (place := -1) (letter := 0) h (fun p hp => by omega)
  omega
theorem numF_att {l : List S24} {s : Nat → Int} (h : liesB l s = true) : ∃ t, FitT l s t ∧ numF l s = costT l s t + apTo l s l.length := by
  obtain ⟨t, h1, h2⟩ := fit_of_lies h
  exact ⟨t, h1, by unfold numF; omega⟩
theorem fewest_le {l : List S24} (hk : knownE l = 0) {s : Nat → Int} (hs : s ∈ knownV l) : (fewestV l).1 ≤ numF l s := by
  unfold fewestV
  rw [if_pos hk]
  unfold minTo
  rw [List.take_length]
  obtain ⟨x, r, e⟩ : ∃ x r, knownV l = x :: r := by
    cases h : knownV l with
    | nil => rw [h] at hs; simp at hs
    | cons x r => exact ⟨x, r, rfl⟩
  rw [e] at hs ⊢
  simp only [List.drop_succ_cons, List.drop_zero, List.headD_cons]
  have h := minF_le l r x
  rcases List.mem_cons.1 hs with rfl | hs
  · exact h.1
  · exact h.2 s hs
theorem fewest_att {l : List S24} (hk : knownE l = 0) : ∃ s ∈ knownV l, (fewestV l).1 = numF l s := by
  unfold fewestV
  rw [if_pos hk]
  have hne := (knownE_zero hk).2
  refine ⟨minTo l (knownV l) ((knownV l).headD fun _ => 0) (knownV l).length, minTo_mem l _ _ _ ?_, rfl⟩
  cases h : knownV l with
  | nil => exact absurd h hne
  | cons x r => rfl
theorem check_of_valid {l : List S24} (hv : Valid l) : checkV l = 0 := by
  unfold checkV
  rw [if_neg (by have := hv.one; omega), if_neg (by have := hv.five; omega)]
  have h1 : ∀ i : Nat, i < l.length → oneV l (rd_T24 l (i : Int)) = 0 := fun i hi => by
    have hs := hv.size i hi
    have hg : goodText (rd_T24 l (i : Int)).f0 = true := by
      unfold goodText
      rw [List.all_eq_true]
      intro p hp
      have := hv.good i hi p (by have := List.mem_range.1 hp; omega)
      unfold goodAt
      exact decide_eq_true this
    unfold oneV
    rw [if_neg (by have := hv.low; have := hv.high; omega), if_neg (by rw [hg]; simp), if_neg (by simp [hs]), if_neg (by have := hv.err i hi; omega), if_neg (by have := hv.err i hi; omega)]
  have h2 : ∀ rem i, i + rem ≤ l.length → checkF l rem i = 0 := by
    intro rem
    induction rem with
    | zero => intro i _; rfl
    | succ rem ih =>
      intro i hi
      unfold checkF
      rw [if_pos (h1 i (by omega))]
      exact ih (i + 1) (by omega)
  exact h2 l.length 0 (by omega)
theorem knownE_of {l : List S24} (hv : Valid l) {s : Nat → Int} (hs : s ∈ knownV l) : knownE l = 0 := by
  unfold knownE
  rw [if_neg (by rw [check_of_valid hv]; simp), if_neg (fun h => by rw [h] at hs; simp at hs)]
def sumTo (f : Nat → Int) : Nat → Int
  | 0 => 0
  | n + 1 => sumTo f n + f n
theorem sumTo_congr {f g : Nat → Int} : ∀ n, (∀ i, i < n → f i = g i) → sumTo f n = sumTo g n := by
  intro n
  induction n with
  | zero => intro _; rfl
  | succ n ih =>
    intro h
    unfold sumTo
    rw [ih (fun i hi => h i (by omega)), h n (by omega)]
theorem sumTo_add (f g : Nat → Int) : ∀ n, sumTo (fun i => f i + g i) n = sumTo f n + sumTo g n := by
  intro n
  induction n with
  | zero => rfl
  | succ n ih =>
    unfold sumTo
    rw [ih]
    omega
theorem errsTo_sum (l : List S24) (fs : Nat → Int) (p c : Int) : ∀ n, errsTo l fs p c n = sumTo (fun i => if hit l fs p c i = true then 1 else 0) n := by
  intro n
  induction n with
  | zero => simp [errsTo, sumTo]
  | succ n ih => rw [errsTo_succ, ih]; rfl
theorem cost_sum (l : List S24) (fs t : Nat → Int) : ∀ rem p, cost l fs t rem p = sumTo (fun i => hsum l fs t i rem p) l.length := by
  intro rem
  induction rem with
  | zero =>
    intro p
    have : ∀ n, sumTo (fun i => hsum l fs t i 0 p) n = 0 := by
      intro n
      induction n with
      | zero => rfl
      | succ n ih => unfold sumTo; rw [ih]; rfl
    rw [this]
    rfl
  | succ rem ih =>
    intro p
    unfold cost
    rw [ih, errsTo_sum, ← sumTo_add]
    rfl
theorem apTo_sum (l : List S24) (s : Nat → Int) : ∀ n, apTo l s n = sumTo (fun k => if s k = -1 then 0 else apN (rd_T24 l (s k)).f0 (rd_T24 l (k : Int)).f0 (rd_T24 l (s k)).f0.size) n := by
  intro n
  induction n with
  | zero => rfl
  | succ n ih => unfold apTo sumTo; rw [ih]
theorem hsum_none {l : List S24} {fs t : Nat → Int} {i : Nat} (h : fs i ≠ -1) : ∀ rem p, hsum l fs t i rem p = 0 := by
  intro rem
  induction rem with
  | zero => intro p; rfl
  | succ rem ih =>
    intro p
    unfold hsum hit
    rw [ih, beq_false_of_ne h]
    simp
theorem hsum_apN {l : List S24} {fs t : Nat → Int} {i : Nat} (h : fs i = -1) (st : ByteArray) (L : Nat) (ht : ∀ p, p < L → t p = bt st (p : Int)) : ∀ rem p, p + rem ≤ L → apN st (rd_T24 l (i : Int)).f0 p + hsum l fs t i rem p = apN st (rd_T24 l (i : Int)).f0 (p + rem) := by
  intro rem
  induction rem with
  | zero => intro p _; simp [hsum]
  | succ rem ih =>
    intro p hp
    have h1 := ih (p + 1) (by omega)
    rw [show p + 1 + rem = p + (rem + 1) by omega, apN_succ] at h1
    unfold hsum hit
    rw [h, ht p (by omega)]
    rw [← h1]
    by_cases e : bt st (p : Int) = bt (rd_T24 l (i : Int)).f0 (p : Int)
    · rw [if_pos e, e]
      simp
    · rw [if_neg e]
      have e2 : ((-1 : Int) == -1 && bt (rd_T24 l (i : Int)).f0 (p : Int) != bt st (p : Int)) = true := by
        simp
        exact fun h => e h.symm
      rw [if_pos e2]
      omega
end Go.Proofs.Ytegjollhajgcdaa.P.OwnSt
namespace Go.Proofs.Ytegjollhajgcdaa.P.OwnSt
open Go.RowKit Go.Proofs.YtegjollhajgcdaaW.PrintWords Go.Proofs.YtegjollhajgcdaaW.PrintLast Go.Proofs.YtegjollhajgcdaaW.PrintMore
open OwnUrn
set_option linter.unusedVariables false
set_option linter.unusedSimpArgs false
theorem wrap_u64_range (n : Int) : 0 ≤ IntKind.u64.wrap n ∧ IntKind.u64.wrap n < 18446744073709551616 := by
  have h : IntKind.u64.wrap n = n % 18446744073709551616 := by simp [IntKind.wrap, IntKind.bits, IntKind.signed]
  rw [h]
  omega
theorem wrap_u64_small {n : Int} (h0 : 0 ≤ n) (h1 : n < 18446744073709551616) : IntKind.u64.wrap n = n := by
  have h : IntKind.u64.wrap n = n % 18446744073709551616 := by simp [IntKind.wrap, IntKind.bits, IntKind.signed]
  rw [h]
  omega
theorem turn_ok (a b : Int) : ∃ v a' b', cippuskit_Urn_turn.f a b = some (v, a', b') ∧ 0 ≤ v ∧ v < 18446744073709551616 := by
  unfold cippuskit_Urn_turn.f
  split
  · exact ⟨_, _, _, rfl, wrap_u64_range _⟩
  · exact ⟨_, _, _, rfl, wrap_u64_range _⟩
theorem up_ok (a b n : Int) (hn : n ≤ 1000) : ∃ v a' b', cippuskit_Urn_Up.f a b n = some (v, a', b') ∧ 0 ≤ v ∧ (v < n ∨ v = 0) := by
  unfold cippuskit_Urn_Up.f
  by_cases h : n < 2
  · rw [if_pos h]
    exact ⟨0, a, b, rfl, Int.le_refl _, .inr rfl⟩
  · rw [if_neg h]
    obtain ⟨v, a', b', e, h0, h1⟩ := turn_ok a b
    rw [e, Option.bind_some, wrap_u64_small (by omega) (by omega), if_neg (by omega)]
    have h2 : 0 ≤ v / 2048 := by omega
    have h3 : Int.tmod (v / 2048) n = (v / 2048) % n := Int.tmod_eq_emod_of_nonneg h2
    have h4 := Int.emod_nonneg (v / 2048) (show n ≠ 0 by omega)
    have h5 := Int.emod_lt_of_pos (v / 2048) (show 0 < n by omega)
    refine ⟨_, _, _, rfl, ?_⟩
    show 0 ≤ wrap64 (Int.tmod (v / 2048) n) ∧ (wrap64 (Int.tmod (v / 2048) n) < n ∨ _)
    rw [h3, wrap64_small h4 (by omega)]
    exact ⟨h4, .inl h5⟩
theorem from_ok (a b lo hi : Int) (h0 : -1000 ≤ lo) (h1 : lo ≤ 1000) (h2 : -1000 ≤ hi) (h3 : hi ≤ 900 + lo) : ∃ v a' b', cippuskit_Urn_From.f a b lo hi = some (v, a', b') ∧ lo ≤ v ∧ (v ≤ hi ∨ v = lo) := by
  unfold cippuskit_Urn_From.f
  have e1 : wrap64 (hi - lo) = hi - lo := by simp [wrap64]; omega
  have e2 : wrap64 (hi - lo + 1) = hi - lo + 1 := by simp [wrap64]; omega
  rw [e1, e2]
  obtain ⟨v, a', b', e, h4, h5⟩ := up_ok a b (hi - lo + 1) (by omega)
  rw [e, Option.bind_some]
  refine ⟨_, _, _, rfl, ?_⟩
  have e3 : wrap64 (lo + v) = lo + v := by simp [wrap64]; omega
  show lo ≤ wrap64 (lo + v) ∧ (wrap64 (lo + v) ≤ hi ∨ wrap64 (lo + v) = lo)
  rw [e3]
  omega
theorem odds_ok (a b n m : Int) (hm : m ≤ 1000) : ∃ v a' b', cippuskit_Urn_Odds.f a b n m = some (v, a', b') := by
  unfold cippuskit_Urn_Odds.f
  obtain ⟨v, a', b', e, _⟩ := up_ok a b m hm
  rw [e, Option.bind_some]
  exact ⟨_, _, _, rfl⟩
def diffL (b c : List Int) : Nat → Nat
  | 0 => 0
  | m + 1 => diffL b c m + if b.getD m 0 = c.getD m 0 then 0 else 1
theorem diffL_tri (a b c : List Int) : ∀ m, diffL a c m ≤ diffL a b m + diffL b c m := by
  intro m
  induction m with
  | zero => simp [diffL]
  | succ m ih =>
    unfold diffL
    by_cases h1 : a.getD m 0 = b.getD m 0
    · by_cases h2 : b.getD m 0 = c.getD m 0
      · rw [if_pos h1, if_pos h2, if_pos (h1.trans h2)]; omega
      · rw [if_pos h1, if_neg h2, if_neg (fun h => h2 (h1.symm.trans h))]; omega
    · rw [if_neg h1]
      split <;> split <;> omega
theorem diffL_self (a : List Int) : ∀ m, diffL a a m = 0 := by
  intro m
  induction m with
  | zero => rfl
  | succ m ih => unfold diffL; rw [ih, if_pos rfl]
theorem diffL_set (a : List Int) (i : Nat) (v : Int) : ∀ m, diffL a (a.set i v) m ≤ if i < m then 1 else 0 := by
  intro m
  induction m with
  | zero => simp [diffL]
  | succ m ih =>
    unfold diffL
    by_cases e : m = i
    · subst e
      rw [if_neg (by omega)] at ih
      rw [show (if m < m + 1 then 1 else 0) = 1 from if_pos (by omega)]
      split <;> omega
    · have h : (a.set i v).getD m 0 = a.getD m 0 := by
        rw [List.getD_eq_getElem?_getD, List.getD_eq_getElem?_getD, List.getElem?_set_ne (fun h => e h.symm)]
      rw [h, if_pos rfl]
      split at ih <;> split <;> omega
def letL (b : List Int) : Prop := ∀ x ∈ b, 65 ≤ x ∧ x ≤ 67
theorem erredGo_ok : ∀ (n : Nat) (b : List Int) (s0 s1 : Int), letL b → 1 ≤ b.length → b.length ≤ 100 → ∃ r s0' s1', erredGo n b s0 s1 = some (r, s0', s1') ∧ letL r ∧ r.length = b.length ∧ diffL b r b.length ≤ n := by
  intro n
  induction n with
  | zero => intro b s0 s1 h _ _; exact ⟨b, s0, s1, rfl, h, rfl, by rw [diffL_self]; exact Nat.le_refl _⟩
  | succ n ih =>
    intro b s0 s1 h h1 h2
    unfold erredGo
    obtain ⟨v, a', b', e, h3, h4⟩ := up_ok s0 s1 (b.length : Int) (by omega)
    rw [e, Option.bind_some]
    obtain ⟨u, a2, b2, e2, h5, h6⟩ := up_ok a' b' 3 (by omega)
    rw [e2, Option.bind_some, if_pos ⟨h3, by omega⟩]
    have e3 : wrap64 (65 + u) % 256 = 65 + u := by rw [wrap64_small (by omega) (by omega)]; omega
    rw [e3]
    obtain ⟨r, s0', s1', e4, h7, h8, h9⟩ := ih (b.set v.toNat (65 + u)) a2 b2 (fun x hx => by
      rcases List.mem_or_eq_of_mem_set hx with hx | rfl
      · exact h x hx
      · omega) (by rw [List.length_set]; exact h1) (by rw [List.length_set]; exact h2)
    rw [List.length_set] at h8 h9
    refine ⟨r, s0', s1', e4, h7, h8, ?_⟩
    have t := diffL_tri b (b.set v.toNat (65 + u)) r b.length
    have s := diffL_set b v.toNat (65 + u) b.length
    split at s <;> omega
theorem bt_str (xs : List Int) (p : Nat) (hx : ∀ x ∈ xs, 0 ≤ x ∧ x ≤ 255) (hp : p < xs.length) : bt (strOfNums xs) (p : Int) = xs.getD p 0 := by
  have hs : p < (strOfNums xs).size := by rw [strOfNums_size]; exact hp
  rw [← bt_at (strOfNums xs) (p : Int) (by simpa using hs)]
  have h1 : ((strOfNums xs)[(p : Int).toNat]'(by simpa using hs)) = UInt8.ofNat (xs.getD p 0).toNat := by
    show (strOfNums xs).data[(p : Int).toNat]'_ = _
    simp [strOfNums, List.getD_eq_getElem?_getD, List.getElem?_eq_getElem hp]
  rw [h1]
  have h2 := hx (xs.getD p 0) (by rw [List.getD_eq_getElem?_getD, List.getElem?_eq_getElem hp]; exact List.getElem_mem hp)
  revert h2
  generalize xs.getD p 0 = z
  intro h2
  simp
  omega
theorem bytesOf_get (b : ByteArray) (p : Nat) : (bytesOf b).getD p 0 = bt b (p : Int) := by
  rw [← rd_bytesOf]
  rfl
def letB (b : ByteArray) : Prop := ∀ p : Nat, p < b.size → 65 ≤ bt b (p : Int) ∧ bt b (p : Int) ≤ 67
theorem letB_list {b : ByteArray} (h : letB b) : letL (bytesOf b) := by
  intro x hx
  obtain ⟨p, hp, rfl⟩ := List.getElem_of_mem hx
  have h2 := h p (by rw [← bytesOf_length]; exact hp)
  rw [← bytesOf_get, List.getD_eq_getElem?_getD, List.getElem?_eq_getElem hp] at h2
  exact h2
theorem letL_str {xs : List Int} (h : letL xs) : letB (strOfNums xs) := by
  intro p hp
  rw [strOfNums_size] at hp
  rw [bt_str xs p (fun x hx => by have := h x hx; omega) hp]
  exact h _ (by rw [List.getD_eq_getElem?_getD, List.getElem?_eq_getElem hp]; exact List.getElem_mem hp)
theorem apN_diff (b : ByteArray) (r : List Int) (hr : letL r) : ∀ m, m ≤ r.length → apN b (strOfNums r) m = (diffL (bytesOf b) r m : Int) := by
  intro m
  induction m with
  | zero => intro _; simp [apN, diffL]
  | succ m ih =>
    intro hm
    rw [apN_succ, ih (by omega), diffL, bt_str r m (fun x hx => by have := hr x hx; omega) (by omega), bytesOf_get]
    split <;> simp
theorem erred_ok (s0 s1 : Int) (a : ByteArray) (e : Int) (ha : letB a) (h1 : 1 ≤ a.size) (h2 : a.size ≤ 100) (he : 0 ≤ e) (he2 : e ≤ 1000) : ∃ t s0' s1', erred s0 s1 a e = some (t, s0', s1') ∧ letB t ∧ t.size = a.size ∧ apN a t a.size ≤ e := by
  unfold erred
  rw [if_pos ⟨by omega, by omega⟩]
  obtain ⟨r, s0', s1', e1, h3, h4, h5⟩ := erredGo_ok e.toNat (bytesOf a) s0 s1 (letB_list ha) (by rw [bytesOf_length]; exact h1) (by rw [bytesOf_length]; exact h2)
  rw [e1]
  rw [bytesOf_length] at h4 h5
  refine ⟨_, _, _, rfl, letL_str h3, by rw [strOfNums_size]; exact h4, ?_⟩
  rw [apN_diff a r h3 _ (by omega)]
  omega
theorem stoneGo_ok : ∀ (n : Nat) (a b : Int) (s : ByteArray), letB s → s.size + n ≤ 100 → ∃ t a' b', stoneGo n a b s = some (t, a', b') ∧ letB t ∧ t.size = s.size + n := by
  intro n
  induction n with
  | zero => intro a b s h _; exact ⟨s, a, b, rfl, h, rfl⟩
  | succ n ih =>
    intro a b s h hs
    unfold stoneGo
    obtain ⟨u, a2, b2, e2, h5, h6⟩ := up_ok a b 3 (by omega)
    rw [e2, Option.bind_some, if_pos (by omega)]
    have e3 : wrap64 (65 + u) % 256 = 65 + u := by rw [wrap64_small (by omega) (by omega)]; omega
    show ∃ t a' b', stoneGo n a2 b2 (s ++ strOfNums [wrap64 (65 + u) % 256]) = some (t, a', b') ∧ _
    rw [e3]
    have hsz : (s ++ strOfNums [65 + u]).size = s.size + 1 := by rw [ByteArray.size_append, strOfNums_size]; rfl
    obtain ⟨t, a', b', e4, h7, h8⟩ := ih a2 b2 (s ++ strOfNums [65 + u]) (fun p hp => by
      by_cases hp2 : p < s.size
      · have e5 : bt (s ++ strOfNums [65 + u]) (p : Int) = bt s (p : Int) := by
          rw [← bt_at _ (p : Int) (by simpa using hp), ← bt_at s (p : Int) (by simpa using hp2)]
          simp only [Int.toNat_natCast]
          rw [ByteArray.getElem_append_left hp2]
        rw [e5]
        exact h p hp2
      · have hpe : p = s.size := by omega
        have e5 : bt (s ++ strOfNums [65 + u]) (p : Int) = 65 + u := by
          rw [← bt_at _ (p : Int) (by simpa using hp)]
          simp only [Int.toNat_natCast]
          rw [ByteArray.getElem_append_right (by omega)]
          have h9 := bt_str [65 + u] 0 (fun x hx => by simp at hx; omega) (by simp)
          rw [← bt_at _ ((0 : Nat) : Int) (by rw [strOfNums_size]; simp)] at h9
          simpa [hpe] using h9
        rw [e5]
        omega) (by omega)
    exact ⟨t, a', b', e4, h7, by omega⟩
def fromOf (st : ByteArray) (l : List S24) (f : Int) : ByteArray := if f < 0 then st else (rd_T24 l f).f0
structure MadeOk (er : Int) (st : ByteArray) (l : List S24) (src : List Int) : Prop where
  len : src.length = l.length
  one : ∀ i : Nat, i < l.length → (letB (rd_T24 l (i : Int)).f0 ∧ (rd_T24 l (i : Int)).f0.size = st.size) ∧ (0 ≤ (rd_T24 l (i : Int)).f1 ∧ (rd_T24 l (i : Int)).f1 ≤ er) ∧ (-1 ≤ src.getD i 0 ∧ src.getD i 0 < i) ∧ (src.getD i 0 < 0 → (rd_T24 l (i : Int)).f2 = true) ∧ apN (fromOf st l (src.getD i 0)) (rd_T24 l (i : Int)).f0 st.size ≤ (rd_T24 l (i : Int)).f1
theorem rd_snoc_lt (l : List S24) (x : S24) (i : Int) (h0 : 0 ≤ i) (h : i < l.length) : rd_T24 (l ++ [x]) i = rd_T24 l i := by
  unfold rd_T24
  rw [List.getD_eq_getElem?_getD, List.getD_eq_getElem?_getD, List.getElem?_append_left (by omega)]
theorem rd_snoc_eq (l : List S24) (x : S24) : rd_T24 (l ++ [x]) (l.length : Int) = x := by
  unfold rd_T24
  rw [List.getD_eq_getElem?_getD, Int.toNat_natCast, List.getElem?_append_right (Nat.le_refl _)]
  simp
theorem MadeOk.snoc {er : Int} {st : ByteArray} {l : List S24} {src : List Int} (h : MadeOk er st l src) (x : S24) (f : Int) (hx : letB x.f0 ∧ x.f0.size = st.size) (he : 0 ≤ x.f1 ∧ x.f1 ≤ er) (hf : -1 ≤ f ∧ f < l.length) (hs : f < 0 → x.f2 = true) (ha : apN (fromOf st l f) x.f0 st.size ≤ x.f1) : MadeOk er st (l ++ [x]) (src ++ [f]) := by
  refine ⟨by simp [h.len], fun i hi => ?_⟩
  rw [List.length_append, List.length_singleton] at hi
  by_cases e : i = l.length
  · subst e
    have e1 : (src ++ [f]).getD l.length 0 = f := by
      rw [List.getD_eq_getElem?_getD, List.getElem?_append_right (by rw [h.len]; exact Nat.le_refl _)]
      simp [h.len]
    rw [e1, rd_snoc_eq]
    refine ⟨hx, he, hf, hs, ?_⟩
    have e2 : fromOf st (l ++ [x]) f = fromOf st l f := by
      unfold fromOf
      split
      · rfl
      · rw [rd_snoc_lt l x f (by omega) hf.2]
    rw [e2]
    exact ha
  · have hi2 : i < l.length := by omega
    have e1 : (src ++ [f]).getD i 0 = src.getD i 0 := by
      rw [List.getD_eq_getElem?_getD, List.getD_eq_getElem?_getD, List.getElem?_append_left (by rw [h.len]; exact hi2)]
    have h1 := h.one i hi2
    rw [e1, rd_snoc_lt l x (i : Int) (by omega) (by omega)]
    refine ⟨h1.1, h1.2.1, h1.2.2.1, h1.2.2.2.1, ?_⟩
    have e2 : fromOf st (l ++ [x]) (src.getD i 0) = fromOf st l (src.getD i 0) := by
      unfold fromOf
      split
      · rfl
      · rw [rd_snoc_lt l x _ (by omega) (by have := h1.2.2.1; omega)]
    rw [e2]
    exact h1.2.2.2.2
theorem copyGo_ok (er : Int) (st : ByteArray) (her : 0 ≤ er) (her2 : er ≤ 900) (hst : letB st) (h1 : 1 ≤ st.size) (h2 : st.size ≤ 100) : ∀ (n : Nat) (l : List S24) (src : List Int) (a b : Int), MadeOk er st l src → l.length + n ≤ 100 →
    ∃ l' src' a' b', copyGo n er st l src a b = some (l', src', a', b') ∧ MadeOk er st l' src' ∧ l'.length = l.length + n := by
  intro n
  induction n with
  | zero => intro l src a b h _; exact ⟨l, src, a, b, rfl, h, rfl⟩
  | succ n ih =>
    intro l src a b h hl
    unfold copyGo
    have e0 : wrap64 ((l.length : Int) - 1) = (l.length : Int) - 1 := by simp [wrap64]; omega
    rw [e0]
    obtain ⟨f, a1, b1, e1, f1, f2⟩ := from_ok a b (-1) ((l.length : Int) - 1) (by omega) (by omega) (by omega) (by omega)
    rw [e1, Option.bind_some]
    have e2 : wrap64 (er + 1) = er + 1 := wrap64_small (by omega) (by omega)
    rw [e2]
    obtain ⟨u, a2, b2, e3, u1, u2⟩ := up_ok a1 b1 (er + 1) (by omega)
    show ∃ l' src' a' b', ((cippuskit_Urn_Up.f a1 b1 (er + 1)).bind _) = _ ∧ _
    rw [e3, Option.bind_some]
    obtain ⟨o, a3, b3, e4, o1⟩ : ∃ o a3 b3, (if f < 0 then some (true, a2, b2) else cippuskit_Urn_Odds.f a2 b2 1 2) = some (o, a3, b3) ∧ (f < 0 → o = true) := by
      by_cases hf : f < 0
      · exact ⟨true, a2, b2, if_pos hf, fun _ => rfl⟩
      · obtain ⟨v, a', b', e⟩ := odds_ok a2 b2 1 2 (by omega)
        exact ⟨v, a', b', (if_neg hf).trans e, fun h => absurd h hf⟩
    show ∃ l' src' a' b', ((if f < 0 then some (true, a2, b2) else cippuskit_Urn_Odds.f a2 b2 1 2).bind _) = _ ∧ _
    rw [e4, Option.bind_some]
    have e5 : (if 0 ≤ f then (if f < (l.length : Int) then some (rd_T24 l f).f0 else none) else some st) = some (fromOf st l f) := by
      unfold fromOf
      by_cases hf : f < 0
      · rw [if_neg (by omega), if_pos hf]
      · rw [if_pos (by omega), if_pos (by omega), if_neg hf]
    show ∃ l' src' a' b', ((if 0 ≤ f then (if f < (l.length : Int) then some (rd_T24 l f).f0 else none) else some st).bind _) = _ ∧ _
    rw [e5, Option.bind_some]
    have hfr : letB (fromOf st l f) ∧ (fromOf st l f).size = st.size := by
      unfold fromOf
      split
      · exact ⟨hst, rfl⟩
      · have h3 := h.one f.toNat (by omega)
        rw [show ((f.toNat : Nat) : Int) = f by omega] at h3
        exact h3.1
    obtain ⟨t, a4, b4, e6, t1, t2, t3⟩ := erred_ok a3 b3 (fromOf st l f) u hfr.1 (by rw [hfr.2]; exact h1) (by rw [hfr.2]; exact h2) u1 (by omega)
    show ∃ l' src' a' b', ((erred a3 b3 (fromOf st l f) u).bind _) = _ ∧ _
    rw [e6, Option.bind_some, if_pos (by rw [h.len]; omega)]
    obtain ⟨l', src', a', b', e7, m1, m2⟩ := ih (l ++ [⟨t, u, o⟩]) (src ++ [f]) a4 b4 (h.snoc ⟨t, u, o⟩ f ⟨t1, by rw [t2]; exact hfr.2⟩ ⟨u1, show u ≤ er by omega⟩ ⟨f1, show f < (l.length : Int) by omega⟩ o1 (by rw [hfr.2] at t3; exact t3)) (by simp; omega)
    refine ⟨l', src', a', b', e7, m1, ?_⟩
    rw [m2]
    simp
    omega
theorem copiesOf_ok (s0 s1 copies places er : Int) (h1 : 1 ≤ copies) (h2 : copies ≤ 90) (h3 : 1 ≤ places) (h4 : places ≤ 90) (h5 : 0 ≤ er) (h6 : er ≤ 900) :
    ∃ l st src a b, copiesOf s0 s1 copies places er = some (l, st, src, a, b) ∧ MadeOk er st l src ∧ (1 ≤ l.length ∧ (l.length : Int) ≤ copies) ∧ (1 ≤ st.size ∧ (st.size : Int) ≤ places) ∧ letB st := by
  unfold copiesOf
  obtain ⟨p, a1, b1, e1, p1, p2⟩ := from_ok s0 s1 1 places (by omega) (by omega) (by omega) (by omega)
  rw [e1, Option.bind_some]
  obtain ⟨st, a2, b2, e2, q1, q2⟩ := stoneGo_ok p.toNat a1 b1 ⟨#[]⟩ (fun p hp => by simp [ByteArray.size] at hp) (by simp [ByteArray.size]; omega)
  show ∃ l st src a b, ((stoneGo p.toNat a1 b1 ⟨#[]⟩).bind _) = _ ∧ _
  rw [e2, Option.bind_some]
  obtain ⟨n, a3, b3, e3, n1, n2⟩ := from_ok a2 b2 1 copies (by omega) (by omega) (by omega) (by omega)
  show ∃ l st src a b, ((cippuskit_Urn_From.f a2 b2 1 copies).bind _) = _ ∧ _
  rw [e3, Option.bind_some]
  have hsz : st.size = p.toNat := by rw [q2]; simp [ByteArray.size]
  obtain ⟨l, src, a4, b4, e4, m1, m2⟩ := copyGo_ok er st h5 h6 q1 (by omega) (by omega) n.toNat [] [] a3 b3 ⟨rfl, fun i hi => by simp at hi⟩ (by simp; omega)
  show ∃ l st src a b, ((copyGo n.toNat er _ [] [] a3 b3).map _) = _ ∧ _
  rw [e4]
  refine ⟨l, st, src, a4, b4, rfl, m1, ⟨?_, ?_⟩, ⟨by omega, by omega⟩, q1⟩
  · rw [m2]; simp; omega
  · rw [m2]; simp; omega
theorem newUrn_ok (l : List Int) (h : l.length < 4611686018427387904) : ∃ a b, newUrn l = some (a, b) := by
  unfold newUrn
  rw [if_pos h]
  have : ∀ (l : List Int) (a b : Int), ∃ r, urnGo l a b = some r := by
    intro l
    induction l with
    | nil => intro a b; exact ⟨_, rfl⟩
    | cons x l ih =>
      intro a b
      unfold urnGo
      obtain ⟨v, a', b', e, _⟩ := turn_ok a (IntKind.u64.wrap (b + IntKind.u64.wrap x))
      rw [e, Option.bind_some]
      obtain ⟨v2, a2, b2, e2, _⟩ := turn_ok a' b'
      show ∃ r, ((cippuskit_Urn_turn.f a' b').bind _) = some r
      rw [e2, Option.bind_some]
      exact ih _ _
  obtain ⟨r, hr⟩ := this l 11400714819323198485 14029467366897019727
  exact ⟨r.1, r.2, hr⟩
end Go.Proofs.Ytegjollhajgcdaa.P.OwnSt
namespace Go.Proofs.Ytegjollhajgcdaa.P.OwnSt
open Go.RowKit Go.Proofs.YtegjollhajgcdaaW.PrintWords Go.Proofs.YtegjollhajgcdaaW.PrintLast Go.Proofs.YtegjollhajgcdaaW.PrintMore
set_option linter.unusedVariables false
set_option linter.unusedSimpArgs false
def srcF (src : List Int) (k : Nat) : Int := src.getD k 0
def letF (st : ByteArray) (p : Nat) : Int := if p < st.size then bt st (p : Int) else 65
structure MadeT (er : Int) (st : ByteArray) (l : List S24) (src : List Int) : Prop where
  made : MadeOk er st l src
  er0 : 0 ≤ er
  er3 : er ≤ 3
  one : 1 ≤ l.length
  five : l.length ≤ 5
  low : 1 ≤ st.size
  high : st.size ≤ 8
  letters : letB st
theorem MadeT.first {er : Int} {st : ByteArray} {l : List S24} {src : List Int} (h : MadeT er st l src) : (rd_T24 l 0).f0.size = st.size := (h.made.one 0 h.one).1.2
theorem MadeT.valid {er : Int} {st : ByteArray} {l : List S24} {src : List Int} (h : MadeT er st l src) : Valid l := by
  have h0 := h.first
  refine ⟨h.one, h.five, fun i hi => ?_, by rw [h0]; exact h.low, by rw [h0]; exact h.high, fun i hi => ?_, fun i hi p hp => ?_⟩
  · rw [h0]; exact (h.made.one i hi).1.2
  · have h1 := (h.made.one i hi).2.1
    have := h.er3
    omega
  · have h1 := (h.made.one i hi).1
    have h2 := h1.1 p (by rw [h1.2, ← h0]; exact hp)
    omega
theorem MadeT.tree {er : Int} {st : ByteArray} {l : List S24} {src : List Int} (h : MadeT er st l src) : TreeOk l (srcF src) := by
  refine ⟨fun k hk => ?_, fun k hk => ?_⟩
  · obtain ⟨h1, h2, h3, h4, h5⟩ := h.made.one k hk
    refine ⟨h3.1, h3.2, ?_⟩
    unfold canF srcF
    by_cases e : src.getD k 0 = -1
    · rw [e]
      simp only [beq_self_eq_true, if_true]
      exact h4 (by omega)
    · rw [if_neg (by simpa using e)]
      unfold fromOf at h5
      rw [if_neg (by omega)] at h5
      have h6 := h.made.one (src.getD k 0).toNat (by omega)
      rw [show (((src.getD k 0).toNat : Nat) : Int) = src.getD k 0 by omega] at h6
      rw [h6.1.2]
      exact decide_eq_true h5
  · unfold srcF
    rw [List.getD_eq_getElem?_getD, List.getElem?_eq_none (by rw [h.made.len]; exact hk)]
    rfl
theorem MadeT.apart {er : Int} {st : ByteArray} {l : List S24} {src : List Int} (h : MadeT er st l src) (i : Nat) (hi : srcF src i = -1) : hsum l (srcF src) (letF st) i (rd_T24 l 0).f0.size 0 = apN st (rd_T24 l (i : Int)).f0 st.size := by
  rw [h.first]
  have := hsum_apN (l := l) (t := letF st) hi st st.size (fun p hp => by unfold letF; rw [if_pos hp]) st.size 0 (by omega)
  simpa [apN] using this
theorem MadeT.fit {er : Int} {st : ByteArray} {l : List S24} {src : List Int} (h : MadeT er st l src) : FitT l (srcF src) (letF st) := by
  refine ⟨fun p => ?_, fun i hi h0 => ?_⟩
  · unfold letF
    split
    · rename_i hp
      have := h.letters p hp
      omega
    · omega
  · by_cases e : srcF src i = -1
    · rw [h.apart i e]
      have h5 := (h.made.one i hi).2.2.2.2
      unfold fromOf at h5
      have e' : src.getD i 0 = -1 := e
      rw [e', if_pos (by omega)] at h5
      exact h5
    · exact absurd (hsum_none e _ _) h0
theorem MadeT.known {er : Int} {st : ByteArray} {l : List S24} {src : List Int} (h : MadeT er st l src) : srcF src ∈ knownV l := (known_iff h.valid _).2 ⟨h.tree, _, h.fit⟩
theorem MadeT.knownE {er : Int} {st : ByteArray} {l : List S24} {src : List Int} (h : MadeT er st l src) : knownE l = 0 := knownE_of h.valid h.known
def errSum (l : List S24) (st : ByteArray) (src : List Int) : Nat → Int := sumTo fun i => apN (fromOf st l (src.getD i 0)) (rd_T24 l (i : Int)).f0 (fromOf st l (src.getD i 0)).size
theorem MadeT.cost {er : Int} {st : ByteArray} {l : List S24} {src : List Int} (h : MadeT er st l src) : costT l (srcF src) (letF st) + apTo l (srcF src) l.length = errSum l st src l.length := by
  unfold costT errSum
  rw [cost_sum, apTo_sum, ← sumTo_add]
  refine sumTo_congr _ fun i hi => ?_
  by_cases e : srcF src i = -1
  · rw [h.apart i e]
    have e' : src.getD i 0 = -1 := e
    show _ + (if srcF src i = -1 then 0 else _) = _
    rw [if_pos e, e']
    unfold fromOf
    rw [if_pos (by omega)]
    omega
  · rw [hsum_none e]
    show 0 + (if srcF src i = -1 then 0 else _) = _
    rw [if_neg e]
    have h3 := (h.made.one i hi).2.2.1
    have e' : ¬ src.getD i 0 = -1 := e
    unfold fromOf
    rw [if_neg (by omega)]
    exact Int.zero_add _
theorem MadeT.fewest {er : Int} {st : ByteArray} {l : List S24} {src : List Int} (h : MadeT er st l src) : (fewestV l).1 ≤ errSum l st src l.length := by
  rw [← h.cost]
  exact Int.le_trans (fewest_le h.knownE h.known) (numF_le h.fit)
theorem copiesOf_made (s0 s1 copies places er : Int) (h1 : 1 ≤ copies) (h2 : copies ≤ 5) (h3 : 1 ≤ places) (h4 : places ≤ 8) (h5 : 0 ≤ er) (h6 : er ≤ 3) :
    ∃ l st src a b, OwnUrn.copiesOf s0 s1 copies places er = some (l, st, src, a, b) ∧ MadeT er st l src ∧ (l.length : Int) ≤ copies ∧ (st.size : Int) ≤ places := by
  obtain ⟨l, st, src, a, b, e, m, n, p, q⟩ := copiesOf_ok s0 s1 copies places er h1 (by omega) h3 (by omega) h5 (by omega)
  exact ⟨l, st, src, a, b, e, ⟨m, h5, h6, n.1, by omega, p.1, by omega, q⟩, n.2, p.2⟩
end Go.Proofs.Ytegjollhajgcdaa.P.OwnSt
namespace Go.Proofs.Ytegjollhajgcdaa.P.OwnSt
open Go.RowKit Go.Proofs.YtegjollhajgcdaaW.PrintWords Go.Proofs.YtegjollhajgcdaaW.PrintLast Go.Proofs.YtegjollhajgcdaaW.PrintMore
set_option maxRecDepth 100000 in
set_option maxHeartbeats 4000000 in
theorem found_40 : cippuslaw07_found.f 40 = some true := by kernel_rfl
theorem found_ev : Ev (fun k => cippuslaw07_found.f k) true := Ev.of cippuslaw07_found.mono found_40
end Go.Proofs.Ytegjollhajgcdaa.P.OwnSt
namespace Go.Proofs.Ytegjollhajgcdaa.P.OwnSt
open Go.RowKit Go.Proofs.YtegjollhajgcdaaW.PrintWords Go.Proofs.YtegjollhajgcdaaW.PrintLast Go.Proofs.YtegjollhajgcdaaW.PrintMore
set_option linter.unusedVariables false
set_option linter.unusedSimpArgs false
theorem apart_ev (a b : ByteArray) (hab : a.size ≤ b.size) (h8 : a.size ≤ 1000) : Ev (fun k => cippusref07_Apart.f k a b) (apN a b a.size) := by
  have : ∀ rem i, i + rem = a.size → Ev (fun k => cippusref07_Apart.l0 k a b (apN a b i) (i : Int)) (apN a b a.size) := by
    intro rem
    induction rem with
    | zero =>
      intro i hi
      refine Ev.step (fun k => by rw [cippusref07_Apart.l0]) ?_
      rw [show i = a.size by omega]
      exact Ev.if_neg' (by omega) (Ev.now _)
    | succ rem ih =>
      intro i hi
      refine Ev.step (fun k => by rw [cippusref07_Apart.l0]) ?_
      refine Ev.if_pos' (by omega) (Ev.if_pos' (by omega) (Ev.if_pos' (by omega) ?_))
      have h := ih (i + 1) (by omega)
      have hb := apN_bound a b i
      rw [apN_succ] at h
      rw [wrap64_small (by omega) (by omega)]
      by_cases e : bt a (i : Int) = bt b (i : Int)
      · refine Ev.if_pos' e ?_
        rw [if_pos e, Int.add_zero] at h
        simpa using h
      · refine Ev.if_neg' e ?_
        rw [if_neg e] at h
        rw [wrap64_small (by omega) (by omega)]
        simpa using h
  have h := this a.size 0 (by omega)
  unfold cippusref07_Apart.f
  simpa [apN] using h
def hasB (b : ByteArray) (c : Int) : Bool := (List.range b.size).any fun (p : Nat) => bt b (p : Int) == c
theorem has_ev (b : ByteArray) (c : Int) (h8 : b.size ≤ 1000) : Ev (fun k => cippuslaw07_has.f k b c) (hasB b c) := by
  have : ∀ rem i, i + rem = b.size → (∀ j, j < i → bt b (j : Int) ≠ c) → Ev (fun k => cippuslaw07_has.l0 k b c (i : Int)) (hasB b c) := by
    intro rem
    induction rem with
    | zero =>
      intro i hi hn
      refine Ev.step (fun k => by rw [cippuslaw07_has.l0]) ?_
      refine Ev.if_neg' (by omega) ?_
      have : hasB b c = false := by
        unfold hasB
        rw [← Bool.not_eq_true, List.any_eq_true]
        rintro ⟨p, hp, h⟩
        exact hn p (by have := List.mem_range.1 hp; omega) (by simpa using h)
      rw [this]
      exact Ev.now _
    | succ rem ih =>
      intro i hi hn
      refine Ev.step (fun k => by rw [cippuslaw07_has.l0]) ?_
      refine Ev.if_pos' (by omega) (Ev.if_pos' (by omega) ?_)
      by_cases e : bt b (i : Int) = c
      · have : hasB b c = true := by
          unfold hasB
          rw [List.any_eq_true]
          exact ⟨i, List.mem_range.2 (by omega), by simpa using e⟩
        rw [this]
        exact Ev.if_pos' e (Ev.now _)
      · refine Ev.if_neg' e ?_
        rw [wrap64_small (by omega) (by omega)]
        have h := ih (i + 1) (by omega) (fun j hj => by
          by_cases ej : j = i
          · subst ej; exact e
          · exact hn j (by omega))
        simpa using h
  have h := this b.size 0 (by omega) (fun j hj => by omega)
  unfold cippuslaw07_has.f
  simpa using h
end Go.Proofs.Ytegjollhajgcdaa.P.OwnSt
namespace Go.Proofs.Ytegjollhajgcdaa.P.OwnSt
open Go.RowKit Go.Proofs.YtegjollhajgcdaaW.PrintWords Go.Proofs.YtegjollhajgcdaaW.PrintLast Go.Proofs.YtegjollhajgcdaaW.PrintMore
set_option linter.unusedVariables false
set_option linter.unusedSimpArgs false
theorem btR_left (a b : ByteArray) (p : Nat) (hp : p < a.size) : bt (a ++ b) (p : Int) = bt a (p : Int) := by
  rw [← bt_at (a ++ b) (p : Int) (by rw [ByteArray.size_append, Int.toNat_natCast]; omega), ← bt_at a (p : Int) (by simpa using hp)]
  simp only [Int.toNat_natCast]
  rw [ByteArray.getElem_append_left hp]
theorem btR_right (a b : ByteArray) (q : Nat) (hb : q < b.size) : bt (a ++ b) ((a.size + q : Nat) : Int) = bt b (q : Int) := by
  rw [← bt_at (a ++ b) ((a.size + q : Nat) : Int) (by rw [ByteArray.size_append, Int.toNat_natCast]; omega), ← bt_at b (q : Int) (by simpa using hb)]
  simp only [Int.toNat_natCast]
  rw [ByteArray.getElem_append_right (by omega)]
  simp
theorem btR_ext (a b : ByteArray) (h : a.size = b.size) (hb : ∀ p : Nat, p < a.size → bt a (p : Int) = bt b (p : Int)) : a = b := by
  have hd : a.data = b.data := by
    apply Array.ext
    · exact h
    · intro i h1 h2
      have h3 := hb i h1
      rw [← bt_at a (i : Int) (by simpa using h1), ← bt_at b (i : Int) (by simpa using h2)] at h3
      simp only [Int.toNat_natCast] at h3
      have h4 : (a[i]'h1).toNat = (b[i]'h2).toNat := by omega
      exact UInt8.toNat_inj.1 h4
  cases a
  cases b
  simp only at hd
  rw [hd]
theorem next64 (i : Nat) (h : i < 1000000) : wrap64 ((i : Int) + 1) = ((i + 1 : Nat) : Int) := by rw [wrap64_small (by omega) (by omega)]; omega
def srcL (n : Nat) (s : Nat → Int) : List Int := (List.range n).map s
theorem srcL_len (n : Nat) (s : Nat → Int) : (srcL n s).length = n := by simp [srcL]
theorem srcL_rd (n : Nat) (s : Nat → Int) (i : Nat) (h : i < n) : rd (srcL n s) (i : Int) = s i := by
  unfold srcL rd
  simp [List.getD_eq_getElem?_getD, h]
end Go.Proofs.Ytegjollhajgcdaa.P.OwnSt
namespace Go.Proofs.Ytegjollhajgcdaa.P
open Go.RowKit Go.Proofs.YtegjollhajgcdaaW.PrintWords Go.Proofs.YtegjollhajgcdaaW.PrintLast Go.Proofs.YtegjollhajgcdaaW.PrintMore
set_option linter.unusedVariables false
set_option linter.unusedSimpArgs false
namespace OwnSt
def canW (l : List S24) (st : ByteArray) (i : Nat) (f : Int) : Bool := if 0 ≤ f then decide (apN (rd_T24 l f).f0 (rd_T24 l (i : Int)).f0 (rd_T24 l f).f0.size ≤ (rd_T24 l (i : Int)).f1) else (rd_T24 l (i : Int)).f2 && decide (apN st (rd_T24 l (i : Int)).f0 st.size ≤ (rd_T24 l (i : Int)).f1)
def walkB (l : List S24) (st : ByteArray) : Nat → List Int → List S27
  | 0, s => [⟨st, s⟩]
  | rem + 1, s => (List.range (s.length + 1)).flatMap fun (f : Nat) => if canW l st s.length ((f : Int) - 1) = true then walkB l st rem (s ++ [(f : Int) - 1]) else []
def walkA (l : List S24) : Nat → ByteArray → List S27
  | 0, st => walkB l st l.length []
  | rem + 1, st => (List.range 4).flatMap fun (c : Nat) => walkA l rem (st ++ strOfNums [65 + (c : Int)])
def walkW (l : List S24) (st : ByteArray) (s : List Int) : List S27 := if st.size < (rd_T24 l 0).f0.size then walkA l ((rd_T24 l 0).f0.size - st.size) st else walkB l st (l.length - s.length) s
structure WalkOk (l : List S24) (st : ByteArray) (s : List Int) : Prop where
  vl : Valid l
  size : st.size ≤ (rd_T24 l 0).f0.size
  nil : st.size < (rd_T24 l 0).f0.size → s = []
  len : s.length ≤ l.length
end OwnSt
def cippuslaw07_walku.f (l0 : List (S24)) (a1_0 : ByteArray) (l1_1 : List Int) (a2 : List (S27)) : Option (List (S27)) := some (a2 ++ OwnSt.walkW l0 a1_0 l1_1)
def cippuslaw07_walkv.f (a0 : List (S27)) (a1_0 : ByteArray) (l1_1 : List Int) : Option (List (S27)) := some (a0 ++ [⟨a1_0, l1_1⟩])
mutual
def cippuslaw07_walkt.l0 : Nat → List (S24) → List (S27) → Int → ByteArray → List Int → Option (List (S27))
  | 0, _, _, _, _, _ => none
  | k + 1, x0, x2, x7, x356000, x356001 => if x7 ≤ 68 then ((some (([x7] : List Int) : List Int)).bind fun y357 => (if x356000.size + (strOfNums y357).size ≤ 9223372036854775807 then ((cippuslaw07_walku.f x0 (x356000 ++ (strOfNums y357)) ([] : List Int) x2).bind fun t360 => (cippuslaw07_walkt.l0 k x0 t360 ((x7 + 1) % 256) x356000 x356001)) else (none))) else (some x2)
def cippuslaw07_walkt.l1 : Nat → List (S24) → List (S27) → Int → Int → ByteArray → List Int → Option (List (S27))
  | 0, _, _, _, _, _, _ => none
  | k + 1, x0, x2, x8, x9, x356000, x356001 => if x9 < x8 then (if x9 ≥ 0 then (if 0 ≤ x9 then (if x9 < (x0.length : Int) then (cippuslaw07_walkt.j2 k x0 x2 x8 x9 ((rd_T24 x0 x9).f0) x356000 x356001) else (none)) else (none)) else (cippuslaw07_walkt.j2 k x0 x2 x8 x9 x356000 x356000 x356001)) else (some x2)
def cippuslaw07_walkt.j2 : Nat → List (S24) → List (S27) → Int → Int → ByteArray → ByteArray → List Int → Option (List (S27))
  | 0, _, _, _, _, _, _, _ => none
  | k + 1, x0, x2, x8, x9, x10, x356000, x356001 => if x9 ≥ 0 then (if 0 ≤ x8 then (if x8 < (x0.length : Int) then ((cippusref07_Apart.f k x10 ((rd_T24 x0 x8).f0)).bind fun t364 => (cippuslaw07_walkt.j3 k x0 x2 x8 x9 (decide (t364 ≤ ((rd_T24 x0 x8).f1))) x356000 x356001)) else (none)) else (none)) else (if 0 ≤ x8 then (if x8 < (x0.length : Int) then (if (rd_T24 x0 x8).f2 = true then ((cippusref07_Apart.f k x10 ((rd_T24 x0 x8).f0)).bind fun t368 => (cippuslaw07_walkt.j3 k x0 x2 x8 x9 (decide (t368 ≤ ((rd_T24 x0 x8).f1))) x356000 x356001)) else (cippuslaw07_walkt.j3 k x0 x2 x8 x9 false x356000 x356001)) else (none)) else (none))
def cippuslaw07_walkt.j3 : Nat → List (S24) → List (S27) → Int → Int → Bool → ByteArray → List Int → Option (List (S27))
  | 0, _, _, _, _, _, _, _ => none
  | k + 1, x0, x2, x8, x9, x83, x356000, x356001 => if x83 = true then ((cippuskit_Ints.f x356001).bind fun t370 => ((some (([x9] : List Int) : List Int)).bind fun y373 => (if t370.length + y373.length < 17592186044416 then ((cippuslaw07_walku.f x0 x356000 (t370 ++ y373) x2).bind fun t379 => (cippuslaw07_walkt.l1 k x0 t379 x8 (wrap64 (x9 + 1)) x356000 x356001)) else (none)))) else (cippuslaw07_walkt.l1 k x0 x2 x8 (wrap64 (x9 + 1)) x356000 x356001)
end
def cippuslaw07_walkt.f (k : Nat) (l0 : List (S24)) (a1_0 : ByteArray) (l1_1 : List Int) (a2 : List (S27)) : Option (List (S27)) := if 0 < (l0.length : Int) then (if (a1_0.size : Int) < (((rd_T24 l0 0).f0).size : Int) then (cippuslaw07_walkt.l0 k l0 a2 65 a1_0 l1_1) else (if (l1_1.length : Int) = (l0.length : Int) then ((cippuslaw07_walkv.f a2 a1_0 l1_1).bind fun t361 => (some t361)) else (cippuslaw07_walkt.l1 k l0 a2 (l1_1.length : Int) (-1) a1_0 l1_1))) else (none)
namespace OwnSt
theorem ints_eq (s : List Int) (h : s.length < 100) : cippuskit_Ints.f s = some s := by
  unfold cippuskit_Ints.f
  simp only [Option.bind_some, List.length_nil, List.nil_append]
  rw [if_pos (by omega)]
end OwnSt
namespace OwnSt
theorem walkW_nil (l : List S24) (st : ByteArray) (h : st.size ≤ (rd_T24 l 0).f0.size) : walkW l st [] = walkA l ((rd_T24 l 0).f0.size - st.size) st := by
  unfold walkW
  by_cases e : st.size < (rd_T24 l 0).f0.size
  · rw [if_pos e]
  · rw [if_neg e, show (rd_T24 l 0).f0.size - st.size = 0 by omega]
    rfl
section
variable {l : List S24} {st : ByteArray} {s : List Int}
theorem walk_l0 (h : WalkOk l st s) (e : st.size < (rd_T24 l 0).f0.size) (out : List S27) : ∀ r j, j + r = 4 → Ev (fun k => cippuslaw07_walkt.l0 k l (out ++ (List.range j).flatMap fun (c : Nat) => walkA l ((rd_T24 l 0).f0.size - st.size - 1) (st ++ strOfNums [65 + (c : Int)])) (65 + (j : Int)) st s) (out ++ walkW l st s) := by
  intro r
  have h8 := h.vl.high
  induction r with
  | zero =>
    intro j hj
    refine Ev.step (fun k => by rw [cippuslaw07_walkt.l0]) ?_
    have e2 : walkW l st s = (List.range j).flatMap fun (c : Nat) => walkA l ((rd_T24 l 0).f0.size - st.size - 1) (st ++ strOfNums [65 + (c : Int)]) := by
      unfold walkW
      rw [if_pos e, show j = 4 by omega]
      obtain ⟨m, hm⟩ : ∃ m, (rd_T24 l 0).f0.size - st.size = m + 1 := ⟨(rd_T24 l 0).f0.size - st.size - 1, by omega⟩
      rw [hm]
      rfl
    rw [e2]
    exact Ev.if_neg' (by omega) (Ev.now _)
  | succ r ih =>
    intro j hj
    have h1 := ih (j + 1) (by omega)
    refine Ev.step (fun k => by rw [cippuslaw07_walkt.l0]) ?_
    simp only [Option.bind_some]
    have hsz : (st ++ strOfNums [65 + (j : Int)]).size = st.size + 1 := by rw [ByteArray.size_append, strOfNums_size]; rfl
    refine Ev.if_pos' (by omega) (Ev.if_pos' (by rw [strOfNums_size, List.length_singleton]; omega) ?_)
    unfold cippuslaw07_walku.f
    simp only [Option.bind_some]
    rw [walkW_nil l _ (by omega), hsz, show ((65 + (j : Int) + 1) % 256) = 65 + ((j + 1 : Nat) : Int) by omega, show (rd_T24 l 0).f0.size - (st.size + 1) = (rd_T24 l 0).f0.size - st.size - 1 by omega, List.append_assoc]
    rw [List.range_succ, List.flatMap_append] at h1
    simpa using h1
theorem walk_l1 (h : WalkOk l st s) (e : st.size = (rd_T24 l 0).f0.size) (hs : s.length < l.length) (out : List S27) : ∀ r j, j + r = s.length + 1 → Ev (fun k => cippuslaw07_walkt.l1 k l (out ++ (List.range j).flatMap fun (f : Nat) => if canW l st s.length ((f : Int) - 1) = true then walkB l st (l.length - s.length - 1) (s ++ [(f : Int) - 1]) else []) (s.length : Int) ((j : Int) - 1) st s) (out ++ walkW l st s) := by
  intro r
  have h5 := h.vl.five
  have h8 := h.vl.high
  have hi := h.vl.size s.length hs
  induction r with
  | zero =>
    intro j hj
    refine Ev.step (fun k => by rw [cippuslaw07_walkt.l1]) ?_
    have e2 : walkW l st s = (List.range j).flatMap fun (f : Nat) => if canW l st s.length ((f : Int) - 1) = true then walkB l st (l.length - s.length - 1) (s ++ [(f : Int) - 1]) else [] := by
      unfold walkW
      rw [if_neg (by omega), show j = s.length + 1 by omega]
      obtain ⟨m, hm⟩ : ∃ m, l.length - s.length = m + 1 := ⟨l.length - s.length - 1, by omega⟩
      rw [hm]
      rfl
    rw [e2]
    exact Ev.if_neg' (by omega) (Ev.now _)
  | succ r ih =>
    intro j hj
    have h1 := ih (j + 1) (by omega)
    rw [List.range_succ, List.flatMap_append, show (((j + 1 : Nat) : Int) - 1) = (j : Int) - 1 + 1 by omega] at h1
    have hw : wrap64 ((j : Int) - 1 + 1) = (j : Int) - 1 + 1 := wrap64_small (by omega) (by omega)
    have h3 : ∀ b : Bool, b = canW l st s.length ((j : Int) - 1) → Ev (fun k => cippuslaw07_walkt.j3 k l (out ++ (List.range j).flatMap fun (f : Nat) => if canW l st s.length ((f : Int) - 1) = true then walkB l st (l.length - s.length - 1) (s ++ [(f : Int) - 1]) else []) (s.length : Int) ((j : Int) - 1) b st s) (out ++ walkW l st s) := by
      intro b hb
      refine Ev.step (fun k => by rw [cippuslaw07_walkt.j3]) ?_
      cases b with
      | true =>
        refine Ev.if_pos' rfl ?_
        rw [show cippuskit_Ints.f s = some s from ints_eq s (by omega)]
        simp only [Option.bind_some, List.length_singleton]
        refine Ev.if_pos' (by omega) ?_
        unfold cippuslaw07_walku.f
        simp only [Option.bind_some]
        have e3 : walkW l st (s ++ [(j : Int) - 1]) = walkB l st (l.length - s.length - 1) (s ++ [(j : Int) - 1]) := by
          unfold walkW
          rw [if_neg (by omega), List.length_append, List.length_singleton, show l.length - (s.length + 1) = l.length - s.length - 1 by omega]
        rw [e3, hw, List.append_assoc]
        simpa [← hb] using h1
      | false =>
        refine Ev.if_neg' (by decide) ?_
        rw [hw]
        simpa [← hb] using h1
    refine Ev.step (fun k => by rw [cippuslaw07_walkt.l1]) ?_
    refine Ev.if_pos' (by omega) ?_
    by_cases e0 : (j : Int) - 1 ≥ 0
    · obtain ⟨q, hq⟩ : ∃ q : Nat, (j : Int) - 1 = (q : Int) := ⟨j - 1, by omega⟩
      have hsq := h.vl.size q (by omega)
      refine Ev.if_pos' e0 (Ev.if_pos' (by omega) (Ev.if_pos' (by omega) (Ev.step (fun k => by rw [cippuslaw07_walkt.j2]) ?_)))
      refine Ev.if_pos' e0 (Ev.if_pos' (by omega) (Ev.if_pos' (by omega) ?_))
      rw [hq] at e0 h3 ⊢
      refine Ev.bind (apart_ev _ _ (by omega) (by omega)) (h3 _ ?_)
      unfold canW
      rw [if_pos (by omega)]
    · refine Ev.if_neg' e0 (Ev.step (fun k => by rw [cippuslaw07_walkt.j2]) ?_)
      refine Ev.if_neg' e0 (Ev.if_pos' (by omega) (Ev.if_pos' (by omega) ?_))
      by_cases ef : (rd_T24 l (s.length : Int)).f2 = true
      · refine Ev.if_pos' ef (Ev.bind (apart_ev _ _ (by omega) (by omega)) (h3 _ ?_))
        unfold canW
        rw [if_neg (by omega), ef, Bool.true_and]
      · refine Ev.if_neg' ef (h3 _ ?_)
        unfold canW
        rw [if_neg (by omega), Bool.eq_false_iff.mpr ef, Bool.false_and]
theorem walk_ev (h : WalkOk l st s) (out : List S27) : Ev (fun k => cippuslaw07_walkt.f k l st s out) (out ++ walkW l st s) := by
  have h1 := h.vl.one
  have h2 := h.size
  have h3 := h.len
  unfold cippuslaw07_walkt.f
  refine Ev.if_pos' (by omega) ?_
  by_cases e : st.size < (rd_T24 l 0).f0.size
  · refine Ev.if_pos' (by omega) ?_
    simpa using walk_l0 h e out 4 0 (by omega)
  · refine Ev.if_neg' (by omega) ?_
    by_cases e2 : s.length = l.length
    · refine Ev.if_pos' (by omega) ?_
      unfold cippuslaw07_walkv.f walkW
      rw [if_neg e, show l.length - s.length = 0 by omega]
      exact Ev.now _
    · refine Ev.if_neg' (by omega) ?_
      simpa using walk_l1 h (by omega) (by omega) out (s.length + 1) 0 (by omega)
theorem walkB_len (hv : l.length ≤ 5) (st : ByteArray) : ∀ rem (s : List Int), s.length + rem ≤ 5 → (walkB l st rem s).length ≤ 6 ^ rem := by
  intro rem
  induction rem with
  | zero => intro s _; exact Nat.le_refl _
  | succ rem ih =>
    intro s hs
    have h1 : ∀ n, ((List.range n).flatMap fun (f : Nat) => if canW l st s.length ((f : Int) - 1) = true then walkB l st rem (s ++ [(f : Int) - 1]) else []).length ≤ n * 6 ^ rem := by
      intro n
      induction n with
      | zero => simp
      | succ n ihn =>
        rw [List.range_succ, List.flatMap_append, List.length_append, Nat.succ_mul]
        have h2 := ih (s ++ [(n : Int) - 1]) (by rw [List.length_append, List.length_singleton]; omega)
        simp only [List.flatMap_cons, List.flatMap_nil, List.append_nil]
        by_cases e : canW l st s.length ((n : Int) - 1) = true
        · rw [if_pos e]
          exact Nat.add_le_add ihn h2
        · rw [if_neg e]
          exact Nat.le_trans ihn (Nat.le_add_right _ _)
    show ((List.range (s.length + 1)).flatMap fun (f : Nat) => if canW l st s.length ((f : Int) - 1) = true then walkB l st rem (s ++ [(f : Int) - 1]) else []).length ≤ _
    refine Nat.le_trans (h1 (s.length + 1)) ?_
    rw [Nat.pow_succ, Nat.mul_comm (6 ^ rem) 6]
    exact Nat.mul_le_mul_right _ (by omega)
theorem walkA_len (hv : l.length ≤ 5) : ∀ rem (st : ByteArray), (walkA l rem st).length ≤ 4 ^ rem * 7776 := by
  intro rem
  induction rem with
  | zero =>
    intro st
    have h1 := walkB_len hv st l.length [] (by simpa using hv)
    have h6 : 6 ^ l.length ≤ 6 ^ 5 := Nat.pow_le_pow_right (by decide) hv
    have h7 : (6 : Nat) ^ 5 = 7776 := by decide
    rw [h7] at h6
    show (walkB l st l.length []).length ≤ _
    exact Nat.le_trans h1 (Nat.le_trans h6 (by simp))
  | succ rem ih =>
    intro st
    have h1 : ∀ n, ((List.range n).flatMap fun (c : Nat) => walkA l rem (st ++ strOfNums [65 + (c : Int)])).length ≤ n * (4 ^ rem * 7776) := by
      intro n
      induction n with
      | zero => simp
      | succ n ihn =>
        rw [List.range_succ, List.flatMap_append, List.length_append, Nat.succ_mul]
        have h2 := ih (st ++ strOfNums [65 + (n : Int)])
        simp only [List.flatMap_cons, List.flatMap_nil, List.append_nil]
        exact Nat.add_le_add ihn h2
    show ((List.range 4).flatMap fun (c : Nat) => walkA l rem (st ++ strOfNums [65 + (c : Int)])).length ≤ _
    refine Nat.le_trans (h1 4) ?_
    rw [Nat.pow_succ, Nat.mul_comm (4 ^ rem) 4, Nat.mul_assoc]
    exact Nat.le_refl _
theorem walkt_len (r : List S27) : ∀ k, (∀ l x x7 st s, cippuslaw07_walkt.l0 k l x x7 st s = some r → x.length ≤ r.length) ∧ (∀ l x x8 x9 st s, cippuslaw07_walkt.l1 k l x x8 x9 st s = some r → x.length ≤ r.length) ∧ (∀ l x x8 x9 x10 st s, cippuslaw07_walkt.j2 k l x x8 x9 x10 st s = some r → x.length ≤ r.length) ∧ (∀ l x x8 x9 b st s, cippuslaw07_walkt.j3 k l x x8 x9 b st s = some r → x.length ≤ r.length) := by
  intro k
  induction k with
  | zero =>
    refine ⟨fun l x x7 st s h => ?_, fun l x x8 x9 st s h => ?_, fun l x x8 x9 x10 st s h => ?_, fun l x x8 x9 b st s h => ?_⟩
    · simp [cippuslaw07_walkt.l0] at h
    · simp [cippuslaw07_walkt.l1] at h
    · simp [cippuslaw07_walkt.j2] at h
    · simp [cippuslaw07_walkt.j3] at h
  | succ k ih =>
    obtain ⟨i0, i1, i2, i3⟩ := ih
    refine ⟨fun l x x7 st s h => ?_, fun l x x8 x9 st s h => ?_, fun l x x8 x9 x10 st s h => ?_, fun l x x8 x9 b st s h => ?_⟩
    · rw [cippuslaw07_walkt.l0] at h
      unfold cippuslaw07_walku.f at h
      simp only [Option.bind_some] at h
      split at h
      · split at h
        · have := i0 _ _ _ _ _ h
          rw [List.length_append] at this
          omega
        · cases h
      · rw [Option.some.inj h]; exact Nat.le_refl _
    · rw [cippuslaw07_walkt.l1] at h
      repeat' first
      | exact i2 _ _ _ _ _ _ _ h
      | (rw [Option.some.inj h]; exact Nat.le_refl _)
      | (cases h; done)
      | split at h
    · rw [cippuslaw07_walkt.j2] at h
      split at h
      · split at h
        · split at h
          · obtain ⟨_, _, h⟩ := Option.bind_eq_some_iff.mp h
            exact i3 _ _ _ _ _ _ _ h
          · cases h
        · cases h
      · split at h
        · split at h
          · split at h
            · obtain ⟨_, _, h⟩ := Option.bind_eq_some_iff.mp h
              exact i3 _ _ _ _ _ _ _ h
            · exact i3 _ _ _ _ _ _ _ h
          · cases h
        · cases h
    · rw [cippuslaw07_walkt.j3] at h
      split at h
      · obtain ⟨_, _, h⟩ := Option.bind_eq_some_iff.mp h
        obtain ⟨_, _, h⟩ := Option.bind_eq_some_iff.mp h
        split at h
        · unfold cippuslaw07_walku.f at h
          simp only [Option.bind_some] at h
          have := i1 _ _ _ _ _ _ h
          rw [List.length_append] at this
          omega
        · cases h
      · exact i1 _ _ _ _ _ _ h
end
end OwnSt
end Go.Proofs.Ytegjollhajgcdaa.P
namespace Go.Proofs.Ytegjollhajgcdaa.P
open Go.RowKit Go.Proofs.YtegjollhajgcdaaW.PrintWords Go.Proofs.YtegjollhajgcdaaW.PrintLast Go.Proofs.YtegjollhajgcdaaW.PrintMore
set_option linter.unusedVariables false
set_option linter.unusedSimpArgs false
namespace OwnSt
def WalkPost (w0 w : World) (P : Nat → Prop) (vs : Value) (r : List S27) (e : Ending) (w' : World) : Prop :=
  ∃ v, e = .returned v ∧ Kd.R k27 27 w' w0.heap.size (fun k => P k ∨ some k = vs.ownBlock ∨ w.heap.size ≤ k) v r ∧ (∀ k, k < w.heap.size → ¬ P k → w'.heap[k]? = w.heap[k]?) ∧ w.heap.size ≤ w'.heap.size ∧ Below w0.heap.size w0 w'
structure OutI (w0 w : World) (P : Nat → Prop) (gb : Nat) (v : Value) (x : List S27) (w' : World) : Prop where
  below : Below w0.heap.size w0 w'
  size : w.heap.size ≤ w'.heap.size
  kept : ∀ k, k < w.heap.size → ¬ P k → w'.heap[k]? = w.heap[k]?
  row : Kd.R k27 27 w' w0.heap.size (fun k => (P k ∨ w.heap.size ≤ k) ∧ k ≠ gb) v x
def PW (P : Nat → Prop) (w : World) (gb : Nat) (wr : World) (k : Nat) : Prop := ((P k ∨ w.heap.size ≤ k) ∧ k ≠ gb) ∧ k < wr.heap.size
section
variable {w0 w wr wn W w9 : World} {P : Nat → Prop} {gb : Nat} {v vo vs : Value} {x out r : List S27} {e : Ending}
theorem OutI.start (hbel : Below w0.heap.size w0 w) (ho : Kd.R k27 27 w w0.heap.size P vo out) (hgb : w.heap.size ≤ gb) (hB : Below w.heap.size w W) : OutI w0 w P gb vo out W :=
  ⟨below_step hbel hB, hB.size, fun k hk _ => hB.block k hk, Kd.R_mono (Kd.R_below (Kd.R_bound ho) hB) (fun k hk => ⟨.inl hk.1, by have := hk.2.2.1; omega⟩)⟩
theorem OutI.on (h : OutI w0 w P gb v x wr) (hB : Below wr.heap.size wr W) : OutI w0 w P gb v x W :=
  ⟨below_step h.below hB, Nat.le_trans h.size hB.size, fun k hk hp => (hB.block k (Nat.lt_of_lt_of_le hk h.size)).trans (h.kept k hk hp), Kd.R_below h.row hB⟩
theorem OutI.done (h : OutI w0 w P gb v x wr) (hB : Below wr.heap.size wr W) (vs : Value) : WalkPost w0 w P vs x (.returned v) W := by
  have h2 := h.on hB
  exact ⟨v, rfl, Kd.R_mono h2.row (fun k hk => hk.1.elim .inl (fun h => .inr (.inr h))), h2.kept, h2.size, h2.below⟩
theorem OutI.rowAt (h : OutI w0 w P gb v x wr) (hB : Below wr.heap.size wr wn) : Kd.R k27 27 wn w0.heap.size (PW P w gb wr) v x :=
  Kd.R_mono (Kd.R_below (Kd.R_bound h.row) hB) (fun k hk => ⟨hk.1, hk.2.2.1⟩)
theorem OutI.go (h : OutI w0 w P gb v x wr) (hgw : w.heap.size ≤ gb) (hgr : gb < wr.heap.size) (hB : Below wr.heap.size wr wn) (hv : ∀ k, vs.ownBlock = some k → wr.heap.size ≤ k) (hc : WalkPost w0 wn (PW P w gb wr) vs r e w9) :
    ∃ v', e = .returned v' ∧ OutI w0 w P gb v' r w9 ∧ w9.heap[gb]? = wn.heap[gb]? := by
  obtain ⟨v', he, hr, hk, hs, hb⟩ := hc
  have h1 := h.size
  have h2 := hB.size
  refine ⟨v', he, ⟨hb, by omega, fun k hk1 hp => ?_, Kd.R_mono hr (fun k hk1 => ?_)⟩, hk gb (by omega) (fun h => h.1.2 rfl)⟩
  · rw [hk k (by omega) (fun h => h.1.1.elim hp (fun h => by omega)), hB.block k (by omega)]
    exact h.kept k hk1 hp
  · rcases hk1 with hk1 | hk1 | hk1
    · exact hk1.1
    · have := hv k hk1.symm
      exact ⟨.inr (by omega), by omega⟩
    · exact ⟨.inr (by omega), by omega⟩
theorem OutI.srcs {A : Option Addr} {c : Nat} {s : List Int} (h : OutI w0 w P gb v x wr) (hs : Kd.R (Kd.int .i64) 3 w w0.heap.size (fun k => ¬ P k) (.slice A s.length c) s) : (Kd.int .i64).C wr A s.length s :=
  (Kd.R_reads' (Kd.R_step hs (fun k hp hk => h.kept k hk hp))).2.2
theorem srcs_new {A : Option Addr} {c : Nat} {s : List Int} {ok : Nat → Prop} (h : Kd.R (Kd.int .i64) 3 wn wr.heap.size ok (.slice A s.length c) s) (h0 : w0.heap.size ≤ wr.heap.size) : Kd.R (Kd.int .i64) 3 wn w0.heap.size (fun k => ¬ PW P w gb wr k) (.slice A s.length c) s :=
  Kd.R_mono (Kd.R_lower (Kd.R_bound h) h0) (fun k hk h2 => by have := hk.2.1; have := h2.2; omega)
end
def meas (l : List S24) (st : ByteArray) (s : List Int) : Nat := ((rd_T24 l 0).f0.size - st.size) * (l.length + 1) + (l.length - s.length)
theorem meas_A {l : List S24} {st st' : ByteArray} {s : List Int} (h : st.size < (rd_T24 l 0).f0.size) (h' : st'.size = st.size + 1) : meas l st' [] < meas l st s := by
  unfold meas
  obtain ⟨d, hd⟩ : ∃ d, (rd_T24 l 0).f0.size - st.size = d + 1 := ⟨(rd_T24 l 0).f0.size - st.size - 1, by omega⟩
  rw [h', show (rd_T24 l 0).f0.size - (st.size + 1) = d by omega, hd, Nat.succ_mul, List.length_nil]
  generalize d * (l.length + 1) = q
  omega
theorem meas_B {l : List S24} {st : ByteArray} {s s' : List Int} (h : s.length < l.length) (h' : s'.length = s.length + 1) : meas l st s' < meas l st s := by
  unfold meas
  rw [h']
  generalize ((rd_T24 l 0).f0.size - st.size) * (l.length + 1) = q
  omega
def WalkC (l : List S24) (A0 : Option Addr) (c0 : Nat) (w0 : World) (m : Nat) : Prop := ∀ (st : ByteArray) (A1 : Option Addr) (c1 : Nat) (s : List Int) (vo : Value) (out : List S27) (w : World) (P : Nat → Prop), meas l st s < m → WalkOk l st s → (out ++ walkW l st s).length ≤ 1000000000000 → Below w0.heap.size w0 w → Kd.R (Kd.int .i64) 3 w w0.heap.size (fun k => ¬ P k) (.slice A1 s.length c1) s → Kd.R k27 27 w w0.heap.size P vo out →
  Calls Try.prog 29 #[.slice A0 l.length c0, .agg #[.string st, .slice A1 s.length c1], vo] w (WalkPost w0 w P (.slice A1 s.length c1) (out ++ walkW l st s))
end OwnSt
end Go.Proofs.Ytegjollhajgcdaa.P
namespace Go.Proofs.Ytegjollhajgcdaa.P
open Go.RowKit Go.Proofs.YtegjollhajgcdaaW.PrintWords Go.Proofs.YtegjollhajgcdaaW.PrintLast Go.Proofs.YtegjollhajgcdaaW.PrintMore
attribute [local go_sem] max2_int min2_int max_two min_two max_three min_three max_four min_four   -- for this text's walks alone
set_option linter.unusedVariables false
set_option linter.unusedSimpArgs false
open OwnSt
def cippuslaw07_walkt.T1 : Bool × List (List Nat × List Nat) := (true, [([], []), ([0], [0]), ([1], [1]), ([], []), ([3], [3]), ([4], [4]), ([5], [5]), ([6], [6]), ([2, 7], [2, 7])])
def cippuslaw07_walkt.B1 : List Nat := [0, 1, 3, 0, 8, 24, 56, 120, 255]
theorem cippuslaw07_walkt.tab1 : rtab .any (opsOf Try.f29 1) = cippuslaw07_walkt.T1 := by kernel_rfl
theorem cippuslaw07_walkt.bits1 : waitsOk cippuslaw07_walkt.T1.2 cippuslaw07_walkt.B1 = true := by kernel_rfl
def cippuslaw07_walkt.T16 : Bool × List (List Nat × List Nat) := (true, [([], []), ([0], [0]), ([1], [1]), ([2], [2]), ([2], [2]), ([3, 4, 2], [2, 3, 4]), ([5, 2], [2, 5]), ([6, 2], [2, 6]), ([2, 7], [2, 7]), ([8, 2], [8]), ([9], [9]), ([9], [9]), ([9], [9]), ([11, 12, 9], [9, 11, 12]), ([13, 9], [9, 13]), ([14, 9], [9, 14]), ([10, 15, 9, 9], [9, 10, 15]), ([9], [9]), ([9], [9]), ([17, 18, 9], [9, 17, 18]), ([19, 9], [9, 19]), ([20, 9], [9, 20]), ([16, 21, 9], [9, 16, 21]), ([9, 22], [9, 22])])
def cippuslaw07_walkt.B16 : List Nat := [0, 1, 3, 7, 7, 31, 63, 127, 255, 511, 1023, 1023, 1023, 7167, 15359, 31743, 65535, 1023, 1023, 394239, 918527, 1967103, 4194303, 8388607]
theorem cippuslaw07_walkt.tab16 : rtab .any (opsOf Try.f29 16) = cippuslaw07_walkt.T16 := by kernel_rfl
theorem cippuslaw07_walkt.bits16 : waitsOk cippuslaw07_walkt.T16.2 cippuslaw07_walkt.B16 = true := by kernel_rfl
def cippuslaw07_walkt.T17 : Bool × List (List Nat × List Nat) := (true, [([], []), ([], []), ([1], [1]), ([], []), ([3], [3]), ([4], [4]), ([], []), ([6], [6]), ([5, 7, 5], [5, 7]), ([2, 8], [2, 8]), ([], []), ([0, 9, 10, 8], [0, 9, 10]), ([11, 11, 0, 1, 2, 3, 4, 5, 6, 7, 8, 9, 10, 11], [10, 11])])
def cippuslaw07_walkt.B17 : List Nat := [0, 0, 2, 0, 8, 24, 0, 64, 248, 510, 0, 2047, 4095]
theorem cippuslaw07_walkt.tab17 : rtab .any (opsOf Try.f29 17) = cippuslaw07_walkt.T17 := by kernel_rfl
theorem cippuslaw07_walkt.bits17 : waitsOk cippuslaw07_walkt.T17.2 cippuslaw07_walkt.B17 = true := by kernel_rfl
theorem own_R {w : World} {base : Nat} {ok : Nat → Prop} {v : Value} {s : List Int} (h : Kd.R (Kd.int .i64) 3 w base ok v s) : Kd.R (Kd.int .i64) 3 w base (fun k => some k = v.ownBlock) v s := ⟨fun k hk => hk.symm, h.2⟩
theorem leaf_post {w0 w W w1 : World} {P : Nat → Prop} {vo v1 vs : Value} {out r : List S27} (hbel : Below w0.heap.size w0 w) (ho : Kd.R k27 27 w w0.heap.size P vo out) (hB : Below w.heap.size w W) (hr : Kd.R k27 27 w1 w0.heap.size (fun k => P k ∨ some k = vs.ownBlock ∨ w.heap.size ≤ k) v1 r) (hb : Below w0.heap.size w0 w1) (hg : W.grownBy w1 vo.ownBlock) : WalkPost w0 w P vs r (.returned v1) w1 := by
  have h1 := hB.size
  have h2 := hg.size
  refine ⟨v1, rfl, hr, fun k hk hp => ?_, by omega, hb⟩
  rw [hg.block k (by omega) (fun h => hp (ho.1 k h.symm)), hB.block k hk]
set_option maxHeartbeats 8000000 in
set_option maxRecDepth 100000 in
theorem walk_step (l0 : List S24) (A0 : Option Addr) (c0 : Nat) (w0 : World) (hr00 : Kd.C k24 w0 A0 l0.length l0) (hc0 : l0.length ≤ c0) (m : Nat) (IH0 : WalkC l0 A0 c0 w0 m) : WalkC l0 A0 c0 w0 (m + 1) := by
  intro a1_0 A1_1 c1_1 l1_1 vo a2 w P hm hok hbnd hbel hs ho
  obtain ⟨k, h⟩ := (walk_ev hok a2).rounds
  generalize a2 ++ walkW l0 a1_0 l1_1 = r at h hbnd ⊢
  have hu27 := Try.underlying27
  have IH := Aside0.mk IH0
  have HOK := Aside0.mk hok
  have HM := Aside0.mk hm
  have HLen := Aside0.mk hbnd
  have HBE := Aside0.mk hbel
  have HS := Aside0.mk hs
  have HOut := Aside0.mk ho
  have HR00 := Aside0.mk hr00
  have HR0 := Aside0.mk (Kd.C_below hr00 hbel)
  have HC0 := Aside0.mk hc0
  have HR1_1 := Aside0.mk (Kd.R_reads' hs).2.2
  have HC1_1 := Aside0.mk (Kd.R_reads' hs).2.1
  clear IH0 hok hm hbnd hbel hs ho hr00 hc0
  have HB := Aside0.mk (Below.refl w.heap.size w)
  have H : (if 0 < (l0.length : Int) then (if (a1_0.size : Int) < (((rd_T24 l0 0).f0).size : Int) then (cippuslaw07_walkt.l0 k l0 a2 65 a1_0 l1_1) else (if (l1_1.length : Int) = (l0.length : Int) then ((cippuslaw07_walkv.f a2 a1_0 l1_1).bind fun t361 => (some t361)) else (cippuslaw07_walkt.l1 k l0 a2 (l1_1.length : Int) (-1) a1_0 l1_1))) else (none)) = some r := h
  clear h
  by_cases c4 : 0 < (l0.length : Int)
  · rw [if_pos c4] at H
    have c4b0 : decide (0 < (l0.length : Int)) = true := decide_eq_true c4
    have c4b1 : decide (0 < l0.length) = true := decide_eq_true (by omega)
    clear c4
    by_cases c5 : (a1_0.size : Int) < (((rd_T24 l0 0).f0).size : Int)
    · rw [if_pos c5] at H
      have HC5 := Aside0.mk c5
      have c5b0 : decide ((a1_0.size : Int) < (((rd_T24 l0 0).f0).size : Int)) = true := decide_eq_true c5
      have c5b1 : decide (a1_0.size < ((rd_T24 l0 0).f0).size) = true := decide_eq_true (Int.ofNat_lt.mp c5)
      clear c5
      have H' := Aside0.mk H
      clear H
      go_enter Try.func29, Try.ntmps29
      try go_wp2_with (first | ((with_reducible refine gate_dst (N := 4) rfl ?_); refine box_event ?hg (N := 4) ?hd (cs := #[.string a1_0, .slice A1_1 l1_1.length c1_1]) (t := 27) ?hr ?_; (case hd => rfl); (case hg => rfl); (case hr => first | (go_simp; done) | (go_simp; rfl)); intro gb355 hg w6 hbox hb; have n0_ := Aside0.mk (below_step (by repeat (first | (with_reducible first | exact HB.out | apply below_alloc | apply pw_below_drewN | apply below_drew1) | exact HB.out)) hb); have n1_ := Aside0.mk (hbox); have n2_ := Aside0.mk ((by rw [hg]; exact (below_size (by repeat (first | (with_reducible first | exact HB.out | apply below_alloc | apply pw_below_drewN | apply below_drew1) | exact HB.out))) : w.heap.size ≤ gb355)); have n3_ := Aside0.mk ((by rw [hg]; exact (below_size (by repeat (first | (with_reducible first | exact HB.out | apply below_alloc | apply pw_below_drewN | apply below_drew1) | exact HB.out))) : w.heap.size ≤ gb355)); clear HB; have HB := n0_; have BK355 := n1_; have GW355 := n2_; have GE355 := n3_; clear n0_ n1_ n2_ n3_; clear hb hbox hg))
      have n0_ := Aside0.mk (blk_drew BK355.out)
      have n1_ := Aside0.mk (below_drew1 HB.out)
      clear BK355
      clear HB
      have BK355 := n0_
      have HB := n1_
      clear n0_ n1_
      have p356 : 0 ≤ (0 : Int) := (by omega)
      have q356 : 0 < (l0.length : Int) := of_decide_eq_true (by first | (with_reducible assumption) | assumption)
      obtain ⟨ad356, e356, hx356_0, hx356_1, hx356_2⟩ := at_T24 HR0.out 0 p356 q356
      have hw356_2 := hx356_2
      (try rw [show ((0 : Int)).toNat = 0 from rfl] at hw356_2)
      (try rw [show 0 * 3 = 0 from rfl] at hw356_2)
      (try rw [Addr.add_zero'] at hw356_2)
      have hw356_1 := hx356_1
      (try rw [show ((0 : Int)).toNat = 0 from rfl] at hw356_1)
      (try rw [show 0 * 3 = 0 from rfl] at hw356_1)
      (try rw [Addr.add_zero'] at hw356_1)
      have hw356_0 := hx356_0
      (try rw [show ((0 : Int)).toNat = 0 from rfl] at hw356_0)
      (try rw [show 0 * 3 = 0 from rfl] at hw356_0)
      (try rw [Addr.add_zero'] at hw356_0)
      cases e356
      have qi356 : (0 < l0.length) = True := eq_true (by omega)
      (try rw [show ((0 : Int)).toNat = 0 from rfl] at hx356_0)
      (try rw [show 0 * 3 = 0 from rfl] at hx356_0)
      (try rw [Addr.add_zero'] at hx356_0)
      (try rw [show ((0 : Int)).toNat = 0 from rfl] at hx356_1)
      (try rw [show 0 * 3 = 0 from rfl] at hx356_1)
      (try rw [Addr.add_zero'] at hx356_1)
      (try rw [show ((0 : Int)).toNat = 0 from rfl] at hx356_2)
      (try rw [show 0 * 3 = 0 from rfl] at hx356_2)
      (try rw [Addr.add_zero'] at hx356_2)
      try replace hx356_0 := (HB.out.cell (World.block_lt_of_cell? w _ hx356_0)).trans hx356_0
      try replace hx356_1 := (HB.out.cell (World.block_lt_of_cell? w _ hx356_1)).trans hx356_1
      try replace hx356_2 := (HB.out.cell (World.block_lt_of_cell? w _ hx356_2)).trans hx356_2
      replace p356 := eq_true p356
      replace q356 := eq_true q356
      refine start_ (n := 9) (S := fun w' => w'.cell? ⟨gb355, 0, none⟩ = some (.string a1_0) ∧ w'.cell? ⟨gb355, 1, none⟩ = some (.slice A1_1 l1_1.length c1_1) ∧ w'.cell? ad356 = some (.string ((rd_T24 l0 0).f0)) ∧ w'.cell? ⟨ad356.block, ad356.off + 1, none⟩ = some (.int .i64 ((rd_T24 l0 0).f1)) ∧ w'.cell? ⟨ad356.block, ad356.off + 2, none⟩ = some (.bool ((rd_T24 l0 0).f2))) (ds := []) #[false, false, false, false, false, false, false, false, false] (by kernel_rfl) rfl rfl ⟨(blk_cell BK355.out 0).trans rfl, (blk_cell BK355.out 1).trans rfl, ((HB.out.cell (World.block_lt_of_cell? w _ hw356_0)).trans hw356_0), ((HB.out.cell (World.block_lt_of_cell? w _ hw356_1)).trans hw356_1), ((HB.out.cell (World.block_lt_of_cell? w _ hw356_2)).trans hw356_2)⟩ (fun hHeld => ?_); refine with_tabW cippuslaw07_walkt.tab1 cippuslaw07_walkt.bits1 (fun HT_ HW_ => ?_)
      generalize w6.drew = w7 at BK355 HB hx356_0 hx356_1 hx356_2 hHeld ⊢
      refine pure_ (i := 0) (N := some 11) (v := ?_) (a' := ?_) #[true, false, false, false, false, false, false, false, false] rfl rfl (any_of HT_.out (by kernel_rfl)) (fun _ _ _ h => h) (Or.inl ⟨by rfl, ?_⟩) ?_ ?_
      rotate_left
      · intro w'
        go_simp
        with_reducible rfl
      rotate_left
      · simp only [Act.put, List.setIfInBounds_toArray, List.set_cons_zero, List.set_cons_succ, i64_w, i32_w]
        rfl
      refine pure_ (i := 3) (N := some 14) (v := ?_) (a' := ?_) #[true, false, false, true, false, false, false, false, false] rfl rfl (any_of HT_.out (by kernel_rfl)) (fun _ _ _ h => h) (Or.inl ⟨by rfl, ?_⟩) ?_ ?_
      rotate_left
      · intro w'
        go_simp
        with_reducible rfl
      rotate_left
      · simp only [Act.put, List.setIfInBounds_toArray, List.set_cons_zero, List.set_cons_succ, i64_w, i32_w]
        rfl
      refine pure_ (i := 4) (N := some 15) (v := ?_) (a' := ?_) #[true, false, false, true, true, false, false, false, false] rfl rfl (any_of HT_.out (by kernel_rfl)) (fun _ _ _ h => h) (Or.inl ⟨by rfl, ?_⟩) ?_ ?_
      rotate_left
      · intro w'
        go_simp
        with_reducible rfl
      rotate_left
      · simp only [Act.put, List.setIfInBounds_toArray, List.set_cons_zero, List.set_cons_succ, i64_w, i32_w]
        rfl
      refine pure_ (i := 5) (N := some 16) (v := ?_) (a' := ?_) #[true, false, false, true, true, true, false, false, false] rfl rfl (any_of HT_.out (by kernel_rfl)) (fun _ _ _ h => h) (Or.inl ⟨by rfl, ?_⟩) ?_ ?_
      rotate_left
      · intro w'
        go_simp
        with_reducible rfl
      rotate_left
      · simp only [Act.put, List.setIfInBounds_toArray, List.set_cons_zero, List.set_cons_succ, i64_w, i32_w]
        rfl
      refine take_ (i := 1) (N := some 12) (v := ?_) (a' := ?_) #[true, true, false, true, true, true, false, false, false] rfl rfl (take_ofW HT_.out HW_.out (by kernel_rfl)) (fun _ _ _ h => h) (Or.inl ⟨by rfl, ?_⟩) hHeld ?_ ?_
      rotate_left
      · rintro w' ⟨s0, s1, s2, s3, s4⟩
        go_simp
        with_reducible rfl
      rotate_left
      · simp only [Act.put, List.setIfInBounds_toArray, List.set_cons_zero, List.set_cons_succ, i64_w, i32_w]
        rfl
      refine pure_ (i := 2) (N := some 13) (v := ?_) (a' := ?_) #[true, true, true, true, true, true, false, false, false] rfl rfl (any_of HT_.out (by kernel_rfl)) (fun _ _ _ h => h) (Or.inl ⟨by rfl, ?_⟩) ?_ ?_
      rotate_left
      · intro w'
        go_simp
        with_reducible rfl
      rotate_left
      · simp only [Act.put, List.setIfInBounds_toArray, List.set_cons_zero, List.set_cons_succ, i64_w, i32_w]
        rfl
      refine take_ (i := 6) (N := some 17) (v := ?_) (a' := ?_) #[true, true, true, true, true, true, true, false, false] rfl rfl (take_ofW HT_.out HW_.out (by kernel_rfl)) (fun _ _ _ h => h) (Or.inl ⟨by rfl, ?_⟩) hHeld ?_ ?_
      rotate_left
      · rintro w' ⟨s0, s1, s2, s3, s4⟩
        go_simp
        with_reducible rfl
      rotate_left
      · simp only [Act.put, List.setIfInBounds_toArray, List.set_cons_zero, List.set_cons_succ, i64_w, i32_w]
        rfl
      refine pure_ (i := 7) (N := some 18) (v := ?_) (a' := ?_) #[true, true, true, true, true, true, true, true, false] rfl rfl (any_of HT_.out (by kernel_rfl)) (fun _ _ _ h => h) (Or.inl ⟨by rfl, ?_⟩) ?_ ?_
      rotate_left
      · intro w'
        go_simp
        with_reducible rfl
      rotate_left
      · simp only [Act.put, List.setIfInBounds_toArray, List.set_cons_zero, List.set_cons_succ, i64_w, i32_w]
        rfl
      refine pure_ (i := 8) (N := some 19) (v := ?_) (a' := ?_) #[true, true, true, true, true, true, true, true, true] rfl rfl (any_of HT_.out (by kernel_rfl)) (fun _ _ _ h => h) (Or.inl ⟨by rfl, ?_⟩) ?_ ?_
      rotate_left
      · intro w'
        go_simp
        with_reducible rfl
      rotate_left
      · simp only [Act.put, List.setIfInBounds_toArray, List.set_cons_zero, List.set_cons_succ, i64_w, i32_w]
        rfl
      refine done_ (done_of HT_.out (by kernel_rfl)) ?_
      try go_wp2
      go_loopg [2, 7] k (fun kq v2 v7 w' => ∃ (v2_ : Value) (x2_1 : List (S27)) (x7_1 : Int), v2_ = v2 ∧ v7 = .int .u8 x7_1 ∧ Aside0 (cippuslaw07_walkt.l0 kq l0 x2_1 x7_1 a1_0 l1_1 = some r) ∧ Aside0 (kq ≤ k) ∧ Aside0 (w'.heap[gb355]? = some (.cells #[.string a1_0, (.slice A1_1 l1_1.length c1_1)] 27 (0, 0))) ∧ Aside0 (OutI w0 w P gb355 v2_ x2_1 w'))
      case atStart => exact ⟨vo, (a2), (65), (by first | rfl | (simp; done) | (simp [*]; done)), (by first | rfl | (simp; done) | (simp [*]; done)), H', ⟨Nat.le_refl _⟩, ⟨by (with_reducible repeat (first | refine blk_drewN ?_ _ | refine blk_drew ?_ | refine blk_alloc ?_ _)); exact BK355.out⟩, ⟨OutI.start HBE.out HOut.out GE355.out (by repeat (first | (with_reducible first | exact HB.out | apply below_alloc | apply pw_below_drewN | apply below_drew1) | exact HB.out))⟩⟩
      case round =>
        clear H'
        try clear c1
        try clear p2
        try clear p3
        try clear q3
        try clear hx3
        try clear qi3
        try clear c4
        try clear c4b0
        try clear c4b1
        try clear c5
        try clear c5b0
        try clear c5b1
        try clear hx356_0
        try clear hx356_1
        try clear hx356_2
        try clear p356
        try clear q356
        obtain ⟨v2_, x2_1, x7_1, rfl, rfl, HA, HK1, BK355, HI⟩ := hrel
        have BKr := BK355
        have GEw := GE355
        clear HR0 HR1_1
        have HR0 := Aside0.mk (Kd.C_below HR00.out HI.out.below)
        have HR1_1 := Aside0.mk (OutI.srcs HI.out HS.out)
        have HB := Aside0.mk (Below.refl wr.heap.size wr)
        cases gk with
        | zero => exact absurd HA.out (by simp [cippuslaw07_walkt.l0])
        | succ k1 =>
          have H := HA.out
          clear HA
          simp only [cippuslaw07_walkt.l0] at H
          by_cases c8 : x7_1 ≤ 68
          · rw [if_pos c8] at H
            have c8b0 : decide (x7_1 ≤ 68) = true := decide_eq_true c8
            clear c8
            obtain ⟨y357, hy357⟩ : ∃ y_ : List Int, y_ = (([x7_1] : List Int)) := ⟨_, rfl⟩
            replace H : (if a1_0.size + (strOfNums y357).size ≤ 9223372036854775807 then ((cippuslaw07_walku.f l0 (a1_0 ++ (strOfNums y357)) ([] : List Int) x2_1).bind fun t360 => (cippuslaw07_walkt.l0 k1 l0 t360 ((x7_1 + 1) % 256) a1_0 l1_1)) else (none)) = some r := by first | (rw [hy357]; with_reducible exact H) | (have H2_ := (Option.bind_some _ _).symm.trans H; rw [hy357]; with_reducible exact H2_) | (have H2_ := (Option.bind_some _ _).symm.trans H; with_reducible exact H2_) | with_reducible exact H | (rw [hy357]; exact H) | exact H
            have Ny357 := Aside0.mk hy357
            clear hy357
            by_cases c9 : a1_0.size + (strOfNums y357).size ≤ 9223372036854775807
            · rw [if_pos c9] at H
              have c9b0 := eq_true c9
              have c9b1 : decide (a1_0.size + (strOfNums y357).size ≤ 9223372036854775807) = true := decide_eq_true c9
              try have c9b2 : (9223372036854775807 < a1_0.size + (strOfNums y357).size) = False := eq_false (Nat.not_lt.2 c9)
              replace H := Option.bind_eq_some_iff.mp H
              obtain ⟨t360, A100, H⟩ := H
              replace H : (cippuslaw07_walkt.l0 k1 l0 t360 ((x7_1 + 1) % 256) a1_0 l1_1) = some r := H
              have A10 := Aside0.mk A100
              clear A100
              have H' := Aside0.mk H
              clear H
              have hcz11_0 : wr.cell? ⟨gb355, 0, none⟩ = some (.string a1_0) := (blk_cell BK355.out 0).trans rfl
              have hcz11_1 : wr.cell? ⟨gb355, 1, none⟩ = some (.slice A1_1 l1_1.length c1_1) := (blk_cell BK355.out 1).trans rfl
              have hfz11_0 := blk_frozen BK355.out 0
              have hfz11_1 := blk_frozen BK355.out 1
              go_wp2_with (first | ((with_reducible refine gate_dst (N := 28) rfl ?_); refine Kd.R_lit (Kd.int .u8) _ 5 ?hg (N := 28) ?hd (xs := ([x7_1] : List Int)) (inner := [.int .u8 x7_1]) (ok := fun _ => True) (okp := fun _ => True) ?hr ?hp (fun _ hk => hk) trivial (Below.refl _ _) (Nat.le_refl _) (by simp) ?_; (case hd => rfl); (case hg => rfl); (case hr => first | (go_simp; done) | (go_simp; rfl)); (case hp => exact (Reps.one (show Kd.M (Kd.int .u8) _ _ _ x7_1 [.int .u8 x7_1] from rfl) (Reps.none _ _))); intro v358 w12 ho13 hb hg_ hnew_; clear hg_ hnew_; (first | rw [← Ny357.out] at ho13 | (simp only [Int.reduceToNat] at ho13; rw [← Ny357.out] at ho13)); have n0_ := Aside0.mk (Kd.R_lower ho13 (below_size (by repeat (first | (with_reducible first | exact HB.out | apply below_alloc | apply pw_below_drewN | apply below_drew1 | refine below_set ?_ GE355.out) | exact HB.out)))); have n1_ := Aside0.mk (blk_below (g := gb355) (o := .cells #[.string a1_0, .slice A1_1 l1_1.length c1_1] 27 (0, 0)) (by (with_reducible repeat (first | refine blk_drewN ?_ _ | refine blk_drew ?_ | refine blk_alloc ?_ _)); exact BK355.out) hb); have n2_ := Aside0.mk (below_step (by repeat (first | (with_reducible first | exact HB.out | apply below_alloc | apply pw_below_drewN | apply below_drew1 | refine below_set ?_ GE355.out) | exact HB.out)) hb); clear BK355; clear HB; have HO359 := n0_; have BK355 := n1_; have HB := n2_; clear n0_ n1_ n2_; clear hb ho13; have hcv14 := own_string (P := Try.prog) Try.underlying61 Try.underlying5 Try.underlying9 (Kd.own_of_R HO359.out)) | ((with_reducible refine gate_callee (f := 29) rfl ?_); refine goesL_ (some 33) rfl rfl Try.func29 (by kernel_rfl) rfl #[.slice (some ad356) l0.length c0, .agg #[.string (a1_0 ++ (strOfNums y357)), .slice none 0 0], v2_] rfl (by (try simp only [List.map_toArray, List.map_cons, List.map_nil]); first | done | rfl | (simp only [List.length_drop, List.length_take]; rfl)) ?_; (refine (IH.out (a1_0 ++ (strOfNums y357)) none 0 ([] : List Int) v2_ x2_1 _ (PW P w gb355 wr) ?i1 ?i2 ?i3 ?i4 ?i5 ?i6).mono ?_); (case i1 => exact Nat.lt_of_lt_of_le (meas_A (s := l1_1) (by have := HC5.out; omega) (by rw [Ny357.out, ByteArray.size_append, strOfNums_size]; rfl)) (Nat.le_of_lt_succ HM.out)); (case i2 => exact ⟨HOK.out.vl, by (rw [Ny357.out, ByteArray.size_append, strOfNums_size]; have := HC5.out; simp only [List.length_singleton]; omega), fun _ => rfl, Nat.zero_le _⟩); (case i3 => exact (by rw [Option.some.inj A10.out]; exact Nat.le_trans ((walkt_len r k1).1 _ _ _ _ _ H'.out) HLen.out)); (case i4 => exact below_step HI.out.below (by repeat (first | (with_reducible first | exact HB.out | apply below_alloc | apply pw_below_drewN | apply below_drew1) | exact HB.out))); (case i5 => exact Kd.R_nil _ _ _ _ _); (case i6 => exact OutI.rowAt HI.out (by repeat (first | (with_reducible first | exact HB.out | apply below_alloc | apply pw_below_drewN | apply below_drew1) | exact HB.out))); intro e w15 hp_; rw [show x2_1 ++ OwnSt.walkW l0 (a1_0 ++ (strOfNums y357)) [] = t360 from Option.some.inj A10.out] at hp_; obtain ⟨vn_, rfl, hIn_, hg_⟩ := OutI.go HI.out GEw.out (blk_lt BKr.out) (by repeat (first | (with_reducible first | exact HB.out | apply below_alloc | apply pw_below_drewN | apply below_drew1) | exact HB.out)) (fun k_ h_ => by simp [Value.ownBlock] at h_) hp_; refine ⟨_, rfl, ?_⟩; have n0_ := Aside0.mk hIn_; have n1_ := Aside0.mk (hg_.trans (by (with_reducible repeat (first | refine blk_drewN ?_ _ | refine blk_drew ?_ | refine blk_alloc ?_ _)); exact BK355.out)); clear HI BK355 HB hIn_ hg_ HO359; have HI := n0_; have BK355 := n1_; have HB := Aside0.mk (Below.refl w15.heap.size w15); clear n0_ n1_))
              go_roundg k1
              case measure => have := HK1.out; omega
              case rel => exact ⟨vn_, (t360), ((x7_1 + 1) % 256), (by first | rfl | (simp; done) | (simp [*]; done)), (by first | rfl | (simp; done) | (simp [*]; done)), H', ⟨by have := HK1.out; omega⟩, ⟨by (with_reducible repeat (first | refine blk_drewN ?_ _ | refine blk_drew ?_ | refine blk_alloc ?_ _)); exact BK355.out⟩, ⟨OutI.on HI.out (by repeat (first | (with_reducible first | exact HB.out | apply below_alloc | apply pw_below_drewN | apply below_drew1) | exact HB.out))⟩⟩
            · rw [if_neg c9] at H
              exact absurd H (by simp)
          · rw [if_neg c8] at H
            have c8b0 : decide (x7_1 ≤ 68) = false := decide_eq_false c8
            clear c8
            obtain rfl := Option.some.inj H
            go_wp2
            go_ret
            exact OutI.done HI.out (by repeat (first | (with_reducible first | exact HB.out | apply below_alloc | apply pw_below_drewN | apply below_drew1) | exact HB.out)) _
    · rw [if_neg c5] at H
      have HC5 := Aside0.mk c5
      have c5b0 : decide ((a1_0.size : Int) < (((rd_T24 l0 0).f0).size : Int)) = false := decide_eq_false c5
      have c5b1 : decide (a1_0.size < ((rd_T24 l0 0).f0).size) = false := decide_eq_false (fun h => c5 (Int.ofNat_lt.mpr h))
      clear c5
      by_cases c16 : (l1_1.length : Int) = (l0.length : Int)
      · rw [if_pos c16] at H
        have c16b0 : ((l1_1.length : Int) == (l0.length : Int)) = true := beq_iff_eq.mpr c16
        have c16b1 : ((l1_1.length : Int) != (l0.length : Int)) = false := bne_eq_false_iff_eq.mpr c16
        have c16b2 : (l1_1.length == l0.length) = true := by first | simpa using c16 | (simp at c16 ⊢; omega)
        clear c16
        replace H := Option.bind_eq_some_iff.mp H
        obtain ⟨t361, A170, H⟩ := H
        replace H : (some t361) = some r := H
        have A17 := Aside0.mk A170
        clear A170
        obtain rfl := Option.some.inj H
        go_enter Try.func29, Try.ntmps29
        try go_wp2_with (first | ((with_reducible refine gate_dst (N := 4) rfl ?_); refine box_event ?hg (N := 4) ?hd (cs := #[.string a1_0, .slice A1_1 l1_1.length c1_1]) (t := 27) ?hr ?_; (case hd => rfl); (case hg => rfl); (case hr => first | (go_simp; done) | (go_simp; rfl)); intro gb355 hg w18 hbox hb; have n0_ := Aside0.mk (below_step (by repeat (first | (with_reducible first | exact HB.out | apply below_alloc | apply pw_below_drewN | apply below_drew1) | exact HB.out)) hb); have n1_ := Aside0.mk (hbox); have n2_ := Aside0.mk ((by rw [hg]; exact (below_size (by repeat (first | (with_reducible first | exact HB.out | apply below_alloc | apply pw_below_drewN | apply below_drew1) | exact HB.out))) : w.heap.size ≤ gb355)); have n3_ := Aside0.mk ((by rw [hg]; exact (below_size (by repeat (first | (with_reducible first | exact HB.out | apply below_alloc | apply pw_below_drewN | apply below_drew1) | exact HB.out))) : w.heap.size ≤ gb355)); clear HB; have HB := n0_; have BK355 := n1_; have GW355 := n2_; have GE355 := n3_; clear n0_ n1_ n2_ n3_; clear hb hbox hg))
        have n0_ := Aside0.mk (blk_drew BK355.out)
        have n1_ := Aside0.mk (below_drew1 HB.out)
        clear BK355
        clear HB
        have BK355 := n0_
        have HB := n1_
        clear n0_ n1_
        have p356 : 0 ≤ (0 : Int) := (by omega)
        have q356 : 0 < (l0.length : Int) := of_decide_eq_true (by first | (with_reducible assumption) | assumption)
        obtain ⟨ad356, e356, hx356_0, hx356_1, hx356_2⟩ := at_T24 HR0.out 0 p356 q356
        have hw356_2 := hx356_2
        (try rw [show ((0 : Int)).toNat = 0 from rfl] at hw356_2)
        (try rw [show 0 * 3 = 0 from rfl] at hw356_2)
        (try rw [Addr.add_zero'] at hw356_2)
        have hw356_1 := hx356_1
        (try rw [show ((0 : Int)).toNat = 0 from rfl] at hw356_1)
        (try rw [show 0 * 3 = 0 from rfl] at hw356_1)
        (try rw [Addr.add_zero'] at hw356_1)
        have hw356_0 := hx356_0
        (try rw [show ((0 : Int)).toNat = 0 from rfl] at hw356_0)
        (try rw [show 0 * 3 = 0 from rfl] at hw356_0)
        (try rw [Addr.add_zero'] at hw356_0)
        cases e356
        have qi356 : (0 < l0.length) = True := eq_true (by omega)
        (try rw [show ((0 : Int)).toNat = 0 from rfl] at hx356_0)
        (try rw [show 0 * 3 = 0 from rfl] at hx356_0)
        (try rw [Addr.add_zero'] at hx356_0)
        (try rw [show ((0 : Int)).toNat = 0 from rfl] at hx356_1)
        (try rw [show 0 * 3 = 0 from rfl] at hx356_1)
        (try rw [Addr.add_zero'] at hx356_1)
        (try rw [show ((0 : Int)).toNat = 0 from rfl] at hx356_2)
        (try rw [show 0 * 3 = 0 from rfl] at hx356_2)
        (try rw [Addr.add_zero'] at hx356_2)
        try replace hx356_0 := (HB.out.cell (World.block_lt_of_cell? w _ hx356_0)).trans hx356_0
        try replace hx356_1 := (HB.out.cell (World.block_lt_of_cell? w _ hx356_1)).trans hx356_1
        try replace hx356_2 := (HB.out.cell (World.block_lt_of_cell? w _ hx356_2)).trans hx356_2
        replace p356 := eq_true p356
        replace q356 := eq_true q356
        refine start_ (n := 9) (S := fun w' => w'.cell? ⟨gb355, 0, none⟩ = some (.string a1_0) ∧ w'.cell? ⟨gb355, 1, none⟩ = some (.slice A1_1 l1_1.length c1_1) ∧ w'.cell? ad356 = some (.string ((rd_T24 l0 0).f0)) ∧ w'.cell? ⟨ad356.block, ad356.off + 1, none⟩ = some (.int .i64 ((rd_T24 l0 0).f1)) ∧ w'.cell? ⟨ad356.block, ad356.off + 2, none⟩ = some (.bool ((rd_T24 l0 0).f2))) (ds := []) #[false, false, false, false, false, false, false, false, false] (by kernel_rfl) rfl rfl ⟨(blk_cell BK355.out 0).trans rfl, (blk_cell BK355.out 1).trans rfl, ((HB.out.cell (World.block_lt_of_cell? w _ hw356_0)).trans hw356_0), ((HB.out.cell (World.block_lt_of_cell? w _ hw356_1)).trans hw356_1), ((HB.out.cell (World.block_lt_of_cell? w _ hw356_2)).trans hw356_2)⟩ (fun hHeld => ?_); refine with_tabW cippuslaw07_walkt.tab1 cippuslaw07_walkt.bits1 (fun HT_ HW_ => ?_)
        generalize w18.drew = w19 at BK355 HB hx356_0 hx356_1 hx356_2 hHeld ⊢
        refine pure_ (i := 0) (N := some 11) (v := ?_) (a' := ?_) #[true, false, false, false, false, false, false, false, false] rfl rfl (any_of HT_.out (by kernel_rfl)) (fun _ _ _ h => h) (Or.inl ⟨by rfl, ?_⟩) ?_ ?_
        rotate_left
        · intro w'
          go_simp
          with_reducible rfl
        rotate_left
        · simp only [Act.put, List.setIfInBounds_toArray, List.set_cons_zero, List.set_cons_succ, i64_w, i32_w]
          rfl
        refine pure_ (i := 3) (N := some 14) (v := ?_) (a' := ?_) #[true, false, false, true, false, false, false, false, false] rfl rfl (any_of HT_.out (by kernel_rfl)) (fun _ _ _ h => h) (Or.inl ⟨by rfl, ?_⟩) ?_ ?_
        rotate_left
        · intro w'
          go_simp
          with_reducible rfl
        rotate_left
        · simp only [Act.put, List.setIfInBounds_toArray, List.set_cons_zero, List.set_cons_succ, i64_w, i32_w]
          rfl
        refine pure_ (i := 4) (N := some 15) (v := ?_) (a' := ?_) #[true, false, false, true, true, false, false, false, false] rfl rfl (any_of HT_.out (by kernel_rfl)) (fun _ _ _ h => h) (Or.inl ⟨by rfl, ?_⟩) ?_ ?_
        rotate_left
        · intro w'
          go_simp
          with_reducible rfl
        rotate_left
        · simp only [Act.put, List.setIfInBounds_toArray, List.set_cons_zero, List.set_cons_succ, i64_w, i32_w]
          rfl
        refine pure_ (i := 5) (N := some 16) (v := ?_) (a' := ?_) #[true, false, false, true, true, true, false, false, false] rfl rfl (any_of HT_.out (by kernel_rfl)) (fun _ _ _ h => h) (Or.inl ⟨by rfl, ?_⟩) ?_ ?_
        rotate_left
        · intro w'
          go_simp
          with_reducible rfl
        rotate_left
        · simp only [Act.put, List.setIfInBounds_toArray, List.set_cons_zero, List.set_cons_succ, i64_w, i32_w]
          rfl
        refine take_ (i := 1) (N := some 12) (v := ?_) (a' := ?_) #[true, true, false, true, true, true, false, false, false] rfl rfl (take_ofW HT_.out HW_.out (by kernel_rfl)) (fun _ _ _ h => h) (Or.inl ⟨by rfl, ?_⟩) hHeld ?_ ?_
        rotate_left
        · rintro w' ⟨s0, s1, s2, s3, s4⟩
          go_simp
          with_reducible rfl
        rotate_left
        · simp only [Act.put, List.setIfInBounds_toArray, List.set_cons_zero, List.set_cons_succ, i64_w, i32_w]
          rfl
        refine pure_ (i := 2) (N := some 13) (v := ?_) (a' := ?_) #[true, true, true, true, true, true, false, false, false] rfl rfl (any_of HT_.out (by kernel_rfl)) (fun _ _ _ h => h) (Or.inl ⟨by rfl, ?_⟩) ?_ ?_
        rotate_left
        · intro w'
          go_simp
          with_reducible rfl
        rotate_left
        · simp only [Act.put, List.setIfInBounds_toArray, List.set_cons_zero, List.set_cons_succ, i64_w, i32_w]
          rfl
        refine take_ (i := 6) (N := some 17) (v := ?_) (a' := ?_) #[true, true, true, true, true, true, true, false, false] rfl rfl (take_ofW HT_.out HW_.out (by kernel_rfl)) (fun _ _ _ h => h) (Or.inl ⟨by rfl, ?_⟩) hHeld ?_ ?_
        rotate_left
        · rintro w' ⟨s0, s1, s2, s3, s4⟩
          go_simp
          with_reducible rfl
        rotate_left
        · simp only [Act.put, List.setIfInBounds_toArray, List.set_cons_zero, List.set_cons_succ, i64_w, i32_w]
          rfl
        refine pure_ (i := 7) (N := some 18) (v := ?_) (a' := ?_) #[true, true, true, true, true, true, true, true, false] rfl rfl (any_of HT_.out (by kernel_rfl)) (fun _ _ _ h => h) (Or.inl ⟨by rfl, ?_⟩) ?_ ?_
        rotate_left
        · intro w'
          go_simp
          with_reducible rfl
        rotate_left
        · simp only [Act.put, List.setIfInBounds_toArray, List.set_cons_zero, List.set_cons_succ, i64_w, i32_w]
          rfl
        refine pure_ (i := 8) (N := some 19) (v := ?_) (a' := ?_) #[true, true, true, true, true, true, true, true, true] rfl rfl (any_of HT_.out (by kernel_rfl)) (fun _ _ _ h => h) (Or.inl ⟨by rfl, ?_⟩) ?_ ?_
        rotate_left
        · intro w'
          go_simp
          with_reducible rfl
        rotate_left
        · simp only [Act.put, List.setIfInBounds_toArray, List.set_cons_zero, List.set_cons_succ, i64_w, i32_w]
          rfl
        refine done_ (done_of HT_.out (by kernel_rfl)) ?_
        have hcz20_0 : w19.cell? ⟨gb355, 0, none⟩ = some (.string a1_0) := (blk_cell BK355.out 0).trans rfl
        have hcz20_1 : w19.cell? ⟨gb355, 1, none⟩ = some (.slice A1_1 l1_1.length c1_1) := (blk_cell BK355.out 1).trans rfl
        have hfz20_0 := blk_frozen BK355.out 0
        have hfz20_1 := blk_frozen BK355.out 1
        try go_wp2_with (first | ((with_reducible refine gate_builtin (b := .append) (xs := #[.tmp 42, .tmp 44]) rfl ?_); at_builtin; refine Kd.R_append k27 (w0 := w0) w0.heap.size rfl (.tmp 42) (.tmp 44) 51 27 (.agg #[(.string ⟨#[]⟩), (.slice none 0 0)]) 40 rfl Try.underlying51 info27 rfl (by decide) (by omega) vo a2 (⟨a1_0, l1_1⟩ : S27) [.string a1_0, .slice A1_1 l1_1.length c1_1] (fun k_ => P k_ ∨ some k_ = (.slice A1_1 l1_1.length c1_1 : Value).ownBlock ∨ w.heap.size ≤ k_) (fun k_ => some k_ = (.slice A1_1 l1_1.length c1_1 : Value).ownBlock) rfl rfl ?aP ?aK ?aF ?aO ?aB ?aS ?aL ?_; (case aP => exact k27_mkM _ _ _ _ (own_R (Kd.R_below HS.out (by repeat (first | (with_reducible first | exact HB.out | apply below_alloc | apply pw_below_drewN | apply below_drew1) | exact HB.out))))); (case aK => exact (fun k_ hk_ => ⟨.inr (.inl hk_), fun h_ => HS.out.1 k_ hk_.symm (HOut.out.1 k_ h_.symm)⟩)); (case aF => exact (fun k_ hk_ => .inr (.inr (Nat.le_trans (below_size (by repeat (first | (with_reducible first | exact HB.out | apply below_alloc | apply pw_below_drewN | apply below_drew1) | exact HB.out))) hk_)))); (case aO => exact Kd.R_mono (Kd.R_below HOut.out (by repeat (first | (with_reducible first | exact HB.out | apply below_alloc | apply pw_below_drewN | apply below_drew1) | exact HB.out))) (fun _ h_ => .inl h_)); (case aB => exact below_step HBE.out (by repeat (first | (with_reducible first | exact HB.out | apply below_alloc | apply pw_below_drewN | apply below_drew1) | exact HB.out))); (case aS => exact (Nat.le_trans HBE.out.size (below_size (by repeat (first | (with_reducible first | exact HB.out | apply below_alloc | apply pw_below_drewN | apply below_drew1) | exact HB.out))))); (case aL => have h_ := HLen.out; rw [← Option.some.inj A17.out, List.length_append, List.length_singleton] at h_; omega); intro v381 w24 ho_ hb_ hg_ hat_; have HP := Aside0.mk (leaf_post HBE.out HOut.out (by repeat (first | (with_reducible first | exact HB.out | apply below_alloc | apply pw_below_drewN | apply below_drew1) | exact HB.out)) ho_ hb_ hg_)))
        go_ret
        rw [← Option.some.inj A17.out]
        exact HP.out
      · rw [if_neg c16] at H
        have HC16 := Aside0.mk c16
        have c16b0 : ((l1_1.length : Int) == (l0.length : Int)) = false := beq_eq_false_iff_ne.mpr c16
        have c16b1 : ((l1_1.length : Int) != (l0.length : Int)) = true := bne_iff_ne.mpr c16
        have c16b2 : (l1_1.length == l0.length) = false := by first | simpa using c16 | (simp at c16 ⊢; omega)
        have H' := Aside0.mk H
        clear H
        go_enter Try.func29, Try.ntmps29
        try go_wp2_with (first | ((with_reducible refine gate_dst (N := 4) rfl ?_); refine box_event ?hg (N := 4) ?hd (cs := #[.string a1_0, .slice A1_1 l1_1.length c1_1]) (t := 27) ?hr ?_; (case hd => rfl); (case hg => rfl); (case hr => first | (go_simp; done) | (go_simp; rfl)); intro gb355 hg w22 hbox hb; have n0_ := Aside0.mk (below_step (by repeat (first | (with_reducible first | exact HB.out | apply below_alloc | apply pw_below_drewN | apply below_drew1) | exact HB.out)) hb); have n1_ := Aside0.mk (hbox); have n2_ := Aside0.mk ((by rw [hg]; exact (below_size (by repeat (first | (with_reducible first | exact HB.out | apply below_alloc | apply pw_below_drewN | apply below_drew1) | exact HB.out))) : w.heap.size ≤ gb355)); have n3_ := Aside0.mk ((by rw [hg]; exact (below_size (by repeat (first | (with_reducible first | exact HB.out | apply below_alloc | apply pw_below_drewN | apply below_drew1) | exact HB.out))) : w.heap.size ≤ gb355)); clear HB; have HB := n0_; have BK355 := n1_; have GW355 := n2_; have GE355 := n3_; clear n0_ n1_ n2_ n3_; clear hb hbox hg))
        have n0_ := Aside0.mk (blk_drew BK355.out)
        have n1_ := Aside0.mk (below_drew1 HB.out)
        clear BK355
        clear HB
        have BK355 := n0_
        have HB := n1_
        clear n0_ n1_
        have p356 : 0 ≤ (0 : Int) := (by omega)
        have q356 : 0 < (l0.length : Int) := of_decide_eq_true (by first | (with_reducible assumption) | assumption)
        obtain ⟨ad356, e356, hx356_0, hx356_1, hx356_2⟩ := at_T24 HR0.out 0 p356 q356
        have hw356_2 := hx356_2
        (try rw [show ((0 : Int)).toNat = 0 from rfl] at hw356_2)
        (try rw [show 0 * 3 = 0 from rfl] at hw356_2)
        (try rw [Addr.add_zero'] at hw356_2)
        have hw356_1 := hx356_1
        (try rw [show ((0 : Int)).toNat = 0 from rfl] at hw356_1)
        (try rw [show 0 * 3 = 0 from rfl] at hw356_1)
        (try rw [Addr.add_zero'] at hw356_1)
        have hw356_0 := hx356_0
        (try rw [show ((0 : Int)).toNat = 0 from rfl] at hw356_0)
        (try rw [show 0 * 3 = 0 from rfl] at hw356_0)
        (try rw [Addr.add_zero'] at hw356_0)
        cases e356
        have qi356 : (0 < l0.length) = True := eq_true (by omega)
        (try rw [show ((0 : Int)).toNat = 0 from rfl] at hx356_0)
        (try rw [show 0 * 3 = 0 from rfl] at hx356_0)
        (try rw [Addr.add_zero'] at hx356_0)
        (try rw [show ((0 : Int)).toNat = 0 from rfl] at hx356_1)
        (try rw [show 0 * 3 = 0 from rfl] at hx356_1)
        (try rw [Addr.add_zero'] at hx356_1)
        (try rw [show ((0 : Int)).toNat = 0 from rfl] at hx356_2)
        (try rw [show 0 * 3 = 0 from rfl] at hx356_2)
        (try rw [Addr.add_zero'] at hx356_2)
        try replace hx356_0 := (HB.out.cell (World.block_lt_of_cell? w _ hx356_0)).trans hx356_0
        try replace hx356_1 := (HB.out.cell (World.block_lt_of_cell? w _ hx356_1)).trans hx356_1
        try replace hx356_2 := (HB.out.cell (World.block_lt_of_cell? w _ hx356_2)).trans hx356_2
        replace p356 := eq_true p356
        replace q356 := eq_true q356
        refine start_ (n := 9) (S := fun w' => w'.cell? ⟨gb355, 0, none⟩ = some (.string a1_0) ∧ w'.cell? ⟨gb355, 1, none⟩ = some (.slice A1_1 l1_1.length c1_1) ∧ w'.cell? ad356 = some (.string ((rd_T24 l0 0).f0)) ∧ w'.cell? ⟨ad356.block, ad356.off + 1, none⟩ = some (.int .i64 ((rd_T24 l0 0).f1)) ∧ w'.cell? ⟨ad356.block, ad356.off + 2, none⟩ = some (.bool ((rd_T24 l0 0).f2))) (ds := []) #[false, false, false, false, false, false, false, false, false] (by kernel_rfl) rfl rfl ⟨(blk_cell BK355.out 0).trans rfl, (blk_cell BK355.out 1).trans rfl, ((HB.out.cell (World.block_lt_of_cell? w _ hw356_0)).trans hw356_0), ((HB.out.cell (World.block_lt_of_cell? w _ hw356_1)).trans hw356_1), ((HB.out.cell (World.block_lt_of_cell? w _ hw356_2)).trans hw356_2)⟩ (fun hHeld => ?_); refine with_tabW cippuslaw07_walkt.tab1 cippuslaw07_walkt.bits1 (fun HT_ HW_ => ?_)
        generalize w22.drew = w23 at BK355 HB hx356_0 hx356_1 hx356_2 hHeld ⊢
        refine pure_ (i := 0) (N := some 11) (v := ?_) (a' := ?_) #[true, false, false, false, false, false, false, false, false] rfl rfl (any_of HT_.out (by kernel_rfl)) (fun _ _ _ h => h) (Or.inl ⟨by rfl, ?_⟩) ?_ ?_
        rotate_left
        · intro w'
          go_simp
          with_reducible rfl
        rotate_left
        · simp only [Act.put, List.setIfInBounds_toArray, List.set_cons_zero, List.set_cons_succ, i64_w, i32_w]
          rfl
        refine pure_ (i := 3) (N := some 14) (v := ?_) (a' := ?_) #[true, false, false, true, false, false, false, false, false] rfl rfl (any_of HT_.out (by kernel_rfl)) (fun _ _ _ h => h) (Or.inl ⟨by rfl, ?_⟩) ?_ ?_
        rotate_left
        · intro w'
          go_simp
          with_reducible rfl
        rotate_left
        · simp only [Act.put, List.setIfInBounds_toArray, List.set_cons_zero, List.set_cons_succ, i64_w, i32_w]
          rfl
        refine pure_ (i := 4) (N := some 15) (v := ?_) (a' := ?_) #[true, false, false, true, true, false, false, false, false] rfl rfl (any_of HT_.out (by kernel_rfl)) (fun _ _ _ h => h) (Or.inl ⟨by rfl, ?_⟩) ?_ ?_
        rotate_left
        · intro w'
          go_simp
          with_reducible rfl
        rotate_left
        · simp only [Act.put, List.setIfInBounds_toArray, List.set_cons_zero, List.set_cons_succ, i64_w, i32_w]
          rfl
        refine pure_ (i := 5) (N := some 16) (v := ?_) (a' := ?_) #[true, false, false, true, true, true, false, false, false] rfl rfl (any_of HT_.out (by kernel_rfl)) (fun _ _ _ h => h) (Or.inl ⟨by rfl, ?_⟩) ?_ ?_
        rotate_left
        · intro w'
          go_simp
          with_reducible rfl
        rotate_left
        · simp only [Act.put, List.setIfInBounds_toArray, List.set_cons_zero, List.set_cons_succ, i64_w, i32_w]
          rfl
        refine take_ (i := 1) (N := some 12) (v := ?_) (a' := ?_) #[true, true, false, true, true, true, false, false, false] rfl rfl (take_ofW HT_.out HW_.out (by kernel_rfl)) (fun _ _ _ h => h) (Or.inl ⟨by rfl, ?_⟩) hHeld ?_ ?_
        rotate_left
        · rintro w' ⟨s0, s1, s2, s3, s4⟩
          go_simp
          with_reducible rfl
        rotate_left
        · simp only [Act.put, List.setIfInBounds_toArray, List.set_cons_zero, List.set_cons_succ, i64_w, i32_w]
          rfl
        refine pure_ (i := 2) (N := some 13) (v := ?_) (a' := ?_) #[true, true, true, true, true, true, false, false, false] rfl rfl (any_of HT_.out (by kernel_rfl)) (fun _ _ _ h => h) (Or.inl ⟨by rfl, ?_⟩) ?_ ?_
        rotate_left
        · intro w'
          go_simp
          with_reducible rfl
        rotate_left
        · simp only [Act.put, List.setIfInBounds_toArray, List.set_cons_zero, List.set_cons_succ, i64_w, i32_w]
          rfl
        refine take_ (i := 6) (N := some 17) (v := ?_) (a' := ?_) #[true, true, true, true, true, true, true, false, false] rfl rfl (take_ofW HT_.out HW_.out (by kernel_rfl)) (fun _ _ _ h => h) (Or.inl ⟨by rfl, ?_⟩) hHeld ?_ ?_
        rotate_left
        · rintro w' ⟨s0, s1, s2, s3, s4⟩
          go_simp
          with_reducible rfl
        rotate_left
        · simp only [Act.put, List.setIfInBounds_toArray, List.set_cons_zero, List.set_cons_succ, i64_w, i32_w]
          rfl
        refine pure_ (i := 7) (N := some 18) (v := ?_) (a' := ?_) #[true, true, true, true, true, true, true, true, false] rfl rfl (any_of HT_.out (by kernel_rfl)) (fun _ _ _ h => h) (Or.inl ⟨by rfl, ?_⟩) ?_ ?_
        rotate_left
        · intro w'
          go_simp
          with_reducible rfl
        rotate_left
        · simp only [Act.put, List.setIfInBounds_toArray, List.set_cons_zero, List.set_cons_succ, i64_w, i32_w]
          rfl
        refine pure_ (i := 8) (N := some 19) (v := ?_) (a' := ?_) #[true, true, true, true, true, true, true, true, true] rfl rfl (any_of HT_.out (by kernel_rfl)) (fun _ _ _ h => h) (Or.inl ⟨by rfl, ?_⟩) ?_ ?_
        rotate_left
        · intro w'
          go_simp
          with_reducible rfl
        rotate_left
        · simp only [Act.put, List.setIfInBounds_toArray, List.set_cons_zero, List.set_cons_succ, i64_w, i32_w]
          rfl
        refine done_ (done_of HT_.out (by kernel_rfl)) ?_
        have hcz24_0 : w23.cell? ⟨gb355, 0, none⟩ = some (.string a1_0) := (blk_cell BK355.out 0).trans rfl
        have hcz24_1 : w23.cell? ⟨gb355, 1, none⟩ = some (.slice A1_1 l1_1.length c1_1) := (blk_cell BK355.out 1).trans rfl
        have hfz24_0 := blk_frozen BK355.out 0
        have hfz24_1 := blk_frozen BK355.out 1
        try go_wp2
        go_loopg [2, 9] k (fun kq v2 v9 w' => ∃ (v2_ : Value) (x2_1 : List (S27)) (x9_1 : Int), v2_ = v2 ∧ v9 = .int .i64 x9_1 ∧ Aside0 (cippuslaw07_walkt.l1 kq l0 x2_1 (l1_1.length : Int) x9_1 a1_0 l1_1 = some r) ∧ Aside0 (kq ≤ k) ∧ Aside0 (w'.heap[gb355]? = some (.cells #[.string a1_0, (.slice A1_1 l1_1.length c1_1)] 27 (0, 0))) ∧ Aside0 (OutI w0 w P gb355 v2_ x2_1 w'))
        case atStart => exact ⟨vo, (a2), ((-1)), (by first | rfl | (simp; done) | (simp [*]; done)), (by first | rfl | (simp; done) | (simp [*]; done)), H', ⟨Nat.le_refl _⟩, ⟨by (with_reducible repeat (first | refine blk_drewN ?_ _ | refine blk_drew ?_ | refine blk_alloc ?_ _)); exact BK355.out⟩, ⟨OutI.start HBE.out HOut.out GE355.out (by repeat (first | (with_reducible first | exact HB.out | apply below_alloc | apply pw_below_drewN | apply below_drew1) | exact HB.out))⟩⟩
        case round =>
          clear H'
          try clear c1
          try clear hcv1
          try clear p2
          try clear p3
          try clear q3
          try clear hx3
          try clear qi3
          try clear c4
          try clear c4b0
          try clear c4b1
          try clear c5
          try clear c5b0
          try clear c5b1
          try clear c8
          try clear c8b0
          try clear c9
          try clear c9b0
          try clear c9b1
          try clear c9b2
          try clear hcv14
          try clear c16
          try clear c16b0
          try clear c16b1
          try clear c16b2
          try clear hcz11_0
          try clear hcz11_1
          try clear hcz20_0
          try clear hcz20_1
          try clear hcz24_0
          try clear hcz24_1
          try clear hfz11_0
          try clear hfz11_1
          try clear hfz20_0
          try clear hfz20_1
          try clear hfz24_0
          try clear hfz24_1
          try clear hx356_0
          try clear hx356_1
          try clear hx356_2
          try clear p2
          try clear p3
          try clear p356
          try clear q3
          try clear q356
          obtain ⟨v2_, x2_1, x9_1, rfl, rfl, HA, HK1, BK355, HI⟩ := hrel
          have BKr := BK355
          have GEw := GE355
          clear HR0 HR1_1
          have HR0 := Aside0.mk (Kd.C_below HR00.out HI.out.below)
          have HR1_1 := Aside0.mk (OutI.srcs HI.out HS.out)
          have HB := Aside0.mk (Below.refl wr.heap.size wr)
          cases gk with
          | zero => exact absurd HA.out (by simp [cippuslaw07_walkt.l1])
          | succ k1 =>
            have H := HA.out
            clear HA
            simp only [cippuslaw07_walkt.l1] at H
            by_cases c25 : x9_1 < (l1_1.length : Int)
            · rw [if_pos c25] at H
              have c25b0 : decide (x9_1 < (l1_1.length : Int)) = true := decide_eq_true c25
              clear c25
              have HC26 := Aside0.mk H
              clear H
              have hcz27_0 : wr.cell? ⟨gb355, 0, none⟩ = some (.string a1_0) := (blk_cell BK355.out 0).trans rfl
              have hcz27_1 : wr.cell? ⟨gb355, 1, none⟩ = some (.slice A1_1 l1_1.length c1_1) := (blk_cell BK355.out 1).trans rfl
              have hfz27_0 := blk_frozen BK355.out 0
              have hfz27_1 := blk_frozen BK355.out 1
              go_upto_if 54 with (fail)
              go_cut [10] (fun v10 wc => ∃ (kq : Nat) (x10_25 : ByteArray), v10 = .string x10_25 ∧ Aside0 (cippuslaw07_walkt.j2 kq l0 x2_1 (l1_1.length : Int) x9_1 x10_25 a1_0 l1_1 = some r) ∧ Aside0 (kq ≤ k1) ∧ Aside0 (wc.heap[gb355]? = some (.cells #[.string a1_0, (.slice A1_1 l1_1.length c1_1)] 27 (0, 0))) ∧ Aside0 (Below wr.heap.size wr wc))
              case first =>
                have H := HC26.out
                clear HC26
                by_cases c28 : x9_1 ≥ 0
                · rw [if_pos c28] at H
                  have c28b0 : decide (0 ≤ x9_1) = true := decide_eq_true c28
                  clear c28
                  (first | rw [c28b0] | (simp only [i64_w, i32_w]; rw [c28b0]) | skip)
                  by_cases c29 : 0 ≤ x9_1
                  · rw [if_pos c29] at H
                    have c29b0 : decide (0 ≤ x9_1) = true := decide_eq_true c29
                    clear c29
                    by_cases c30 : x9_1 < (l0.length : Int)
                    · rw [if_pos c30] at H
                      have c30b0 : decide (x9_1 < (l0.length : Int)) = true := decide_eq_true c30
                      clear c30
                      have H' := Aside0.mk H
                      clear H
                      have p362 : 0 ≤ (x9_1 : Int) := of_decide_eq_true (by first | (with_reducible assumption) | assumption)
                      have q362 : x9_1 < (l0.length : Int) := of_decide_eq_true (by first | (with_reducible assumption) | assumption)
                      obtain ⟨ad362, e362, hx362_0, hx362_1, hx362_2⟩ := at_T24 HR0.out x9_1 p362 q362
                      obtain rfl : ad356 = ad362 := (by injection e362)
                      try replace hx362_0 := (HB.out.cell (World.block_lt_of_cell? wr _ hx362_0)).trans hx362_0
                      try replace hx362_1 := (HB.out.cell (World.block_lt_of_cell? wr _ hx362_1)).trans hx362_1
                      try replace hx362_2 := (HB.out.cell (World.block_lt_of_cell? wr _ hx362_2)).trans hx362_2
                      replace p362 := eq_true p362
                      replace q362 := eq_true q362
                      go_wp2
                      go_meet
                      case rel => exact ⟨_, ((rd_T24 l0 x9_1).f0), (by first | rfl | (simp; done) | (simp [*]; done)), H', ⟨by have := HK1.out; first | omega | exact Nat.le_refl _⟩, ⟨by (with_reducible repeat (first | refine blk_drewN ?_ _ | refine blk_drew ?_ | refine blk_alloc ?_ _)); exact BK355.out⟩, ⟨by repeat (first | (with_reducible first | exact HB.out | apply below_alloc | apply pw_below_drewN | apply below_drew1 | refine below_set ?_ GE355.out) | exact HB.out)⟩⟩
                    · rw [if_neg c30] at H
                      exact absurd H (by simp)
                  · rw [if_neg c29] at H
                    exact absurd H (by simp)
                · rw [if_neg c28] at H
                  have c28b0 : decide (0 ≤ x9_1) = false := decide_eq_false c28
                  clear c28
                  (first | rw [c28b0] | (simp only [i64_w, i32_w]; rw [c28b0]) | skip)
                  have H' := Aside0.mk H
                  clear H
                  go_wp2
                  go_meet
                  case rel => exact ⟨_, (a1_0), (by first | rfl | (simp; done) | (simp [*]; done)), H', ⟨by have := HK1.out; first | omega | exact Nat.le_refl _⟩, ⟨by (with_reducible repeat (first | refine blk_drewN ?_ _ | refine blk_drew ?_ | refine blk_alloc ?_ _)); exact BK355.out⟩, ⟨by repeat (first | (with_reducible first | exact HB.out | apply below_alloc | apply pw_below_drewN | apply below_drew1 | refine below_set ?_ GE355.out) | exact HB.out)⟩⟩
              case rest =>
                clear HC26
                try clear c1
                try clear hcv1
                try clear c2
                try clear p2
                try clear c3
                try clear p3
                try clear q3
                try clear hx3
                try clear qi3
                try clear c4
                try clear c4b0
                try clear c4b1
                try clear c5
                try clear c5b0
                try clear c5b1
                try clear c8
                try clear c8b0
                try clear c9
                try clear c9b0
                try clear c9b1
                try clear c9b2
                try clear hcv14
                try clear c16
                try clear c16b0
                try clear c16b1
                try clear c16b2
                try clear c25
                try clear c25b0
                try clear c28
                try clear c28b0
                try clear c29
                try clear c29b0
                try clear c30
                try clear c30b0
                try clear hcz11_0
                try clear hcz11_1
                try clear hcz20_0
                try clear hcz20_1
                try clear hcz24_0
                try clear hcz24_1
                try clear hcz27_0
                try clear hcz27_1
                try clear hfz11_0
                try clear hfz11_1
                try clear hfz20_0
                try clear hfz20_1
                try clear hfz24_0
                try clear hfz24_1
                try clear hfz27_0
                try clear hfz27_1
                try clear hx356_0
                try clear hx356_1
                try clear hx356_2
                try clear hx362_0
                try clear hx362_1
                try clear hx362_2
                try clear p2
                try clear p3
                try clear p356
                try clear p362
                try clear q3
                try clear q356
                try clear q362
                obtain ⟨kq, x10_25, rfl, HA, HJ25, BK355, HB⟩ := hcut
                cases kq with
                | zero => exact absurd HA.out (by simp [cippuslaw07_walkt.j2])
                | succ kj25 =>
                  have H := HA.out
                  clear HA
                  simp only [cippuslaw07_walkt.j2] at H
                  have HC31 := Aside0.mk H
                  clear H
                  go_upto_region 16 with (fail)
                  go_cut [83] (fun v83 wc => ∃ (kq : Nat) (x83_30 : Bool), v83 = .bool x83_30 ∧ Aside0 (cippuslaw07_walkt.j3 kq l0 x2_1 (l1_1.length : Int) x9_1 x83_30 a1_0 l1_1 = some r) ∧ Aside0 (kq ≤ kj25) ∧ Aside0 (wc.heap[gb355]? = some (.cells #[.string a1_0, (.slice A1_1 l1_1.length c1_1)] 27 (0, 0))) ∧ Aside0 (Below wr.heap.size wr wc))
                  case first =>
                    have H := HC31.out
                    clear HC31
                    by_cases c32 : x9_1 ≥ 0
                    · rw [if_pos c32] at H
                      have c32b0 : decide (0 ≤ x9_1) = true := decide_eq_true c32
                      clear c32
                      (first | rw [c32b0] | (simp only [i64_w, i32_w]; rw [c32b0]) | skip)
                      by_cases c33 : 0 ≤ (l1_1.length : Int)
                      · rw [if_pos c33] at H
                        have c33b0 : decide (0 ≤ (l1_1.length : Int)) = true := decide_eq_true c33
                        have c33b1 : decide (0 ≤ l1_1.length) = true := decide_eq_true (by omega)
                        clear c33
                        by_cases c34 : (l1_1.length : Int) < (l0.length : Int)
                        · rw [if_pos c34] at H
                          have c34b0 : decide ((l1_1.length : Int) < (l0.length : Int)) = true := decide_eq_true c34
                          have c34b1 : decide (l1_1.length < l0.length) = true := decide_eq_true (Int.ofNat_lt.mp c34)
                          clear c34
                          replace H := Option.bind_eq_some_iff.mp H
                          obtain ⟨t364, A350, H⟩ := H
                          replace H : (cippuslaw07_walkt.j3 kj25 l0 x2_1 (l1_1.length : Int) x9_1 (decide (t364 ≤ ((rd_T24 l0 (l1_1.length : Int)).f1))) a1_0 l1_1) = some r := H
                          have A35 := Aside0.mk A350
                          clear A350
                          have H' := Aside0.mk H
                          clear H
                          try go_wp2
                          have n0_ := Aside0.mk (blk_drew BK355.out)
                          have n1_ := Aside0.mk (below_drew1 HB.out)
                          clear BK355
                          clear HB
                          have BK355 := n0_
                          have HB := n1_
                          clear n0_ n1_
                          have p363 : 0 ≤ ((l1_1.length : Int) : Int) := of_decide_eq_true (by first | (with_reducible assumption) | assumption)
                          have q363 : (l1_1.length : Int) < (l0.length : Int) := of_decide_eq_true (by first | (with_reducible assumption) | assumption)
                          obtain ⟨ad363, e363, hx363_0, hx363_1, hx363_2⟩ := at_T24 HR0.out (l1_1.length : Int) p363 q363
                          have hw363_2 := hx363_2
                          have hw363_1 := hx363_1
                          have hw363_0 := hx363_0
                          obtain rfl : ad356 = ad363 := (by injection e363)
                          try replace hx363_0 := (HB.out.cell (World.block_lt_of_cell? wr _ hx363_0)).trans hx363_0
                          try replace hx363_1 := (HB.out.cell (World.block_lt_of_cell? wr _ hx363_1)).trans hx363_1
                          try replace hx363_2 := (HB.out.cell (World.block_lt_of_cell? wr _ hx363_2)).trans hx363_2
                          (try simp only [Go.IntWalk.toNatUp] at hx363_0)
                          (try simp only [Go.IntWalk.toNatUp] at hx363_1)
                          (try simp only [Go.IntWalk.toNatUp] at hx363_2)
                          replace p363 := eq_true p363
                          replace q363 := eq_true q363
                          have p365 : 0 ≤ ((l1_1.length : Int) : Int) := of_decide_eq_true (by first | (with_reducible assumption) | assumption)
                          have q365 : (l1_1.length : Int) < (l0.length : Int) := of_decide_eq_true (by first | (with_reducible assumption) | assumption)
                          obtain ⟨ad365, e365, hx365_0, hx365_1, hx365_2⟩ := at_T24 HR0.out (l1_1.length : Int) p365 q365
                          have hw365_2 := hx365_2
                          have hw365_1 := hx365_1
                          have hw365_0 := hx365_0
                          obtain rfl : ad356 = ad365 := (by injection e365)
                          try replace hx365_0 := (HB.out.cell (World.block_lt_of_cell? wr _ hx365_0)).trans hx365_0
                          try replace hx365_1 := (HB.out.cell (World.block_lt_of_cell? wr _ hx365_1)).trans hx365_1
                          try replace hx365_2 := (HB.out.cell (World.block_lt_of_cell? wr _ hx365_2)).trans hx365_2
                          (try simp only [Go.IntWalk.toNatUp] at hx365_0)
                          (try simp only [Go.IntWalk.toNatUp] at hx365_1)
                          (try simp only [Go.IntWalk.toNatUp] at hx365_2)
                          replace p365 := eq_true p365
                          replace q365 := eq_true q365
                          refine start_ (n := 24) (S := fun w' => w'.cell? (ad356.add (((l1_1.length : Int)).toNat * 3)) = some (.string ((rd_T24 l0 (l1_1.length : Int)).f0)) ∧ w'.cell? ⟨(ad356.add (((l1_1.length : Int)).toNat * 3)).block, (ad356.add (((l1_1.length : Int)).toNat * 3)).off + 1, none⟩ = some (.int .i64 ((rd_T24 l0 (l1_1.length : Int)).f1)) ∧ w'.cell? ⟨(ad356.add (((l1_1.length : Int)).toNat * 3)).block, (ad356.add (((l1_1.length : Int)).toNat * 3)).off + 2, none⟩ = some (.bool ((rd_T24 l0 (l1_1.length : Int)).f2)) ∧ w'.cell? (ad356.add (((l1_1.length : Int)).toNat * 3)) = some (.string ((rd_T24 l0 (l1_1.length : Int)).f0)) ∧ w'.cell? ⟨(ad356.add (((l1_1.length : Int)).toNat * 3)).block, (ad356.add (((l1_1.length : Int)).toNat * 3)).off + 1, none⟩ = some (.int .i64 ((rd_T24 l0 (l1_1.length : Int)).f1)) ∧ w'.cell? ⟨(ad356.add (((l1_1.length : Int)).toNat * 3)).block, (ad356.add (((l1_1.length : Int)).toNat * 3)).off + 2, none⟩ = some (.bool ((rd_T24 l0 (l1_1.length : Int)).f2))) (ds := []) #[false, false, false, false, false, false, false, false, false, false, false, false, false, false, false, false, false, false, false, false, false, false, false, false] (by kernel_rfl) rfl rfl ⟨((HB.out.cell (World.block_lt_of_cell? wr _ hw363_0)).trans hw363_0), ((HB.out.cell (World.block_lt_of_cell? wr _ hw363_1)).trans hw363_1), ((HB.out.cell (World.block_lt_of_cell? wr _ hw363_2)).trans hw363_2), ((HB.out.cell (World.block_lt_of_cell? wr _ hw365_0)).trans hw365_0), ((HB.out.cell (World.block_lt_of_cell? wr _ hw365_1)).trans hw365_1), ((HB.out.cell (World.block_lt_of_cell? wr _ hw365_2)).trans hw365_2)⟩ (fun hHeld => ?_); refine with_tabW cippuslaw07_walkt.tab16 cippuslaw07_walkt.bits16 (fun HT_ HW_ => ?_)
                          generalize wc.drew = w36 at BK355 HB hx363_0 hx363_1 hx363_2 hx365_0 hx365_1 hx365_2 hHeld ⊢
                          refine pure_ (i := 0) (N := some 60) (v := ?_) (a' := ?_) #[true, false, false, false, false, false, false, false, false, false, false, false, false, false, false, false, false, false, false, false, false, false, false, false] rfl rfl (any_of HT_.out (by kernel_rfl)) (fun _ _ _ h => h) (Or.inl ⟨by rfl, ?_⟩) ?_ ?_
                          rotate_left
                          · intro w'
                            go_simp
                            with_reducible rfl
                          rotate_left
                          · simp only [Act.put, List.setIfInBounds_toArray, List.set_cons_zero, List.set_cons_succ, i64_w, i32_w]
                            rfl
                          refine pure_ (i := 1) (N := some 61) (v := ?_) (a' := ?_) #[true, true, false, false, false, false, false, false, false, false, false, false, false, false, false, false, false, false, false, false, false, false, false, false] rfl rfl (any_of HT_.out (by kernel_rfl)) (fun _ _ _ h => h) (Or.inl ⟨by rfl, ?_⟩) ?_ ?_
                          rotate_left
                          · intro w'
                            go_simp
                            with_reducible rfl
                          rotate_left
                          · simp only [Act.put, List.setIfInBounds_toArray, List.set_cons_zero, List.set_cons_succ, i64_w, i32_w]
                            rfl
                          refine pure_ (i := 2) (N := some 62) (v := ?_) (a' := ?_) #[true, true, true, false, false, false, false, false, false, false, false, false, false, false, false, false, false, false, false, false, false, false, false, false] rfl rfl (any_of HT_.out (by kernel_rfl)) (fun _ _ _ h => h) (Or.inl ⟨by rfl, ?_⟩) ?_ ?_
                          rotate_left
                          · intro w'
                            go_simp
                            with_reducible rfl
                          rotate_left
                          · simp only [Act.put, List.setIfInBounds_toArray, List.set_cons_zero, List.set_cons_succ, i64_w, i32_w]
                            rfl
                          refine pure_ (i := 3) (N := some 63) (v := undef) (a' := ?_) #[true, true, true, true, false, false, false, false, false, false, false, false, false, false, false, false, false, false, false, false, false, false, false, false] rfl rfl (any_of HT_.out (by kernel_rfl)) (fun _ _ _ h => h) (Or.inr ⟨by rfl, rfl⟩) ?_ ?_
                          rotate_left
                          · simp only [Act.put, List.setIfInBounds_toArray, List.set_cons_zero, List.set_cons_succ, i64_w, i32_w]
                            rfl
                          refine pure_ (i := 4) (N := some 64) (v := undef) (a' := ?_) #[true, true, true, true, true, false, false, false, false, false, false, false, false, false, false, false, false, false, false, false, false, false, false, false] rfl rfl (any_of HT_.out (by kernel_rfl)) (fun _ _ _ h => h) (Or.inr ⟨by rfl, rfl⟩) ?_ ?_
                          rotate_left
                          · simp only [Act.put, List.setIfInBounds_toArray, List.set_cons_zero, List.set_cons_succ, i64_w, i32_w]
                            rfl
                          refine pure_ (i := 5) (N := some 65) (v := undef) (a' := ?_) #[true, true, true, true, true, true, false, false, false, false, false, false, false, false, false, false, false, false, false, false, false, false, false, false] rfl rfl (any_of HT_.out (by kernel_rfl)) (fun _ _ _ h => h) (Or.inr ⟨by rfl, rfl⟩) ?_ ?_
                          rotate_left
                          · simp only [Act.put, List.setIfInBounds_toArray, List.set_cons_zero, List.set_cons_succ, i64_w, i32_w]
                            rfl
                          refine pure_ (i := 6) (N := some 66) (v := undef) (a' := ?_) #[true, true, true, true, true, true, true, false, false, false, false, false, false, false, false, false, false, false, false, false, false, false, false, false] rfl rfl (any_of HT_.out (by kernel_rfl)) (fun _ _ _ h => h) (Or.inr ⟨by rfl, rfl⟩) ?_ ?_
                          rotate_left
                          · simp only [Act.put, List.setIfInBounds_toArray, List.set_cons_zero, List.set_cons_succ, i64_w, i32_w]
                            rfl
                          refine pure_ (i := 7) (N := some 67) (v := undef) (a' := ?_) #[true, true, true, true, true, true, true, true, false, false, false, false, false, false, false, false, false, false, false, false, false, false, false, false] rfl rfl (any_of HT_.out (by kernel_rfl)) (fun _ _ _ h => h) (Or.inr ⟨by rfl, rfl⟩) ?_ ?_
                          rotate_left
                          · simp only [Act.put, List.setIfInBounds_toArray, List.set_cons_zero, List.set_cons_succ, i64_w, i32_w]
                            rfl
                          refine pure_ (i := 8) (N := some 68) (v := ?_) (a' := ?_) #[true, true, true, true, true, true, true, true, true, false, false, false, false, false, false, false, false, false, false, false, false, false, false, false] rfl rfl (any_of HT_.out (by kernel_rfl)) (fun _ _ _ h => h) (Or.inl ⟨by rfl, ?_⟩) ?_ ?_
                          rotate_left
                          · intro w'
                            go_simp
                            with_reducible rfl
                          rotate_left
                          · simp only [Act.put, List.setIfInBounds_toArray, List.set_cons_zero, List.set_cons_succ, i64_w, i32_w]
                            rfl
                          refine pure_ (i := 9) (N := some 69) (v := ?_) (a' := ?_) #[true, true, true, true, true, true, true, true, true, true, false, false, false, false, false, false, false, false, false, false, false, false, false, false] rfl rfl (any_of HT_.out (by kernel_rfl)) (fun _ _ _ h => h) (Or.inl ⟨by rfl, ?_⟩) ?_ ?_
                          rotate_left
                          · intro w'
                            go_simp
                            with_reducible rfl
                          rotate_left
                          · simp only [Act.put, List.setIfInBounds_toArray, List.set_cons_zero, List.set_cons_succ, i64_w, i32_w]
                            rfl
                          refine pure_ (i := 10) (N := some 70) (v := ?_) (a' := ?_) #[true, true, true, true, true, true, true, true, true, true, true, false, false, false, false, false, false, false, false, false, false, false, false, false] rfl rfl (any_of HT_.out (by kernel_rfl)) (fun _ _ _ h => h) (Or.inl ⟨by rfl, ?_⟩) ?_ ?_
                          rotate_left
                          · intro w'
                            go_simp
                            with_reducible rfl
                          rotate_left
                          · simp only [Act.put, List.setIfInBounds_toArray, List.set_cons_zero, List.set_cons_succ, i64_w, i32_w]
                            rfl
                          refine pure_ (i := 11) (N := some 71) (v := ?_) (a' := ?_) #[true, true, true, true, true, true, true, true, true, true, true, true, false, false, false, false, false, false, false, false, false, false, false, false] rfl rfl (any_of HT_.out (by kernel_rfl)) (fun _ _ _ h => h) (Or.inl ⟨by rfl, ?_⟩) ?_ ?_
                          rotate_left
                          · intro w'
                            go_simp
                            with_reducible rfl
                          rotate_left
                          · simp only [Act.put, List.setIfInBounds_toArray, List.set_cons_zero, List.set_cons_succ, i64_w, i32_w]
                            rfl
                          refine pure_ (i := 12) (N := some 72) (v := ?_) (a' := ?_) #[true, true, true, true, true, true, true, true, true, true, true, true, true, false, false, false, false, false, false, false, false, false, false, false] rfl rfl (any_of HT_.out (by kernel_rfl)) (fun _ _ _ h => h) (Or.inl ⟨by rfl, ?_⟩) ?_ ?_
                          rotate_left
                          · intro w'
                            go_simp
                            with_reducible rfl
                          rotate_left
                          · simp only [Act.put, List.setIfInBounds_toArray, List.set_cons_zero, List.set_cons_succ, i64_w, i32_w]
                            rfl
                          refine pure_ (i := 13) (N := some 73) (v := ?_) (a' := ?_) #[true, true, true, true, true, true, true, true, true, true, true, true, true, true, false, false, false, false, false, false, false, false, false, false] rfl rfl (any_of HT_.out (by kernel_rfl)) (fun _ _ _ h => h) (Or.inl ⟨by rfl, ?_⟩) ?_ ?_
                          rotate_left
                          · intro w'
                            go_simp
                            with_reducible rfl
                          rotate_left
                          · simp only [Act.put, List.setIfInBounds_toArray, List.set_cons_zero, List.set_cons_succ, i64_w, i32_w]
                            rfl
                          refine pure_ (i := 14) (N := some 74) (v := ?_) (a' := ?_) #[true, true, true, true, true, true, true, true, true, true, true, true, true, true, true, false, false, false, false, false, false, false, false, false] rfl rfl (any_of HT_.out (by kernel_rfl)) (fun _ _ _ h => h) (Or.inl ⟨by rfl, ?_⟩) ?_ ?_
                          rotate_left
                          · intro w'
                            go_simp
                            with_reducible rfl
                          rotate_left
                          · simp only [Act.put, List.setIfInBounds_toArray, List.set_cons_zero, List.set_cons_succ, i64_w, i32_w]
                            rfl
                          refine pure_ (i := 17) (N := some 77) (v := ?_) (a' := ?_) #[true, true, true, true, true, true, true, true, true, true, true, true, true, true, true, false, false, true, false, false, false, false, false, false] rfl rfl (any_of HT_.out (by kernel_rfl)) (fun _ _ _ h => h) (Or.inl ⟨by rfl, ?_⟩) ?_ ?_
                          rotate_left
                          · intro w'
                            go_simp
                            with_reducible rfl
                          rotate_left
                          · simp only [Act.put, List.setIfInBounds_toArray, List.set_cons_zero, List.set_cons_succ, i64_w, i32_w]
                            rfl
                          refine pure_ (i := 18) (N := some 78) (v := ?_) (a' := ?_) #[true, true, true, true, true, true, true, true, true, true, true, true, true, true, true, false, false, true, true, false, false, false, false, false] rfl rfl (any_of HT_.out (by kernel_rfl)) (fun _ _ _ h => h) (Or.inl ⟨by rfl, ?_⟩) ?_ ?_
                          rotate_left
                          · intro w'
                            go_simp
                            with_reducible rfl
                          rotate_left
                          · simp only [Act.put, List.setIfInBounds_toArray, List.set_cons_zero, List.set_cons_succ, i64_w, i32_w]
                            rfl
                          refine pure_ (i := 19) (N := some 79) (v := ?_) (a' := ?_) #[true, true, true, true, true, true, true, true, true, true, true, true, true, true, true, false, false, true, true, true, false, false, false, false] rfl rfl (any_of HT_.out (by kernel_rfl)) (fun _ _ _ h => h) (Or.inl ⟨by rfl, ?_⟩) ?_ ?_
                          rotate_left
                          · intro w'
                            go_simp
                            with_reducible rfl
                          rotate_left
                          · simp only [Act.put, List.setIfInBounds_toArray, List.set_cons_zero, List.set_cons_succ, i64_w, i32_w]
                            rfl
                          refine pure_ (i := 20) (N := some 80) (v := ?_) (a' := ?_) #[true, true, true, true, true, true, true, true, true, true, true, true, true, true, true, false, false, true, true, true, true, false, false, false] rfl rfl (any_of HT_.out (by kernel_rfl)) (fun _ _ _ h => h) (Or.inl ⟨by rfl, ?_⟩) ?_ ?_
                          rotate_left
                          · intro w'
                            go_simp
                            with_reducible rfl
                          rotate_left
                          · simp only [Act.put, List.setIfInBounds_toArray, List.set_cons_zero, List.set_cons_succ, i64_w, i32_w]
                            rfl
                          refine take_ (i := 15) (N := some 75) (v := ?_) (a' := ?_) #[true, true, true, true, true, true, true, true, true, true, true, true, true, true, true, true, false, true, true, true, true, false, false, false] rfl rfl (take_ofW HT_.out HW_.out (by kernel_rfl)) (fun _ _ _ h => h) (Or.inl ⟨by rfl, ?_⟩) hHeld ?_ ?_
                          rotate_left
                          · rintro w' ⟨s0, s1, s2, s3, s4, s5⟩
                            (try simp only [Int.toNat_natCast] at s0 s1 s2 s3 s4 s5)
                            go_simp
                            with_reducible rfl
                          rotate_left
                          · simp only [Act.put, List.setIfInBounds_toArray, List.set_cons_zero, List.set_cons_succ, i64_w, i32_w]
                            rfl
                          refine take_ (i := 21) (N := some 81) (v := ?_) (a' := ?_) #[true, true, true, true, true, true, true, true, true, true, true, true, true, true, true, true, false, true, true, true, true, true, false, false] rfl rfl (take_ofW HT_.out HW_.out (by kernel_rfl)) (fun _ _ _ h => h) (Or.inl ⟨by rfl, ?_⟩) hHeld ?_ ?_
                          rotate_left
                          · rintro w' ⟨s0, s1, s2, s3, s4, s5⟩
                            (try simp only [Int.toNat_natCast] at s0 s1 s2 s3 s4 s5)
                            go_simp
                            with_reducible rfl
                          rotate_left
                          · simp only [Act.put, List.setIfInBounds_toArray, List.set_cons_zero, List.set_cons_succ, i64_w, i32_w]
                            rfl
                          refine one_ (i := 16) (N := some 76) #[true, true, true, true, true, true, true, true, true, true, true, true, true, true, true, true, true, true, true, true, true, true, false, false] rfl rfl (one_of HT_.out (by kernel_rfl)) (by decide) (fun K hK => ?_)
                          refine goes_ Try.func43 (by kernel_rfl) rfl #[.string x10_25, .string ((rd_T24 l0 (l1_1.length : Int)).f0)] (by rfl) rfl rfl (by (try simp only [List.map_toArray, List.map_cons, List.map_nil]); first | done | rfl | (simp only [List.length_drop, List.length_take]; rfl)) ?_
                          with_reducible refine (cippusref07_Apart.calls kj25 x10_25 ((rd_T24 l0 (l1_1.length : Int)).f0) t364 _ A35.out).mono ?_
                          rintro e w' ⟨rfl, ⟨nd, rfl⟩⟩
                          refine ⟨_, rfl, ?_⟩
                          refine hK.out _ _ ⟨((HB.out.cell (World.block_lt_of_cell? wr _ hw363_0)).trans hw363_0), ((HB.out.cell (World.block_lt_of_cell? wr _ hw363_1)).trans hw363_1), ((HB.out.cell (World.block_lt_of_cell? wr _ hw363_2)).trans hw363_2), ((HB.out.cell (World.block_lt_of_cell? wr _ hw365_0)).trans hw365_0), ((HB.out.cell (World.block_lt_of_cell? wr _ hw365_1)).trans hw365_1), ((HB.out.cell (World.block_lt_of_cell? wr _ hw365_2)).trans hw365_2)⟩ (fun hHeld => ?_)
                          clear hK K
                          refine norm_ (a' := ?_) ?_ ?_
                          rotate_left
                          · show Act.put _ (some 76) _ = _
                            simp only [Act.put, List.setIfInBounds_toArray, List.set_cons_zero, List.set_cons_succ, i64_w, i32_w]
                            rfl
                          refine pure_ (i := 22) (N := some 82) (v := ?_) (a' := ?_) #[true, true, true, true, true, true, true, true, true, true, true, true, true, true, true, true, true, true, true, true, true, true, true, false] rfl rfl (any_of HT_.out (by kernel_rfl)) (fun _ _ _ h => h) (Or.inl ⟨by rfl, ?_⟩) ?_ ?_
                          rotate_left
                          · intro w'
                            go_simp
                            with_reducible rfl
                          rotate_left
                          · simp only [Act.put, List.setIfInBounds_toArray, List.set_cons_zero, List.set_cons_succ, i64_w, i32_w]
                            rfl
                          refine pure_ (i := 23) (N := some 83) (v := ?_) (a' := ?_) #[true, true, true, true, true, true, true, true, true, true, true, true, true, true, true, true, true, true, true, true, true, true, true, true] rfl rfl (any_of HT_.out (by kernel_rfl)) (fun _ _ _ h => h) (Or.inl ⟨by rfl, ?_⟩) ?_ ?_
                          rotate_left
                          · intro w'
                            go_simp
                            with_reducible rfl
                          rotate_left
                          · simp only [Act.put, List.setIfInBounds_toArray, List.set_cons_zero, List.set_cons_succ, i64_w, i32_w]
                            rfl
                          refine done_ (done_of HT_.out (by kernel_rfl)) ?_
                          try go_wp2
                          go_meet
                          case rel => exact ⟨_, (decide (t364 ≤ ((rd_T24 l0 (l1_1.length : Int)).f1))), (by first | rfl | (simp; done) | (simp [*]; done)), H', ⟨by have := HK1.out; have := HJ25.out; first | omega | exact Nat.le_refl _⟩, ⟨by (with_reducible repeat (first | refine blk_drewN ?_ _ | refine blk_drew ?_ | refine blk_alloc ?_ _)); exact BK355.out⟩, ⟨by repeat (first | (with_reducible first | exact HB.out | apply below_alloc | apply pw_below_drewN | apply below_drew1 | refine below_set ?_ GE355.out) | exact HB.out)⟩⟩
                        · rw [if_neg c34] at H
                          exact absurd H (by simp)
                      · rw [if_neg c33] at H
                        exact absurd H (by simp)
                    · rw [if_neg c32] at H
                      have c32b0 : decide (0 ≤ x9_1) = false := decide_eq_false c32
                      clear c32
                      (first | rw [c32b0] | (simp only [i64_w, i32_w]; rw [c32b0]) | skip)
                      by_cases c37 : 0 ≤ (l1_1.length : Int)
                      · rw [if_pos c37] at H
                        have c37b0 : decide (0 ≤ (l1_1.length : Int)) = true := decide_eq_true c37
                        have c37b1 : decide (0 ≤ l1_1.length) = true := decide_eq_true (by omega)
                        clear c37
                        by_cases c38 : (l1_1.length : Int) < (l0.length : Int)
                        · rw [if_pos c38] at H
                          have c38b0 : decide ((l1_1.length : Int) < (l0.length : Int)) = true := decide_eq_true c38
                          have c38b1 : decide (l1_1.length < l0.length) = true := decide_eq_true (Int.ofNat_lt.mp c38)
                          clear c38
                          obtain ⟨bq39, hbq39⟩ : ∃ b_ : Bool, b_ = ((rd_T24 l0 (l1_1.length : Int)).f2) := ⟨_, rfl⟩
                          replace H : (if bq39 = true then ((cippusref07_Apart.f kj25 x10_25 ((rd_T24 l0 (l1_1.length : Int)).f0)).bind fun t368 => (cippuslaw07_walkt.j3 kj25 l0 x2_1 (l1_1.length : Int) x9_1 (decide (t368 ≤ ((rd_T24 l0 (l1_1.length : Int)).f1))) a1_0 l1_1)) else (cippuslaw07_walkt.j3 kj25 l0 x2_1 (l1_1.length : Int) x9_1 false a1_0 l1_1)) = some r := by rw [← hbq39] at H; exact H
                          have Nbq39 := Aside0.mk hbq39
                          clear hbq39
                          by_cases c40 : bq39 = true
                          · subst c40
                            have H1 : ((cippusref07_Apart.f kj25 x10_25 ((rd_T24 l0 (l1_1.length : Int)).f0)).bind fun t368 => (cippuslaw07_walkt.j3 kj25 l0 x2_1 (l1_1.length : Int) x9_1 (decide (t368 ≤ ((rd_T24 l0 (l1_1.length : Int)).f1))) a1_0 l1_1)) = some r := by rw [if_pos rfl] at H; exact H
                            clear H
                            have H := H1
                            clear H1
                            replace H := Option.bind_eq_some_iff.mp H
                            obtain ⟨t368, A410, H⟩ := H
                            replace H : (cippuslaw07_walkt.j3 kj25 l0 x2_1 (l1_1.length : Int) x9_1 (decide (t368 ≤ ((rd_T24 l0 (l1_1.length : Int)).f1))) a1_0 l1_1) = some r := H
                            have A41 := Aside0.mk A410
                            clear A410
                            have H' := Aside0.mk H
                            clear H
                            try go_wp2
                            have n0_ := Aside0.mk (blk_drew BK355.out)
                            have n1_ := Aside0.mk (below_drew1 HB.out)
                            clear BK355
                            clear HB
                            have BK355 := n0_
                            have HB := n1_
                            clear n0_ n1_
                            have p366 : 0 ≤ ((l1_1.length : Int) : Int) := of_decide_eq_true (by first | (with_reducible assumption) | assumption)
                            have q366 : (l1_1.length : Int) < (l0.length : Int) := of_decide_eq_true (by first | (with_reducible assumption) | assumption)
                            obtain ⟨ad366, e366, hx366_0, hx366_1, hx366_2⟩ := at_T24 HR0.out (l1_1.length : Int) p366 q366
                            have hw366_2 := hx366_2
                            have hw366_1 := hx366_1
                            have hw366_0 := hx366_0
                            (try rw [← Nbq39.out] at hx366_2)
                            (try rw [← Nbq39.out] at hw366_2)
                            obtain rfl : ad356 = ad366 := (by injection e366)
                            try replace hx366_0 := (HB.out.cell (World.block_lt_of_cell? wr _ hx366_0)).trans hx366_0
                            try replace hx366_1 := (HB.out.cell (World.block_lt_of_cell? wr _ hx366_1)).trans hx366_1
                            try replace hx366_2 := (HB.out.cell (World.block_lt_of_cell? wr _ hx366_2)).trans hx366_2
                            (try simp only [Go.IntWalk.toNatUp] at hx366_0)
                            (try simp only [Go.IntWalk.toNatUp] at hx366_1)
                            (try simp only [Go.IntWalk.toNatUp] at hx366_2)
                            replace p366 := eq_true p366
                            replace q366 := eq_true q366
                            have p367 : 0 ≤ ((l1_1.length : Int) : Int) := of_decide_eq_true (by first | (with_reducible assumption) | assumption)
                            have q367 : (l1_1.length : Int) < (l0.length : Int) := of_decide_eq_true (by first | (with_reducible assumption) | assumption)
                            obtain ⟨ad367, e367, hx367_0, hx367_1, hx367_2⟩ := at_T24 HR0.out (l1_1.length : Int) p367 q367
                            have hw367_2 := hx367_2
                            have hw367_1 := hx367_1
                            have hw367_0 := hx367_0
                            (try rw [← Nbq39.out] at hx367_2)
                            (try rw [← Nbq39.out] at hw367_2)
                            obtain rfl : ad356 = ad367 := (by injection e367)
                            try replace hx367_0 := (HB.out.cell (World.block_lt_of_cell? wr _ hx367_0)).trans hx367_0
                            try replace hx367_1 := (HB.out.cell (World.block_lt_of_cell? wr _ hx367_1)).trans hx367_1
                            try replace hx367_2 := (HB.out.cell (World.block_lt_of_cell? wr _ hx367_2)).trans hx367_2
                            (try simp only [Go.IntWalk.toNatUp] at hx367_0)
                            (try simp only [Go.IntWalk.toNatUp] at hx367_1)
                            (try simp only [Go.IntWalk.toNatUp] at hx367_2)
                            replace p367 := eq_true p367
                            replace q367 := eq_true q367
                            have p369 : 0 ≤ ((l1_1.length : Int) : Int) := of_decide_eq_true (by first | (with_reducible assumption) | assumption)
                            have q369 : (l1_1.length : Int) < (l0.length : Int) := of_decide_eq_true (by first | (with_reducible assumption) | assumption)
                            obtain ⟨ad369, e369, hx369_0, hx369_1, hx369_2⟩ := at_T24 HR0.out (l1_1.length : Int) p369 q369
                            have hw369_2 := hx369_2
                            have hw369_1 := hx369_1
                            have hw369_0 := hx369_0
                            (try rw [← Nbq39.out] at hx369_2)
                            (try rw [← Nbq39.out] at hw369_2)
                            obtain rfl : ad356 = ad369 := (by injection e369)
                            try replace hx369_0 := (HB.out.cell (World.block_lt_of_cell? wr _ hx369_0)).trans hx369_0
                            try replace hx369_1 := (HB.out.cell (World.block_lt_of_cell? wr _ hx369_1)).trans hx369_1
                            try replace hx369_2 := (HB.out.cell (World.block_lt_of_cell? wr _ hx369_2)).trans hx369_2
                            (try simp only [Go.IntWalk.toNatUp] at hx369_0)
                            (try simp only [Go.IntWalk.toNatUp] at hx369_1)
                            (try simp only [Go.IntWalk.toNatUp] at hx369_2)
                            replace p369 := eq_true p369
                            replace q369 := eq_true q369
                            refine start_ (n := 24) (S := fun w' => w'.cell? (ad356.add (((l1_1.length : Int)).toNat * 3)) = some (.string ((rd_T24 l0 (l1_1.length : Int)).f0)) ∧ w'.cell? ⟨(ad356.add (((l1_1.length : Int)).toNat * 3)).block, (ad356.add (((l1_1.length : Int)).toNat * 3)).off + 1, none⟩ = some (.int .i64 ((rd_T24 l0 (l1_1.length : Int)).f1)) ∧ w'.cell? ⟨(ad356.add (((l1_1.length : Int)).toNat * 3)).block, (ad356.add (((l1_1.length : Int)).toNat * 3)).off + 2, none⟩ = some (.bool true) ∧ w'.cell? (ad356.add (((l1_1.length : Int)).toNat * 3)) = some (.string ((rd_T24 l0 (l1_1.length : Int)).f0)) ∧ w'.cell? ⟨(ad356.add (((l1_1.length : Int)).toNat * 3)).block, (ad356.add (((l1_1.length : Int)).toNat * 3)).off + 1, none⟩ = some (.int .i64 ((rd_T24 l0 (l1_1.length : Int)).f1)) ∧ w'.cell? ⟨(ad356.add (((l1_1.length : Int)).toNat * 3)).block, (ad356.add (((l1_1.length : Int)).toNat * 3)).off + 2, none⟩ = some (.bool (true)) ∧ w'.cell? (ad356.add (((l1_1.length : Int)).toNat * 3)) = some (.string ((rd_T24 l0 (l1_1.length : Int)).f0)) ∧ w'.cell? ⟨(ad356.add (((l1_1.length : Int)).toNat * 3)).block, (ad356.add (((l1_1.length : Int)).toNat * 3)).off + 1, none⟩ = some (.int .i64 ((rd_T24 l0 (l1_1.length : Int)).f1)) ∧ w'.cell? ⟨(ad356.add (((l1_1.length : Int)).toNat * 3)).block, (ad356.add (((l1_1.length : Int)).toNat * 3)).off + 2, none⟩ = some (.bool (true))) (ds := []) #[false, false, false, false, false, false, false, false, false, false, false, false, false, false, false, false, false, false, false, false, false, false, false, false] (by kernel_rfl) rfl rfl ⟨((HB.out.cell (World.block_lt_of_cell? wr _ hw366_0)).trans hw366_0), ((HB.out.cell (World.block_lt_of_cell? wr _ hw366_1)).trans hw366_1), ((HB.out.cell (World.block_lt_of_cell? wr _ hw366_2)).trans hw366_2), ((HB.out.cell (World.block_lt_of_cell? wr _ hw367_0)).trans hw367_0), ((HB.out.cell (World.block_lt_of_cell? wr _ hw367_1)).trans hw367_1), ((HB.out.cell (World.block_lt_of_cell? wr _ hw367_2)).trans hw367_2), ((HB.out.cell (World.block_lt_of_cell? wr _ hw369_0)).trans hw369_0), ((HB.out.cell (World.block_lt_of_cell? wr _ hw369_1)).trans hw369_1), ((HB.out.cell (World.block_lt_of_cell? wr _ hw369_2)).trans hw369_2)⟩ (fun hHeld => ?_); refine with_tabW cippuslaw07_walkt.tab16 cippuslaw07_walkt.bits16 (fun HT_ HW_ => ?_)
                            generalize wc.drew = w42 at BK355 HB hx366_0 hx366_1 hx366_2 hx367_0 hx367_1 hx367_2 hx369_0 hx369_1 hx369_2 hHeld ⊢
                            refine pure_ (i := 0) (N := some 60) (v := ?_) (a' := ?_) #[true, false, false, false, false, false, false, false, false, false, false, false, false, false, false, false, false, false, false, false, false, false, false, false] rfl rfl (any_of HT_.out (by kernel_rfl)) (fun _ _ _ h => h) (Or.inl ⟨by rfl, ?_⟩) ?_ ?_
                            rotate_left
                            · intro w'
                              go_simp
                              with_reducible rfl
                            rotate_left
                            · simp only [Act.put, List.setIfInBounds_toArray, List.set_cons_zero, List.set_cons_succ, i64_w, i32_w]
                              rfl
                            refine pure_ (i := 1) (N := some 61) (v := ?_) (a' := ?_) #[true, true, false, false, false, false, false, false, false, false, false, false, false, false, false, false, false, false, false, false, false, false, false, false] rfl rfl (any_of HT_.out (by kernel_rfl)) (fun _ _ _ h => h) (Or.inl ⟨by rfl, ?_⟩) ?_ ?_
                            rotate_left
                            · intro w'
                              go_simp
                              with_reducible rfl
                            rotate_left
                            · simp only [Act.put, List.setIfInBounds_toArray, List.set_cons_zero, List.set_cons_succ, i64_w, i32_w]
                              rfl
                            refine pure_ (i := 2) (N := some 62) (v := ?_) (a' := ?_) #[true, true, true, false, false, false, false, false, false, false, false, false, false, false, false, false, false, false, false, false, false, false, false, false] rfl rfl (any_of HT_.out (by kernel_rfl)) (fun _ _ _ h => h) (Or.inl ⟨by rfl, ?_⟩) ?_ ?_
                            rotate_left
                            · intro w'
                              go_simp
                              with_reducible rfl
                            rotate_left
                            · simp only [Act.put, List.setIfInBounds_toArray, List.set_cons_zero, List.set_cons_succ, i64_w, i32_w]
                              rfl
                            refine pure_ (i := 3) (N := some 63) (v := ?_) (a' := ?_) #[true, true, true, true, false, false, false, false, false, false, false, false, false, false, false, false, false, false, false, false, false, false, false, false] rfl rfl (any_of HT_.out (by kernel_rfl)) (fun _ _ _ h => h) (Or.inl ⟨by rfl, ?_⟩) ?_ ?_
                            rotate_left
                            · intro w'
                              go_simp
                              with_reducible rfl
                            rotate_left
                            · simp only [Act.put, List.setIfInBounds_toArray, List.set_cons_zero, List.set_cons_succ, i64_w, i32_w]
                              rfl
                            refine pure_ (i := 4) (N := some 64) (v := ?_) (a' := ?_) #[true, true, true, true, true, false, false, false, false, false, false, false, false, false, false, false, false, false, false, false, false, false, false, false] rfl rfl (any_of HT_.out (by kernel_rfl)) (fun _ _ _ h => h) (Or.inl ⟨by rfl, ?_⟩) ?_ ?_
                            rotate_left
                            · intro w'
                              go_simp
                              with_reducible rfl
                            rotate_left
                            · simp only [Act.put, List.setIfInBounds_toArray, List.set_cons_zero, List.set_cons_succ, i64_w, i32_w]
                              rfl
                            refine pure_ (i := 5) (N := some 65) (v := ?_) (a' := ?_) #[true, true, true, true, true, true, false, false, false, false, false, false, false, false, false, false, false, false, false, false, false, false, false, false] rfl rfl (any_of HT_.out (by kernel_rfl)) (fun _ _ _ h => h) (Or.inl ⟨by rfl, ?_⟩) ?_ ?_
                            rotate_left
                            · intro w'
                              go_simp
                              with_reducible rfl
                            rotate_left
                            · simp only [Act.put, List.setIfInBounds_toArray, List.set_cons_zero, List.set_cons_succ, i64_w, i32_w]
                              rfl
                            refine pure_ (i := 6) (N := some 66) (v := ?_) (a' := ?_) #[true, true, true, true, true, true, true, false, false, false, false, false, false, false, false, false, false, false, false, false, false, false, false, false] rfl rfl (any_of HT_.out (by kernel_rfl)) (fun _ _ _ h => h) (Or.inl ⟨by rfl, ?_⟩) ?_ ?_
                            rotate_left
                            · intro w'
                              go_simp
                              with_reducible rfl
                            rotate_left
                            · simp only [Act.put, List.setIfInBounds_toArray, List.set_cons_zero, List.set_cons_succ, i64_w, i32_w]
                              rfl
                            refine take_ (i := 7) (N := some 67) (v := ?_) (a' := ?_) #[true, true, true, true, true, true, true, true, false, false, false, false, false, false, false, false, false, false, false, false, false, false, false, false] rfl rfl (take_ofW HT_.out HW_.out (by kernel_rfl)) (fun _ _ _ h => h) (Or.inl ⟨by rfl, ?_⟩) hHeld ?_ ?_
                            rotate_left
                            · rintro w' ⟨s0, s1, s2, s3, s4, s5, s6, s7, s8⟩
                              (try simp only [Int.toNat_natCast] at s0 s1 s2 s3 s4 s5 s6 s7 s8)
                              go_simp
                              with_reducible rfl
                            rotate_left
                            · simp only [Act.put, List.setIfInBounds_toArray, List.set_cons_zero, List.set_cons_succ, i64_w, i32_w]
                              rfl
                            refine pure_ (i := 8) (N := some 68) (v := ?_) (a' := ?_) #[true, true, true, true, true, true, true, true, true, false, false, false, false, false, false, false, false, false, false, false, false, false, false, false] rfl rfl (any_of HT_.out (by kernel_rfl)) (fun _ _ _ h => h) (Or.inl ⟨by rfl, ?_⟩) ?_ ?_
                            rotate_left
                            · intro w'
                              go_simp
                              with_reducible rfl
                            rotate_left
                            · simp only [Act.put, List.setIfInBounds_toArray, List.set_cons_zero, List.set_cons_succ, i64_w, i32_w]
                              rfl
                            refine pure_ (i := 9) (N := some 69) (v := ?_) (a' := ?_) #[true, true, true, true, true, true, true, true, true, true, false, false, false, false, false, false, false, false, false, false, false, false, false, false] rfl rfl (any_of HT_.out (by kernel_rfl)) (fun _ _ _ h => h) (Or.inl ⟨by rfl, ?_⟩) ?_ ?_
                            rotate_left
                            · intro w'
                              go_simp
                              with_reducible rfl
                            rotate_left
                            · simp only [Act.put, List.setIfInBounds_toArray, List.set_cons_zero, List.set_cons_succ, i64_w, i32_w]
                              rfl
                            refine pure_ (i := 10) (N := some 70) (v := ?_) (a' := ?_) #[true, true, true, true, true, true, true, true, true, true, true, false, false, false, false, false, false, false, false, false, false, false, false, false] rfl rfl (any_of HT_.out (by kernel_rfl)) (fun _ _ _ h => h) (Or.inl ⟨by rfl, ?_⟩) ?_ ?_
                            rotate_left
                            · intro w'
                              go_simp
                              with_reducible rfl
                            rotate_left
                            · simp only [Act.put, List.setIfInBounds_toArray, List.set_cons_zero, List.set_cons_succ, i64_w, i32_w]
                              rfl
                            refine pure_ (i := 11) (N := some 71) (v := ?_) (a' := ?_) #[true, true, true, true, true, true, true, true, true, true, true, true, false, false, false, false, false, false, false, false, false, false, false, false] rfl rfl (any_of HT_.out (by kernel_rfl)) (fun _ _ _ h => h) (Or.inl ⟨by rfl, ?_⟩) ?_ ?_
                            rotate_left
                            · intro w'
                              go_simp
                              with_reducible rfl
                            rotate_left
                            · simp only [Act.put, List.setIfInBounds_toArray, List.set_cons_zero, List.set_cons_succ, i64_w, i32_w]
                              rfl
                            refine pure_ (i := 12) (N := some 72) (v := ?_) (a' := ?_) #[true, true, true, true, true, true, true, true, true, true, true, true, true, false, false, false, false, false, false, false, false, false, false, false] rfl rfl (any_of HT_.out (by kernel_rfl)) (fun _ _ _ h => h) (Or.inl ⟨by rfl, ?_⟩) ?_ ?_
                            rotate_left
                            · intro w'
                              go_simp
                              with_reducible rfl
                            rotate_left
                            · simp only [Act.put, List.setIfInBounds_toArray, List.set_cons_zero, List.set_cons_succ, i64_w, i32_w]
                              rfl
                            refine pure_ (i := 13) (N := some 73) (v := ?_) (a' := ?_) #[true, true, true, true, true, true, true, true, true, true, true, true, true, true, false, false, false, false, false, false, false, false, false, false] rfl rfl (any_of HT_.out (by kernel_rfl)) (fun _ _ _ h => h) (Or.inl ⟨by rfl, ?_⟩) ?_ ?_
                            rotate_left
                            · intro w'
                              go_simp
                              with_reducible rfl
                            rotate_left
                            · simp only [Act.put, List.setIfInBounds_toArray, List.set_cons_zero, List.set_cons_succ, i64_w, i32_w]
                              rfl
                            refine pure_ (i := 14) (N := some 74) (v := ?_) (a' := ?_) #[true, true, true, true, true, true, true, true, true, true, true, true, true, true, true, false, false, false, false, false, false, false, false, false] rfl rfl (any_of HT_.out (by kernel_rfl)) (fun _ _ _ h => h) (Or.inl ⟨by rfl, ?_⟩) ?_ ?_
                            rotate_left
                            · intro w'
                              go_simp
                              with_reducible rfl
                            rotate_left
                            · simp only [Act.put, List.setIfInBounds_toArray, List.set_cons_zero, List.set_cons_succ, i64_w, i32_w]
                              rfl
                            refine pure_ (i := 17) (N := some 77) (v := ?_) (a' := ?_) #[true, true, true, true, true, true, true, true, true, true, true, true, true, true, true, false, false, true, false, false, false, false, false, false] rfl rfl (any_of HT_.out (by kernel_rfl)) (fun _ _ _ h => h) (Or.inl ⟨by rfl, ?_⟩) ?_ ?_
                            rotate_left
                            · intro w'
                              go_simp
                              with_reducible rfl
                            rotate_left
                            · simp only [Act.put, List.setIfInBounds_toArray, List.set_cons_zero, List.set_cons_succ, i64_w, i32_w]
                              rfl
                            refine pure_ (i := 18) (N := some 78) (v := ?_) (a' := ?_) #[true, true, true, true, true, true, true, true, true, true, true, true, true, true, true, false, false, true, true, false, false, false, false, false] rfl rfl (any_of HT_.out (by kernel_rfl)) (fun _ _ _ h => h) (Or.inl ⟨by rfl, ?_⟩) ?_ ?_
                            rotate_left
                            · intro w'
                              go_simp
                              with_reducible rfl
                            rotate_left
                            · simp only [Act.put, List.setIfInBounds_toArray, List.set_cons_zero, List.set_cons_succ, i64_w, i32_w]
                              rfl
                            refine pure_ (i := 19) (N := some 79) (v := ?_) (a' := ?_) #[true, true, true, true, true, true, true, true, true, true, true, true, true, true, true, false, false, true, true, true, false, false, false, false] rfl rfl (any_of HT_.out (by kernel_rfl)) (fun _ _ _ h => h) (Or.inl ⟨by rfl, ?_⟩) ?_ ?_
                            rotate_left
                            · intro w'
                              go_simp
                              with_reducible rfl
                            rotate_left
                            · simp only [Act.put, List.setIfInBounds_toArray, List.set_cons_zero, List.set_cons_succ, i64_w, i32_w]
                              rfl
                            refine pure_ (i := 20) (N := some 80) (v := ?_) (a' := ?_) #[true, true, true, true, true, true, true, true, true, true, true, true, true, true, true, false, false, true, true, true, true, false, false, false] rfl rfl (any_of HT_.out (by kernel_rfl)) (fun _ _ _ h => h) (Or.inl ⟨by rfl, ?_⟩) ?_ ?_
                            rotate_left
                            · intro w'
                              go_simp
                              with_reducible rfl
                            rotate_left
                            · simp only [Act.put, List.setIfInBounds_toArray, List.set_cons_zero, List.set_cons_succ, i64_w, i32_w]
                              rfl
                            refine take_ (i := 15) (N := some 75) (v := ?_) (a' := ?_) #[true, true, true, true, true, true, true, true, true, true, true, true, true, true, true, true, false, true, true, true, true, false, false, false] rfl rfl (take_ofW HT_.out HW_.out (by kernel_rfl)) (fun _ _ _ h => h) (Or.inl ⟨by rfl, ?_⟩) hHeld ?_ ?_
                            rotate_left
                            · rintro w' ⟨s0, s1, s2, s3, s4, s5, s6, s7, s8⟩
                              (try simp only [Int.toNat_natCast] at s0 s1 s2 s3 s4 s5 s6 s7 s8)
                              go_simp
                              with_reducible rfl
                            rotate_left
                            · simp only [Act.put, List.setIfInBounds_toArray, List.set_cons_zero, List.set_cons_succ, i64_w, i32_w]
                              rfl
                            refine take_ (i := 21) (N := some 81) (v := ?_) (a' := ?_) #[true, true, true, true, true, true, true, true, true, true, true, true, true, true, true, true, false, true, true, true, true, true, false, false] rfl rfl (take_ofW HT_.out HW_.out (by kernel_rfl)) (fun _ _ _ h => h) (Or.inl ⟨by rfl, ?_⟩) hHeld ?_ ?_
                            rotate_left
                            · rintro w' ⟨s0, s1, s2, s3, s4, s5, s6, s7, s8⟩
                              (try simp only [Int.toNat_natCast] at s0 s1 s2 s3 s4 s5 s6 s7 s8)
                              go_simp
                              with_reducible rfl
                            rotate_left
                            · simp only [Act.put, List.setIfInBounds_toArray, List.set_cons_zero, List.set_cons_succ, i64_w, i32_w]
                              rfl
                            refine one_ (i := 16) (N := some 76) #[true, true, true, true, true, true, true, true, true, true, true, true, true, true, true, true, true, true, true, true, true, true, false, false] rfl rfl (one_of HT_.out (by kernel_rfl)) (by decide) (fun K hK => ?_)
                            refine goes_ Try.func43 (by kernel_rfl) rfl #[.string x10_25, .string ((rd_T24 l0 (l1_1.length : Int)).f0)] (by rfl) rfl rfl (by (try simp only [List.map_toArray, List.map_cons, List.map_nil]); first | done | rfl | (simp only [List.length_drop, List.length_take]; rfl)) ?_
                            with_reducible refine (cippusref07_Apart.calls kj25 x10_25 ((rd_T24 l0 (l1_1.length : Int)).f0) t368 _ A41.out).mono ?_
                            rintro e w' ⟨rfl, ⟨nd, rfl⟩⟩
                            refine ⟨_, rfl, ?_⟩
                            refine hK.out _ _ ⟨((HB.out.cell (World.block_lt_of_cell? wr _ hw366_0)).trans hw366_0), ((HB.out.cell (World.block_lt_of_cell? wr _ hw366_1)).trans hw366_1), ((HB.out.cell (World.block_lt_of_cell? wr _ hw366_2)).trans hw366_2), ((HB.out.cell (World.block_lt_of_cell? wr _ hw367_0)).trans hw367_0), ((HB.out.cell (World.block_lt_of_cell? wr _ hw367_1)).trans hw367_1), ((HB.out.cell (World.block_lt_of_cell? wr _ hw367_2)).trans hw367_2), ((HB.out.cell (World.block_lt_of_cell? wr _ hw369_0)).trans hw369_0), ((HB.out.cell (World.block_lt_of_cell? wr _ hw369_1)).trans hw369_1), ((HB.out.cell (World.block_lt_of_cell? wr _ hw369_2)).trans hw369_2)⟩ (fun hHeld => ?_)
                            clear hK K
                            refine norm_ (a' := ?_) ?_ ?_
                            rotate_left
                            · show Act.put _ (some 76) _ = _
                              simp only [Act.put, List.setIfInBounds_toArray, List.set_cons_zero, List.set_cons_succ, i64_w, i32_w]
                              rfl
                            refine pure_ (i := 22) (N := some 82) (v := ?_) (a' := ?_) #[true, true, true, true, true, true, true, true, true, true, true, true, true, true, true, true, true, true, true, true, true, true, true, false] rfl rfl (any_of HT_.out (by kernel_rfl)) (fun _ _ _ h => h) (Or.inl ⟨by rfl, ?_⟩) ?_ ?_
                            rotate_left
                            · intro w'
                              go_simp
                              with_reducible rfl
                            rotate_left
                            · simp only [Act.put, List.setIfInBounds_toArray, List.set_cons_zero, List.set_cons_succ, i64_w, i32_w]
                              rfl
                            refine pure_ (i := 23) (N := some 83) (v := ?_) (a' := ?_) #[true, true, true, true, true, true, true, true, true, true, true, true, true, true, true, true, true, true, true, true, true, true, true, true] rfl rfl (any_of HT_.out (by kernel_rfl)) (fun _ _ _ h => h) (Or.inl ⟨by rfl, ?_⟩) ?_ ?_
                            rotate_left
                            · intro w'
                              go_simp
                              with_reducible rfl
                            rotate_left
                            · simp only [Act.put, List.setIfInBounds_toArray, List.set_cons_zero, List.set_cons_succ, i64_w, i32_w]
                              rfl
                            refine done_ (done_of HT_.out (by kernel_rfl)) ?_
                            try go_wp2
                            go_meet
                            case rel => exact ⟨_, (decide (t368 ≤ ((rd_T24 l0 (l1_1.length : Int)).f1))), (by first | rfl | (simp; done) | (simp [*]; done)), H', ⟨by have := HK1.out; have := HJ25.out; first | omega | exact Nat.le_refl _⟩, ⟨by (with_reducible repeat (first | refine blk_drewN ?_ _ | refine blk_drew ?_ | refine blk_alloc ?_ _)); exact BK355.out⟩, ⟨by repeat (first | (with_reducible first | exact HB.out | apply below_alloc | apply pw_below_drewN | apply below_drew1 | refine below_set ?_ GE355.out) | exact HB.out)⟩⟩
                          · replace c40 := Bool.eq_false_iff.mpr c40
                            subst c40
                            have H1 : (cippuslaw07_walkt.j3 kj25 l0 x2_1 (l1_1.length : Int) x9_1 false a1_0 l1_1) = some r := by rw [if_neg (show ¬ (false = true) by decide)] at H; exact H
                            clear H
                            have H := H1
                            clear H1
                            have H' := Aside0.mk H
                            clear H
                            try go_wp2
                            have n0_ := Aside0.mk (blk_drew BK355.out)
                            have n1_ := Aside0.mk (below_drew1 HB.out)
                            clear BK355
                            clear HB
                            have BK355 := n0_
                            have HB := n1_
                            clear n0_ n1_
                            have p366 : 0 ≤ ((l1_1.length : Int) : Int) := of_decide_eq_true (by first | (with_reducible assumption) | assumption)
                            have q366 : (l1_1.length : Int) < (l0.length : Int) := of_decide_eq_true (by first | (with_reducible assumption) | assumption)
                            obtain ⟨ad366, e366, hx366_0, hx366_1, hx366_2⟩ := at_T24 HR0.out (l1_1.length : Int) p366 q366
                            have hw366_2 := hx366_2
                            have hw366_1 := hx366_1
                            have hw366_0 := hx366_0
                            (try rw [← Nbq39.out] at hx366_2)
                            (try rw [← Nbq39.out] at hw366_2)
                            obtain rfl : ad356 = ad366 := (by injection e366)
                            try replace hx366_0 := (HB.out.cell (World.block_lt_of_cell? wr _ hx366_0)).trans hx366_0
                            try replace hx366_1 := (HB.out.cell (World.block_lt_of_cell? wr _ hx366_1)).trans hx366_1
                            try replace hx366_2 := (HB.out.cell (World.block_lt_of_cell? wr _ hx366_2)).trans hx366_2
                            (try simp only [Go.IntWalk.toNatUp] at hx366_0)
                            (try simp only [Go.IntWalk.toNatUp] at hx366_1)
                            (try simp only [Go.IntWalk.toNatUp] at hx366_2)
                            replace p366 := eq_true p366
                            replace q366 := eq_true q366
                            refine start_ (n := 24) (S := fun w' => w'.cell? (ad356.add (((l1_1.length : Int)).toNat * 3)) = some (.string ((rd_T24 l0 (l1_1.length : Int)).f0)) ∧ w'.cell? ⟨(ad356.add (((l1_1.length : Int)).toNat * 3)).block, (ad356.add (((l1_1.length : Int)).toNat * 3)).off + 1, none⟩ = some (.int .i64 ((rd_T24 l0 (l1_1.length : Int)).f1)) ∧ w'.cell? ⟨(ad356.add (((l1_1.length : Int)).toNat * 3)).block, (ad356.add (((l1_1.length : Int)).toNat * 3)).off + 2, none⟩ = some (.bool false)) (ds := []) #[false, false, false, false, false, false, false, false, false, false, false, false, false, false, false, false, false, false, false, false, false, false, false, false] (by kernel_rfl) rfl rfl ⟨((HB.out.cell (World.block_lt_of_cell? wr _ hw366_0)).trans hw366_0), ((HB.out.cell (World.block_lt_of_cell? wr _ hw366_1)).trans hw366_1), ((HB.out.cell (World.block_lt_of_cell? wr _ hw366_2)).trans hw366_2)⟩ (fun hHeld => ?_); refine with_tabW cippuslaw07_walkt.tab16 cippuslaw07_walkt.bits16 (fun HT_ HW_ => ?_)
                            generalize wc.drew = w43 at BK355 HB hx366_0 hx366_1 hx366_2 hHeld ⊢
                            refine pure_ (i := 0) (N := some 60) (v := ?_) (a' := ?_) #[true, false, false, false, false, false, false, false, false, false, false, false, false, false, false, false, false, false, false, false, false, false, false, false] rfl rfl (any_of HT_.out (by kernel_rfl)) (fun _ _ _ h => h) (Or.inl ⟨by rfl, ?_⟩) ?_ ?_
                            rotate_left
                            · intro w'
                              go_simp
                              with_reducible rfl
                            rotate_left
                            · simp only [Act.put, List.setIfInBounds_toArray, List.set_cons_zero, List.set_cons_succ, i64_w, i32_w]
                              rfl
                            refine pure_ (i := 1) (N := some 61) (v := ?_) (a' := ?_) #[true, true, false, false, false, false, false, false, false, false, false, false, false, false, false, false, false, false, false, false, false, false, false, false] rfl rfl (any_of HT_.out (by kernel_rfl)) (fun _ _ _ h => h) (Or.inl ⟨by rfl, ?_⟩) ?_ ?_
                            rotate_left
                            · intro w'
                              go_simp
                              with_reducible rfl
                            rotate_left
                            · simp only [Act.put, List.setIfInBounds_toArray, List.set_cons_zero, List.set_cons_succ, i64_w, i32_w]
                              rfl
                            refine pure_ (i := 2) (N := some 62) (v := ?_) (a' := ?_) #[true, true, true, false, false, false, false, false, false, false, false, false, false, false, false, false, false, false, false, false, false, false, false, false] rfl rfl (any_of HT_.out (by kernel_rfl)) (fun _ _ _ h => h) (Or.inl ⟨by rfl, ?_⟩) ?_ ?_
                            rotate_left
                            · intro w'
                              go_simp
                              with_reducible rfl
                            rotate_left
                            · simp only [Act.put, List.setIfInBounds_toArray, List.set_cons_zero, List.set_cons_succ, i64_w, i32_w]
                              rfl
                            refine pure_ (i := 3) (N := some 63) (v := ?_) (a' := ?_) #[true, true, true, true, false, false, false, false, false, false, false, false, false, false, false, false, false, false, false, false, false, false, false, false] rfl rfl (any_of HT_.out (by kernel_rfl)) (fun _ _ _ h => h) (Or.inl ⟨by rfl, ?_⟩) ?_ ?_
                            rotate_left
                            · intro w'
                              go_simp
                              with_reducible rfl
                            rotate_left
                            · simp only [Act.put, List.setIfInBounds_toArray, List.set_cons_zero, List.set_cons_succ, i64_w, i32_w]
                              rfl
                            refine pure_ (i := 4) (N := some 64) (v := ?_) (a' := ?_) #[true, true, true, true, true, false, false, false, false, false, false, false, false, false, false, false, false, false, false, false, false, false, false, false] rfl rfl (any_of HT_.out (by kernel_rfl)) (fun _ _ _ h => h) (Or.inl ⟨by rfl, ?_⟩) ?_ ?_
                            rotate_left
                            · intro w'
                              go_simp
                              with_reducible rfl
                            rotate_left
                            · simp only [Act.put, List.setIfInBounds_toArray, List.set_cons_zero, List.set_cons_succ, i64_w, i32_w]
                              rfl
                            refine pure_ (i := 5) (N := some 65) (v := ?_) (a' := ?_) #[true, true, true, true, true, true, false, false, false, false, false, false, false, false, false, false, false, false, false, false, false, false, false, false] rfl rfl (any_of HT_.out (by kernel_rfl)) (fun _ _ _ h => h) (Or.inl ⟨by rfl, ?_⟩) ?_ ?_
                            rotate_left
                            · intro w'
                              go_simp
                              with_reducible rfl
                            rotate_left
                            · simp only [Act.put, List.setIfInBounds_toArray, List.set_cons_zero, List.set_cons_succ, i64_w, i32_w]
                              rfl
                            refine pure_ (i := 6) (N := some 66) (v := ?_) (a' := ?_) #[true, true, true, true, true, true, true, false, false, false, false, false, false, false, false, false, false, false, false, false, false, false, false, false] rfl rfl (any_of HT_.out (by kernel_rfl)) (fun _ _ _ h => h) (Or.inl ⟨by rfl, ?_⟩) ?_ ?_
                            rotate_left
                            · intro w'
                              go_simp
                              with_reducible rfl
                            rotate_left
                            · simp only [Act.put, List.setIfInBounds_toArray, List.set_cons_zero, List.set_cons_succ, i64_w, i32_w]
                              rfl
                            refine take_ (i := 7) (N := some 67) (v := ?_) (a' := ?_) #[true, true, true, true, true, true, true, true, false, false, false, false, false, false, false, false, false, false, false, false, false, false, false, false] rfl rfl (take_ofW HT_.out HW_.out (by kernel_rfl)) (fun _ _ _ h => h) (Or.inl ⟨by rfl, ?_⟩) hHeld ?_ ?_
                            rotate_left
                            · rintro w' ⟨s0, s1, s2⟩
                              (try simp only [Int.toNat_natCast] at s0 s1 s2)
                              go_simp
                              with_reducible rfl
                            rotate_left
                            · simp only [Act.put, List.setIfInBounds_toArray, List.set_cons_zero, List.set_cons_succ, i64_w, i32_w]
                              rfl
                            refine pure_ (i := 8) (N := some 68) (v := ?_) (a' := ?_) #[true, true, true, true, true, true, true, true, true, false, false, false, false, false, false, false, false, false, false, false, false, false, false, false] rfl rfl (any_of HT_.out (by kernel_rfl)) (fun _ _ _ h => h) (Or.inl ⟨by rfl, ?_⟩) ?_ ?_
                            rotate_left
                            · intro w'
                              go_simp
                              with_reducible rfl
                            rotate_left
                            · simp only [Act.put, List.setIfInBounds_toArray, List.set_cons_zero, List.set_cons_succ, i64_w, i32_w]
                              rfl
                            refine pure_ (i := 9) (N := some 69) (v := ?_) (a' := ?_) #[true, true, true, true, true, true, true, true, true, true, false, false, false, false, false, false, false, false, false, false, false, false, false, false] rfl rfl (any_of HT_.out (by kernel_rfl)) (fun _ _ _ h => h) (Or.inl ⟨by rfl, ?_⟩) ?_ ?_
                            rotate_left
                            · intro w'
                              go_simp
                              with_reducible rfl
                            rotate_left
                            · simp only [Act.put, List.setIfInBounds_toArray, List.set_cons_zero, List.set_cons_succ, i64_w, i32_w]
                              rfl
                            refine pure_ (i := 10) (N := some 70) (v := undef) (a' := ?_) #[true, true, true, true, true, true, true, true, true, true, true, false, false, false, false, false, false, false, false, false, false, false, false, false] rfl rfl (any_of HT_.out (by kernel_rfl)) (fun _ _ _ h => h) (Or.inr ⟨by rfl, rfl⟩) ?_ ?_
                            rotate_left
                            · simp only [Act.put, List.setIfInBounds_toArray, List.set_cons_zero, List.set_cons_succ, i64_w, i32_w]
                              rfl
                            refine pure_ (i := 11) (N := some 71) (v := undef) (a' := ?_) #[true, true, true, true, true, true, true, true, true, true, true, true, false, false, false, false, false, false, false, false, false, false, false, false] rfl rfl (any_of HT_.out (by kernel_rfl)) (fun _ _ _ h => h) (Or.inr ⟨by rfl, rfl⟩) ?_ ?_
                            rotate_left
                            · simp only [Act.put, List.setIfInBounds_toArray, List.set_cons_zero, List.set_cons_succ, i64_w, i32_w]
                              rfl
                            refine pure_ (i := 12) (N := some 72) (v := undef) (a' := ?_) #[true, true, true, true, true, true, true, true, true, true, true, true, true, false, false, false, false, false, false, false, false, false, false, false] rfl rfl (any_of HT_.out (by kernel_rfl)) (fun _ _ _ h => h) (Or.inr ⟨by rfl, rfl⟩) ?_ ?_
                            rotate_left
                            · simp only [Act.put, List.setIfInBounds_toArray, List.set_cons_zero, List.set_cons_succ, i64_w, i32_w]
                              rfl
                            refine pure_ (i := 13) (N := some 73) (v := undef) (a' := ?_) #[true, true, true, true, true, true, true, true, true, true, true, true, true, true, false, false, false, false, false, false, false, false, false, false] rfl rfl (any_of HT_.out (by kernel_rfl)) (fun _ _ _ h => h) (Or.inr ⟨by rfl, rfl⟩) ?_ ?_
                            rotate_left
                            · simp only [Act.put, List.setIfInBounds_toArray, List.set_cons_zero, List.set_cons_succ, i64_w, i32_w]
                              rfl
                            refine pure_ (i := 14) (N := some 74) (v := undef) (a' := ?_) #[true, true, true, true, true, true, true, true, true, true, true, true, true, true, true, false, false, false, false, false, false, false, false, false] rfl rfl (any_of HT_.out (by kernel_rfl)) (fun _ _ _ h => h) (Or.inr ⟨by rfl, rfl⟩) ?_ ?_
                            rotate_left
                            · simp only [Act.put, List.setIfInBounds_toArray, List.set_cons_zero, List.set_cons_succ, i64_w, i32_w]
                              rfl
                            refine pure_ (i := 15) (N := some 75) (v := undef) (a' := ?_) #[true, true, true, true, true, true, true, true, true, true, true, true, true, true, true, true, false, false, false, false, false, false, false, false] rfl rfl (any_of HT_.out (by kernel_rfl)) (fun _ _ _ h => h) (Or.inr ⟨by rfl, rfl⟩) ?_ ?_
                            rotate_left
                            · simp only [Act.put, List.setIfInBounds_toArray, List.set_cons_zero, List.set_cons_succ, i64_w, i32_w]
                              rfl
                            refine pure_ (i := 16) (N := some 76) (v := undef) (a' := ?_) #[true, true, true, true, true, true, true, true, true, true, true, true, true, true, true, true, true, false, false, false, false, false, false, false] rfl rfl (any_of HT_.out (by kernel_rfl)) (fun _ _ _ h => h) (Or.inr ⟨by rfl, rfl⟩) ?_ ?_
                            rotate_left
                            · simp only [Act.put, List.setIfInBounds_toArray, List.set_cons_zero, List.set_cons_succ, i64_w, i32_w]
                              rfl
                            refine pure_ (i := 17) (N := some 77) (v := undef) (a' := ?_) #[true, true, true, true, true, true, true, true, true, true, true, true, true, true, true, true, true, true, false, false, false, false, false, false] rfl rfl (any_of HT_.out (by kernel_rfl)) (fun _ _ _ h => h) (Or.inr ⟨by rfl, rfl⟩) ?_ ?_
                            rotate_left
                            · simp only [Act.put, List.setIfInBounds_toArray, List.set_cons_zero, List.set_cons_succ, i64_w, i32_w]
                              rfl
                            refine pure_ (i := 18) (N := some 78) (v := undef) (a' := ?_) #[true, true, true, true, true, true, true, true, true, true, true, true, true, true, true, true, true, true, true, false, false, false, false, false] rfl rfl (any_of HT_.out (by kernel_rfl)) (fun _ _ _ h => h) (Or.inr ⟨by rfl, rfl⟩) ?_ ?_
                            rotate_left
                            · simp only [Act.put, List.setIfInBounds_toArray, List.set_cons_zero, List.set_cons_succ, i64_w, i32_w]
                              rfl
                            refine pure_ (i := 19) (N := some 79) (v := undef) (a' := ?_) #[true, true, true, true, true, true, true, true, true, true, true, true, true, true, true, true, true, true, true, true, false, false, false, false] rfl rfl (any_of HT_.out (by kernel_rfl)) (fun _ _ _ h => h) (Or.inr ⟨by rfl, rfl⟩) ?_ ?_
                            rotate_left
                            · simp only [Act.put, List.setIfInBounds_toArray, List.set_cons_zero, List.set_cons_succ, i64_w, i32_w]
                              rfl
                            refine pure_ (i := 20) (N := some 80) (v := undef) (a' := ?_) #[true, true, true, true, true, true, true, true, true, true, true, true, true, true, true, true, true, true, true, true, true, false, false, false] rfl rfl (any_of HT_.out (by kernel_rfl)) (fun _ _ _ h => h) (Or.inr ⟨by rfl, rfl⟩) ?_ ?_
                            rotate_left
                            · simp only [Act.put, List.setIfInBounds_toArray, List.set_cons_zero, List.set_cons_succ, i64_w, i32_w]
                              rfl
                            refine pure_ (i := 21) (N := some 81) (v := undef) (a' := ?_) #[true, true, true, true, true, true, true, true, true, true, true, true, true, true, true, true, true, true, true, true, true, true, false, false] rfl rfl (any_of HT_.out (by kernel_rfl)) (fun _ _ _ h => h) (Or.inr ⟨by rfl, rfl⟩) ?_ ?_
                            rotate_left
                            · simp only [Act.put, List.setIfInBounds_toArray, List.set_cons_zero, List.set_cons_succ, i64_w, i32_w]
                              rfl
                            refine pure_ (i := 22) (N := some 82) (v := undef) (a' := ?_) #[true, true, true, true, true, true, true, true, true, true, true, true, true, true, true, true, true, true, true, true, true, true, true, false] rfl rfl (any_of HT_.out (by kernel_rfl)) (fun _ _ _ h => h) (Or.inr ⟨by rfl, rfl⟩) ?_ ?_
                            rotate_left
                            · simp only [Act.put, List.setIfInBounds_toArray, List.set_cons_zero, List.set_cons_succ, i64_w, i32_w]
                              rfl
                            refine pure_ (i := 23) (N := some 83) (v := ?_) (a' := ?_) #[true, true, true, true, true, true, true, true, true, true, true, true, true, true, true, true, true, true, true, true, true, true, true, true] rfl rfl (any_of HT_.out (by kernel_rfl)) (fun _ _ _ h => h) (Or.inl ⟨by rfl, ?_⟩) ?_ ?_
                            rotate_left
                            · intro w'
                              go_simp
                              with_reducible rfl
                            rotate_left
                            · simp only [Act.put, List.setIfInBounds_toArray, List.set_cons_zero, List.set_cons_succ, i64_w, i32_w]
                              rfl
                            refine done_ (done_of HT_.out (by kernel_rfl)) ?_
                            try go_wp2
                            go_meet
                            case rel => exact ⟨_, (false), (by first | rfl | (simp; done) | (simp [*]; done)), H', ⟨by have := HK1.out; have := HJ25.out; first | omega | exact Nat.le_refl _⟩, ⟨by (with_reducible repeat (first | refine blk_drewN ?_ _ | refine blk_drew ?_ | refine blk_alloc ?_ _)); exact BK355.out⟩, ⟨by repeat (first | (with_reducible first | exact HB.out | apply below_alloc | apply pw_below_drewN | apply below_drew1 | refine below_set ?_ GE355.out) | exact HB.out)⟩⟩
                        · rw [if_neg c38] at H
                          exact absurd H (by simp)
                      · rw [if_neg c37] at H
                        exact absurd H (by simp)
                  case rest =>
                    clear HC31
                    try clear p2
                    try clear c3
                    try clear p3
                    try clear q3
                    try clear hx3
                    try clear c4
                    try clear c32
                    try clear c32b0
                    try clear c33
                    try clear c34
                    try clear p36
                    try clear q36
                    try clear hx36
                    try clear c37
                    try clear c37b0
                    try clear c37b1
                    try clear c38
                    try clear c38b0
                    try clear c38b1
                    try clear q39
                    try clear c40
                    try clear c43
                    try clear hx366_0
                    try clear hx366_1
                    try clear hx366_2
                    try clear hx367_0
                    try clear hx367_1
                    try clear hx367_2
                    try clear hx369_0
                    try clear hx369_1
                    try clear hx369_2
                    try clear p366
                    try clear p367
                    try clear p369
                    try clear q366
                    try clear q367
                    try clear q369
                    obtain ⟨kq, x83_30, rfl, HA, HJ30, BK355, HB⟩ := hcut
                    cases kq with
                    | zero => exact absurd HA.out (by simp [cippuslaw07_walkt.j3])
                    | succ kj30 =>
                      have H := HA.out
                      clear HA
                      simp only [cippuslaw07_walkt.j3] at H
                      by_cases c44 : x83_30 = true
                      · subst c44
                        have H1 : ((cippuskit_Ints.f l1_1).bind fun t370 => ((some (([x9_1] : List Int) : List Int)).bind fun y373 => (if t370.length + y373.length < 17592186044416 then ((cippuslaw07_walku.f l0 a1_0 (t370 ++ y373) x2_1).bind fun t379 => (cippuslaw07_walkt.l1 kj30 l0 t379 (l1_1.length : Int) (wrap64 (x9_1 + 1)) a1_0 l1_1)) else (none)))) = some r := by rw [if_pos rfl] at H; exact H
                        clear H
                        have H := H1
                        clear H1
                        replace H := Option.bind_eq_some_iff.mp H
                        obtain ⟨t370, A450, H⟩ := H
                        replace H : ((some (([x9_1] : List Int) : List Int)).bind fun y373 => (if t370.length + y373.length < 17592186044416 then ((cippuslaw07_walku.f l0 a1_0 (t370 ++ y373) x2_1).bind fun t379 => (cippuslaw07_walkt.l1 kj30 l0 t379 (l1_1.length : Int) (wrap64 (x9_1 + 1)) a1_0 l1_1)) else (none))) = some r := H
                        have A45 := Aside0.mk A450
                        clear A450
                        obtain ⟨y373, hy373⟩ : ∃ y_ : List Int, y_ = (([x9_1] : List Int)) := ⟨_, rfl⟩
                        replace H : (if t370.length + y373.length < 17592186044416 then ((cippuslaw07_walku.f l0 a1_0 (t370 ++ y373) x2_1).bind fun t379 => (cippuslaw07_walkt.l1 kj30 l0 t379 (l1_1.length : Int) (wrap64 (x9_1 + 1)) a1_0 l1_1)) else (none)) = some r := by first | (rw [hy373]; with_reducible exact H) | (have H2_ := (Option.bind_some _ _).symm.trans H; rw [hy373]; with_reducible exact H2_) | (have H2_ := (Option.bind_some _ _).symm.trans H; with_reducible exact H2_) | with_reducible exact H | (rw [hy373]; exact H) | exact H
                        have Ny373 := Aside0.mk hy373
                        clear hy373
                        by_cases c46 : t370.length + y373.length < 17592186044416
                        · rw [if_pos c46] at H
                          have LMc46 := Aside0.mk c46
                          clear c46
                          obtain ⟨y376, hy376⟩ : ∃ y_ : List Int, y_ = (t370 ++ y373) := ⟨_, rfl⟩
                          replace H : ((cippuslaw07_walku.f l0 a1_0 y376 x2_1).bind fun t379 => (cippuslaw07_walkt.l1 kj30 l0 t379 (l1_1.length : Int) (wrap64 (x9_1 + 1)) a1_0 l1_1)) = some r := by first | (rw [hy376]; with_reducible exact H) | (have H2_ := (Option.bind_some _ _).symm.trans H; rw [hy376]; with_reducible exact H2_) | (have H2_ := (Option.bind_some _ _).symm.trans H; with_reducible exact H2_) | with_reducible exact H | (rw [hy376]; exact H) | exact H
                          have Ny376 := Aside0.mk hy376
                          clear hy376
                          replace H := Option.bind_eq_some_iff.mp H
                          obtain ⟨t379, A470, H⟩ := H
                          replace H : (cippuslaw07_walkt.l1 kj30 l0 t379 (l1_1.length : Int) (wrap64 (x9_1 + 1)) a1_0 l1_1) = some r := H
                          have A47 := Aside0.mk A470
                          clear A470
                          have H' := Aside0.mk H
                          clear H
                          have HY : Aside0 (y376.length = l1_1.length + 1) := ⟨by rw [Ny376.out, Ny373.out, List.length_append, ← Option.some.inj ((ints_eq l1_1 (by have := HOK.out.len; have := HOK.out.vl.five; omega)).symm.trans A45.out)]; rfl⟩
                          try go_wp2
                          have n0_ := Aside0.mk (blk_drew BK355.out)
                          have n1_ := Aside0.mk (below_drew1 HB.out)
                          clear BK355
                          clear HB
                          have BK355 := n0_
                          have HB := n1_
                          clear n0_ n1_
                          refine start_ (n := 13) (S := fun w' => w'.cell? ⟨gb355, 0, none⟩ = some (.string a1_0) ∧ w'.cell? ⟨gb355, 1, none⟩ = some (.slice A1_1 l1_1.length c1_1)) (ds := []) #[false, false, false, false, false, false, false, false, false, false, false, false, false] (by kernel_rfl) rfl rfl ⟨(blk_cell BK355.out 0).trans rfl, (blk_cell BK355.out 1).trans rfl⟩ (fun hHeld => ?_); refine with_tabW cippuslaw07_walkt.tab17 cippuslaw07_walkt.bits17 (fun HT_ HW_ => ?_)
                          generalize wc.drew = w48 at BK355 HB hHeld ⊢
                          refine pure_ (i := 0) (N := some 84) (v := ?_) (a' := ?_) #[true, false, false, false, false, false, false, false, false, false, false, false, false] rfl rfl (any_of HT_.out (by kernel_rfl)) (fun _ _ _ h => h) (Or.inl ⟨by rfl, ?_⟩) ?_ ?_
                          rotate_left
                          · intro w'
                            go_simp
                            with_reducible rfl
                          rotate_left
                          · simp only [Act.put, List.setIfInBounds_toArray, List.set_cons_zero, List.set_cons_succ, i64_w, i32_w]
                            rfl
                          refine pure_ (i := 1) (N := some 85) (v := ?_) (a' := ?_) #[true, true, false, false, false, false, false, false, false, false, false, false, false] rfl rfl (any_of HT_.out (by kernel_rfl)) (fun _ _ _ h => h) (Or.inl ⟨by rfl, ?_⟩) ?_ ?_
                          rotate_left
                          · intro w'
                            go_simp
                            with_reducible rfl
                          rotate_left
                          · simp only [Act.put, List.setIfInBounds_toArray, List.set_cons_zero, List.set_cons_succ, i64_w, i32_w]
                            rfl
                          refine pure_ (i := 3) (N := some 87) (v := ?_) (a' := ?_) #[true, true, false, true, false, false, false, false, false, false, false, false, false] rfl rfl (any_of HT_.out (by kernel_rfl)) (fun _ _ _ h => h) (Or.inl ⟨by rfl, ?_⟩) ?_ ?_
                          rotate_left
                          · intro w'
                            go_simp
                            with_reducible rfl
                          rotate_left
                          · simp only [Act.put, List.setIfInBounds_toArray, List.set_cons_zero, List.set_cons_succ, i64_w, i32_w]
                            rfl
                          refine pure_ (i := 6) (N := some 90) (v := ?_) (a' := ?_) #[true, true, false, true, false, false, true, false, false, false, false, false, false] rfl rfl (any_of HT_.out (by kernel_rfl)) (fun _ _ _ h => h) (Or.inl ⟨by rfl, ?_⟩) ?_ ?_
                          rotate_left
                          · intro w'
                            go_simp
                            with_reducible rfl
                          rotate_left
                          · simp only [Act.put, List.setIfInBounds_toArray, List.set_cons_zero, List.set_cons_succ, i64_w, i32_w]
                            rfl
                          refine pure_ (i := 10) (N := some 94) (v := ?_) (a' := ?_) #[true, true, false, true, false, false, true, false, false, false, true, false, false] rfl rfl (any_of HT_.out (by kernel_rfl)) (fun _ _ _ h => h) (Or.inl ⟨by rfl, ?_⟩) ?_ ?_
                          rotate_left
                          · intro w'
                            go_simp
                            with_reducible rfl
                          rotate_left
                          · simp only [Act.put, List.setIfInBounds_toArray, List.set_cons_zero, List.set_cons_succ, i64_w, i32_w]
                            rfl
                          refine take_ (i := 2) (N := some 86) (v := ?_) (a' := ?_) #[true, true, true, true, false, false, true, false, false, false, true, false, false] rfl rfl (take_ofW HT_.out HW_.out (by kernel_rfl)) (fun _ _ _ h => h) (Or.inl ⟨by rfl, ?_⟩) hHeld ?_ ?_
                          rotate_left
                          · rintro w' ⟨s0, s1⟩
                            go_simp
                            with_reducible rfl
                          rotate_left
                          · simp only [Act.put, List.setIfInBounds_toArray, List.set_cons_zero, List.set_cons_succ, i64_w, i32_w]
                            rfl
                          refine take_ (i := 4) (N := some 88) (v := ?_) (a' := ?_) #[true, true, true, true, true, false, true, false, false, false, true, false, false] rfl rfl (take_ofW HT_.out HW_.out (by kernel_rfl)) (fun _ _ _ h => h) (Or.inl ⟨by rfl, ?_⟩) hHeld ?_ ?_
                          rotate_left
                          · rintro w' ⟨s0, s1⟩
                            go_simp
                            with_reducible rfl
                          rotate_left
                          · simp only [Act.put, List.setIfInBounds_toArray, List.set_cons_zero, List.set_cons_succ, i64_w, i32_w]
                            rfl
                          refine join_ (σ := Value × Value) 4 #[true, true, true, true, true, true, true, true, false, false, true, false, false] (fun s_ => [(89, s_.1), (91, s_.2)]) (fun s_ w' => (w'.cell? ⟨gb355, 0, none⟩ = some (.string a1_0) ∧ w'.cell? ⟨gb355, 1, none⟩ = some (.slice A1_1 l1_1.length c1_1)) ∧ (Kd.R (Kd.int .i64) 3 w' wr.heap.size (fun k_ => some k_ ≠ (s_.2 : Value).ownBlock) s_.1 t370) ∧ (Kd.R (Kd.int .i64) 3 w' wr.heap.size (fun k_ => some k_ ≠ (s_.1 : Value).ownBlock) s_.2 y373) ∧ (w'.heap[gb355]? = some (.cells #[.string a1_0, .slice A1_1 l1_1.length c1_1] 27 (0, 0))) ∧ (Below wr.heap.size wr w')) ?_ ?_
                          rotate_left
                          · intro hCont
                            refine two_ (i := 5) (j := 7) (Ni := some 89) (Nj := some 91) #[true, true, true, true, true, true, true, false, false, false, true, false, false] #[true, true, true, true, true, false, true, true, false, false, true, false, false] rfl rfl rfl rfl (two_of HT_.out (by kernel_rfl)) (by decide) (by decide) (fun K hK => ?_) (fun K hK => ?_)
                            · skip
                              refine goes_ Try.func59 (by kernel_rfl) rfl #[.slice A1_1 l1_1.length c1_1] (by rfl) rfl rfl (by (try simp only [List.map_toArray, List.map_cons, List.map_nil]); first | done | rfl | (simp only [List.length_drop, List.length_take]; rfl)) ?_
                              with_reducible refine (cippuskit_Ints.calls _ _ l1_1 t370 _ ?side1 ?side2 A45.out).mono ?_
                              (case side1 => repeat (first | exact (Kd.C_below HR1_1.out HB.out) | (with_reducible refine Kd.C_alloc ?_ _) | (with_reducible refine Kd.C_drewN ?_ _) | (with_reducible refine Kd.C_drew ?_)))
                              (case side2 => exact HC1_1.out)
                              rintro e w49 ⟨v371, rfl, ho0, hb⟩
                              refine ⟨_, rfl, ?_⟩
                              have n0_ := Aside0.mk (Kd.R_lower ho0 (below_size (by repeat (first | (with_reducible first | exact HB.out | apply below_alloc | apply pw_below_drewN | apply below_drew1 | refine below_set ?_ GE355.out) | exact HB.out))))
                              have n1_ := Aside0.mk (blk_below (g := gb355) (o := .cells #[.string a1_0, .slice A1_1 l1_1.length c1_1] 27 (0, 0)) (by (with_reducible repeat (first | refine blk_drewN ?_ _ | refine blk_drew ?_ | refine blk_alloc ?_ _)); exact BK355.out) hb)
                              have n2_ := Aside0.mk (below_step (by repeat (first | (with_reducible first | exact HB.out | apply below_alloc | apply pw_below_drewN | apply below_drew1 | refine below_set ?_ GE355.out) | exact HB.out)) hb)
                              clear BK355
                              clear HB
                              have HO372 := n0_
                              have BK355 := n1_
                              have HB := n2_
                              clear n0_ n1_ n2_
                              (try clear hb)
                              (try clear hb2)
                              (try clear hk)
                              (try clear hi)
                              (try clear ho0)
                              refine hK.out _ _ ⟨(blk_cell BK355.out 0).trans rfl, (blk_cell BK355.out 1).trans rfl⟩ (fun hHeld => ?_)
                              clear hK K
                              refine norm_ (a' := ?_) ?_ ?_
                              rotate_left
                              · show Act.put _ (some 89) _ = _
                                simp only [Act.put, List.setIfInBounds_toArray, List.set_cons_zero, List.set_cons_succ, i64_w, i32_w]
                                rfl
                              refine one_ (i := 7) (N := some 91) #[true, true, true, true, true, true, true, true, false, false, true, false, false] rfl rfl (one_of HT_.out (by kernel_rfl)) (by decide) (fun K hK => ?_)
                              refine Kd.R_lit_step (Kd.int .i64) _ 3 ?hg (N := 91) ?hd (xs := ([x9_1] : List Int)) (inner := [.int .i64 x9_1]) (ok := fun _ => True) (okp := fun _ => True) ?hr ?hp (fun _ hk => hk) trivial (Below.refl _ _) (Nat.le_refl _) (by simp) ?_; (case hd => rfl); (case hg => rfl); (case hr => first | (go_simp; done) | (go_simp; rfl)); (case hp => exact (Reps.one (show Kd.M (Kd.int .i64) _ _ _ x9_1 [.int .i64 x9_1] from rfl) (Reps.none _ _)))
                              intro v374 w50 ho51 hb hg_ hnew_
                              clear hg_ hnew_
                              (first | rw [← Ny373.out] at ho51 | (simp only [Int.reduceToNat] at ho51; rw [← Ny373.out] at ho51))
                              have n0_ := Aside0.mk (Kd.R_elder' (by (with_reducible repeat (first | apply Kd.R_alloc | apply Kd.R_drewN | apply Kd.R_drew)); exact HO372.out) (Kd.R_base ho51) hb)
                              have n1_ := Aside0.mk (Kd.R_lower (Kd.R_new' ho51 (Kd.R_lt (by (with_reducible repeat (first | apply Kd.R_alloc | apply Kd.R_drewN | apply Kd.R_drew)); exact HO372.out))) (below_size (by repeat (first | (with_reducible first | exact HB.out | apply below_alloc | apply pw_below_drewN | apply below_drew1 | refine below_set ?_ GE355.out) | exact HB.out))))
                              have n2_ := Aside0.mk (blk_below (g := gb355) (o := .cells #[.string a1_0, .slice A1_1 l1_1.length c1_1] 27 (0, 0)) (by (with_reducible repeat (first | refine blk_drewN ?_ _ | refine blk_drew ?_ | refine blk_alloc ?_ _)); exact BK355.out) hb)
                              have n3_ := Aside0.mk (below_step (by repeat (first | (with_reducible first | exact HB.out | apply below_alloc | apply pw_below_drewN | apply below_drew1 | refine below_set ?_ GE355.out) | exact HB.out)) hb)
                              clear HO372
                              clear BK355
                              clear HB
                              have HO372 := n0_
                              have HO375 := n1_
                              have BK355 := n2_
                              have HB := n3_
                              clear n0_ n1_ n2_ n3_
                              clear hb ho51
                              refine hK.out _ _ ⟨(blk_cell BK355.out 0).trans rfl, (blk_cell BK355.out 1).trans rfl⟩ (fun hHeld => ?_)
                              clear hK K
                              refine norm_ (a' := ?_) ?_ ?_
                              rotate_left
                              · show Act.put _ (some 91) _ = _
                                simp only [Act.put, List.setIfInBounds_toArray, List.set_cons_zero, List.set_cons_succ, i64_w, i32_w]
                                rfl
                              exact norm_ (by simp only [putAll, Act.put, List.setIfInBounds_toArray, List.set_cons_zero, List.set_cons_succ]) (hCont (v371, v374) _ ⟨hHeld, (by (with_reducible repeat (first | apply Kd.R_alloc | apply Kd.R_drewN | apply Kd.R_drew)); exact Kd.R_mono HO372.out (fun _ hk => hk.2)), (by (with_reducible repeat (first | apply Kd.R_alloc | apply Kd.R_drewN | apply Kd.R_drew)); exact Kd.R_mono HO375.out (fun _ hk => hk.2)), (by (with_reducible repeat (first | refine blk_drewN ?_ _ | refine blk_drew ?_ | refine blk_alloc ?_ _)); exact BK355.out), (by repeat (first | (with_reducible first | exact HB.out | apply below_alloc | apply pw_below_drewN | apply below_drew1 | refine below_set ?_ GE355.out) | exact HB.out))⟩)
                            · skip
                              refine Kd.R_lit_step (Kd.int .i64) _ 3 ?hg (N := 91) ?hd (xs := ([x9_1] : List Int)) (inner := [.int .i64 x9_1]) (ok := fun _ => True) (okp := fun _ => True) ?hr ?hp (fun _ hk => hk) trivial (Below.refl _ _) (Nat.le_refl _) (by simp) ?_; (case hd => rfl); (case hg => rfl); (case hr => first | (go_simp; done) | (go_simp; rfl)); (case hp => exact (Reps.one (show Kd.M (Kd.int .i64) _ _ _ x9_1 [.int .i64 x9_1] from rfl) (Reps.none _ _)))
                              intro v374 w49 ho50 hb hg_ hnew_
                              clear hg_ hnew_
                              (first | rw [← Ny373.out] at ho50 | (simp only [Int.reduceToNat] at ho50; rw [← Ny373.out] at ho50))
                              have n0_ := Aside0.mk (Kd.R_lower ho50 (below_size (by repeat (first | (with_reducible first | exact HB.out | apply below_alloc | apply pw_below_drewN | apply below_drew1 | refine below_set ?_ GE355.out) | exact HB.out))))
                              have n1_ := Aside0.mk (blk_below (g := gb355) (o := .cells #[.string a1_0, .slice A1_1 l1_1.length c1_1] 27 (0, 0)) (by (with_reducible repeat (first | refine blk_drewN ?_ _ | refine blk_drew ?_ | refine blk_alloc ?_ _)); exact BK355.out) hb)
                              have n2_ := Aside0.mk (below_step (by repeat (first | (with_reducible first | exact HB.out | apply below_alloc | apply pw_below_drewN | apply below_drew1 | refine below_set ?_ GE355.out) | exact HB.out)) hb)
                              clear BK355
                              clear HB
                              have HO375 := n0_
                              have BK355 := n1_
                              have HB := n2_
                              clear n0_ n1_ n2_
                              clear hb ho50
                              refine hK.out _ _ ⟨(blk_cell BK355.out 0).trans rfl, (blk_cell BK355.out 1).trans rfl⟩ (fun hHeld => ?_)
                              clear hK K
                              refine norm_ (a' := ?_) ?_ ?_
                              rotate_left
                              · show Act.put _ (some 91) _ = _
                                simp only [Act.put, List.setIfInBounds_toArray, List.set_cons_zero, List.set_cons_succ, i64_w, i32_w]
                                rfl
                              refine one_ (i := 5) (N := some 89) #[true, true, true, true, true, true, true, true, false, false, true, false, false] rfl rfl (one_of HT_.out (by kernel_rfl)) (by decide) (fun K hK => ?_)
                              refine goes_ Try.func59 (by kernel_rfl) rfl #[.slice A1_1 l1_1.length c1_1] (by rfl) rfl rfl (by (try simp only [List.map_toArray, List.map_cons, List.map_nil]); first | done | rfl | (simp only [List.length_drop, List.length_take]; rfl)) ?_
                              with_reducible refine (cippuskit_Ints.calls _ _ l1_1 t370 _ ?side1 ?side2 A45.out).mono ?_
                              (case side1 => repeat (first | exact (Kd.C_below HR1_1.out HB.out) | (with_reducible refine Kd.C_alloc ?_ _) | (with_reducible refine Kd.C_drewN ?_ _) | (with_reducible refine Kd.C_drew ?_)))
                              (case side2 => exact HC1_1.out)
                              rintro e w51 ⟨v371, rfl, ho0, hb⟩
                              refine ⟨_, rfl, ?_⟩
                              have n0_ := Aside0.mk (Kd.R_elder' (by (with_reducible repeat (first | apply Kd.R_alloc | apply Kd.R_drewN | apply Kd.R_drew)); exact HO375.out) (Kd.R_base ho0) hb)
                              have n1_ := Aside0.mk (Kd.R_lower (Kd.R_new' ho0 (Kd.R_lt (by (with_reducible repeat (first | apply Kd.R_alloc | apply Kd.R_drewN | apply Kd.R_drew)); exact HO375.out))) (below_size (by repeat (first | (with_reducible first | exact HB.out | apply below_alloc | apply pw_below_drewN | apply below_drew1 | refine below_set ?_ GE355.out) | exact HB.out))))
                              have n2_ := Aside0.mk (blk_below (g := gb355) (o := .cells #[.string a1_0, .slice A1_1 l1_1.length c1_1] 27 (0, 0)) (by (with_reducible repeat (first | refine blk_drewN ?_ _ | refine blk_drew ?_ | refine blk_alloc ?_ _)); exact BK355.out) hb)
                              have n3_ := Aside0.mk (below_step (by repeat (first | (with_reducible first | exact HB.out | apply below_alloc | apply pw_below_drewN | apply below_drew1 | refine below_set ?_ GE355.out) | exact HB.out)) hb)
                              clear HO375
                              clear BK355
                              clear HB
                              have HO375 := n0_
                              have HO372 := n1_
                              have BK355 := n2_
                              have HB := n3_
                              clear n0_ n1_ n2_ n3_
                              (try clear hb)
                              (try clear hb2)
                              (try clear hk)
                              (try clear hi)
                              (try clear ho0)
                              refine hK.out _ _ ⟨(blk_cell BK355.out 0).trans rfl, (blk_cell BK355.out 1).trans rfl⟩ (fun hHeld => ?_)
                              clear hK K
                              refine norm_ (a' := ?_) ?_ ?_
                              rotate_left
                              · show Act.put _ (some 89) _ = _
                                simp only [Act.put, List.setIfInBounds_toArray, List.set_cons_zero, List.set_cons_succ, i64_w, i32_w]
                                rfl
                              exact norm_ (by simp only [putAll, Act.put, List.setIfInBounds_toArray, List.set_cons_zero, List.set_cons_succ]) (hCont (v371, v374) _ ⟨hHeld, (by (with_reducible repeat (first | apply Kd.R_alloc | apply Kd.R_drewN | apply Kd.R_drew)); exact Kd.R_mono HO372.out (fun _ hk => hk.2)), (by (with_reducible repeat (first | apply Kd.R_alloc | apply Kd.R_drewN | apply Kd.R_drew)); exact Kd.R_mono HO375.out (fun _ hk => hk.2)), (by (with_reducible repeat (first | refine blk_drewN ?_ _ | refine blk_drew ?_ | refine blk_alloc ?_ _)); exact BK355.out), (by repeat (first | (with_reducible first | exact HB.out | apply below_alloc | apply pw_below_drewN | apply below_drew1 | refine below_set ?_ GE355.out) | exact HB.out))⟩)
                          rintro ⟨v371, v374⟩ w52 ⟨hS_, h0_, h1_, h2_, h3_⟩
                          have n0_ : Aside0 (Kd.R (Kd.int .i64) 3 w52 wr.heap.size (fun k_ => some k_ ≠ (v374 : Value).ownBlock) v371 t370) := ⟨h0_⟩
                          have n1_ : Aside0 (Kd.R (Kd.int .i64) 3 w52 wr.heap.size (fun k_ => some k_ ≠ (v371 : Value).ownBlock) v374 y373) := ⟨h1_⟩
                          have n2_ : Aside0 (w52.heap[gb355]? = some (.cells #[.string a1_0, .slice A1_1 l1_1.length c1_1] 27 (0, 0))) := ⟨h2_⟩
                          have n3_ : Aside0 (Below wr.heap.size wr w52) := ⟨h3_⟩
                          clear BK355
                          clear HB
                          clear h0_ h1_ h2_ h3_
                          have HO372 := n0_
                          have HO375 := n1_
                          have BK355 := n2_
                          have HB := n3_
                          clear n0_ n1_ n2_ n3_
                          have hHeld : w52.cell? ⟨gb355, 0, none⟩ = some (.string a1_0) ∧ w52.cell? ⟨gb355, 1, none⟩ = some (.slice A1_1 l1_1.length c1_1) := hS_
                          obtain ⟨Ao54, co54, eo54⟩ := Kd.R_slice HO375.out
                          (first | subst eo54 | (injection eo54 with f1_ f2_ f3_; have f4_ := f1_.symm; have f5_ := f3_.symm; clear f1_ f2_ f3_; subst f4_; subst f5_))
                          refine norm_ (a' := ?_) ?_ ?_
                          rotate_left
                          · simp only [putAll, Act.put, List.setIfInBounds_toArray, List.set_cons_zero, List.set_cons_succ]
                            rfl
                          refine one_ (i := 8) (N := some 92) #[true, true, true, true, true, true, true, true, true, false, true, false, false] rfl rfl (one_of HT_.out (by kernel_rfl)) (by decide) (fun K hK => ?_)
                          refine Kd.R_append_rows_step (Kd.int .i64) (w0 := wr) wr.heap.size (by rfl) (.tmp 89) (.tmp 91) 25 3 (.int .i64 0) 8 rfl Try.underlying25 info3 rfl (by decide) (by omega) v371 t370 y373 _ _ _ (fun k_ => some k_ ≠ (.slice Ao54 y373.length co54 : Value).ownBlock) (fun _ => False) rfl rfl ?aO ?aR (fun _ _ h => h) (fun _ h => h.elim) ?aF ?aB ?aS ?aL ?_
                          (case aR => repeat (first | exact (Kd.R_reads' HO375.out).2.2 | (with_reducible refine Kd.C_alloc ?_ _) | (with_reducible refine Kd.C_drewN ?_ _) | (with_reducible refine Kd.C_drew ?_)))
                          (case aB => exact (by repeat (first | (with_reducible first | exact HB.out | apply below_alloc | apply pw_below_drewN | apply below_drew1 | refine below_set ?_ GE355.out) | exact HB.out)))
                          (case aF => exact (fun k_ hk => Kd.fresh' (Kd.R_lt (by (with_reducible repeat (first | apply Kd.R_alloc | apply Kd.R_drewN | apply Kd.R_drew)); exact HO375.out)) k_ hk))
                          (case aO => exact (by (with_reducible repeat (first | apply Kd.R_alloc | apply Kd.R_drewN | apply Kd.R_drew)); exact HO372.out))
                          (case aS => exact (below_size (by repeat (first | (with_reducible first | exact HB.out | apply below_alloc | apply pw_below_drewN | apply below_drew1 | refine below_set ?_ GE355.out) | exact HB.out))))
                          (case aL => have := LMc46.out; omega)
                          intro v377 w53 ho hb hg hat
                          rw [← Ny376.out] at ho
                          have n0_ := Aside0.mk (blk_grown (g := gb355) (o := .cells #[.string a1_0, .slice A1_1 l1_1.length c1_1] 27 (0, 0)) (by (with_reducible repeat (first | refine blk_drewN ?_ _ | refine blk_drew ?_ | refine blk_alloc ?_ _)); exact BK355.out) hg (Kd.R_ne HO372.out BK355.out (by decide)))
                          have n1_ := Aside0.mk (Kd.R_after (ok := (fun _ => True)) (by (with_reducible repeat (first | apply Kd.R_alloc | apply Kd.R_drewN | apply Kd.R_drew)); exact Kd.R_mono HO375.out (fun _ hk => ⟨trivial, hk⟩)) hg hat)
                          have n2_ := Aside0.mk (hb)
                          have n3_ := Aside0.mk (ho)
                          clear BK355
                          clear HO375
                          clear HB
                          clear HO372
                          have BK355 := n0_
                          have HO375 := n1_
                          have HB := n2_
                          have HO378 := n3_
                          clear n0_ n1_ n2_ n3_
                          clear ho hb hg hat
                          obtain ⟨Ao55, co55, eo55⟩ := Kd.R_slice HO378.out
                          (first | subst eo55 | (injection eo55 with f1_ f2_ f3_; have f4_ := f1_.symm; have f5_ := f3_.symm; clear f1_ f2_ f3_; subst f4_; subst f5_))
                          refine hK.out _ _ ⟨(blk_cell BK355.out 0).trans rfl, (blk_cell BK355.out 1).trans rfl⟩ (fun hHeld => ?_)
                          clear hK K
                          refine norm_ (a' := ?_) ?_ ?_
                          rotate_left
                          · show Act.put _ (some 92) _ = _
                            simp only [Act.put, List.setIfInBounds_toArray, List.set_cons_zero, List.set_cons_succ, i64_w, i32_w]
                            rfl
                          refine pure_ (i := 9) (N := some 93) (v := ?_) (a' := ?_) #[true, true, true, true, true, true, true, true, true, true, true, false, false] rfl rfl (any_of HT_.out (by kernel_rfl)) (fun _ _ _ h => h) (Or.inl ⟨by rfl, ?_⟩) ?_ ?_
                          rotate_left
                          · intro w'
                            go_simp
                            with_reducible rfl
                          rotate_left
                          · simp only [Act.put, List.setIfInBounds_toArray, List.set_cons_zero, List.set_cons_succ, i64_w, i32_w]
                            rfl
                          refine one_ (i := 11) (N := some 95) #[true, true, true, true, true, true, true, true, true, true, true, true, false] rfl rfl (one_of HT_.out (by kernel_rfl)) (by decide) (fun K hK => ?_)
                          refine goes_ Try.func29 (by kernel_rfl) rfl #[.slice (some ad356) l0.length c0, .agg #[.string a1_0, .slice Ao55 y376.length co55], v2_] (by rfl) rfl rfl (by (try simp only [List.map_toArray, List.map_cons, List.map_nil]); first | done | rfl | (simp only [List.length_drop, List.length_take]; rfl)) ?_
                          refine (IH.out a1_0 Ao55 co55 y376 v2_ x2_1 _ (PW P w gb355 wr) ?i1 ?i2 ?i3 ?i4 ?i5 ?i6).mono ?_
                          case i1 => exact Nat.lt_of_lt_of_le (meas_B (by have := HC16.out; have := HOK.out.len; omega) HY.out) (Nat.le_of_lt_succ HM.out)
                          case i2 => exact ⟨HOK.out.vl, HOK.out.size, fun h_ => absurd h_ (by have := HC5.out; omega), by have := HC16.out; have := HOK.out.len; have := HY.out; omega⟩
                          case i3 => exact (by rw [Option.some.inj A47.out]; exact Nat.le_trans ((walkt_len r kj30).2.1 _ _ _ _ _ _ H'.out) HLen.out)
                          case i4 => exact below_step HI.out.below (by repeat (first | (with_reducible first | exact HB.out | apply below_alloc | apply pw_below_drewN | apply below_drew1) | exact HB.out))
                          case i5 => exact srcs_new (by (with_reducible repeat (first | apply Kd.R_alloc | apply Kd.R_drewN | apply Kd.R_drew)); exact HO378.out) HI.out.below.size
                          case i6 => exact OutI.rowAt HI.out (by repeat (first | (with_reducible first | exact HB.out | apply below_alloc | apply pw_below_drewN | apply below_drew1) | exact HB.out))
                          intro e w56 hp_
                          rw [show x2_1 ++ OwnSt.walkW l0 a1_0 y376 = t379 from Option.some.inj A47.out] at hp_
                          obtain ⟨vn_, rfl, hIn_, hg_⟩ := OutI.go HI.out GEw.out (blk_lt BKr.out) (by repeat (first | (with_reducible first | exact HB.out | apply below_alloc | apply pw_below_drewN | apply below_drew1) | exact HB.out)) (fun k_ h_ => Kd.R_base HO378.out k_ h_) hp_
                          refine ⟨_, rfl, ?_⟩
                          have n0_ := Aside0.mk hIn_
                          have n1_ := Aside0.mk (hg_.trans (by (with_reducible repeat (first | refine blk_drewN ?_ _ | refine blk_drew ?_ | refine blk_alloc ?_ _)); exact BK355.out))
                          clear HI BK355 HB hIn_ hg_ HO375 HO378
                          have HI := n0_
                          have BK355 := n1_
                          have HB := Aside0.mk (Below.refl w56.heap.size w56)
                          clear n0_ n1_
                          refine hK.out _ _ ⟨(blk_cell BK355.out 0).trans rfl, (blk_cell BK355.out 1).trans rfl⟩ (fun hHeld => ?_)
                          clear hK K
                          refine norm_ (a' := ?_) ?_ ?_
                          rotate_left
                          · show Act.put _ (some 95) _ = _
                            simp only [Act.put, List.setIfInBounds_toArray, List.set_cons_zero, List.set_cons_succ, i64_w, i32_w]
                            rfl
                          refine pure_ (i := 12) (N := some 2) (v := ?_) (a' := ?_) #[true, true, true, true, true, true, true, true, true, true, true, true, true] rfl rfl (any_of HT_.out (by kernel_rfl)) (fun _ _ _ h => h) (Or.inl ⟨by rfl, ?_⟩) ?_ ?_
                          rotate_left
                          · intro w'
                            go_simp
                            with_reducible rfl
                          rotate_left
                          · simp only [Act.put, List.setIfInBounds_toArray, List.set_cons_zero, List.set_cons_succ, i64_w, i32_w]
                            rfl
                          refine done_ (done_of HT_.out (by kernel_rfl)) ?_
                          try go_wp2
                          go_roundg kj30
                          case measure => have := HK1.out; have := HJ25.out; have := HJ30.out; omega
                          case rel => exact ⟨vn_, (t379), (wrap64 (x9_1 + 1)), (by first | rfl | (simp; done) | (simp [*]; done)), (by first | rfl | (simp; done) | (simp [*]; done)), H', ⟨by have := HK1.out; have := HJ25.out; have := HJ30.out; omega⟩, ⟨by (with_reducible repeat (first | refine blk_drewN ?_ _ | refine blk_drew ?_ | refine blk_alloc ?_ _)); exact BK355.out⟩, ⟨OutI.on HI.out (by repeat (first | (with_reducible first | exact HB.out | apply below_alloc | apply pw_below_drewN | apply below_drew1) | exact HB.out))⟩⟩
                        · rw [if_neg c46] at H
                          exact absurd H (by simp)
                      · replace c44 := Bool.eq_false_iff.mpr c44
                        subst c44
                        have H1 : (cippuslaw07_walkt.l1 kj30 l0 x2_1 (l1_1.length : Int) (wrap64 (x9_1 + 1)) a1_0 l1_1) = some r := by rw [if_neg (show ¬ (false = true) by decide)] at H; exact H
                        clear H
                        have H := H1
                        clear H1
                        have H' := Aside0.mk H
                        clear H
                        go_wp2
                        go_roundg kj30
                        case measure => have := HK1.out; have := HJ25.out; have := HJ30.out; omega
                        case rel => exact ⟨v2_, (x2_1), (wrap64 (x9_1 + 1)), (by first | rfl | (simp; done) | (simp [*]; done)), (by first | rfl | (simp; done) | (simp [*]; done)), H', ⟨by have := HK1.out; have := HJ25.out; have := HJ30.out; omega⟩, ⟨by (with_reducible repeat (first | refine blk_drewN ?_ _ | refine blk_drew ?_ | refine blk_alloc ?_ _)); exact BK355.out⟩, ⟨OutI.on HI.out (by repeat (first | (with_reducible first | exact HB.out | apply below_alloc | apply pw_below_drewN | apply below_drew1) | exact HB.out))⟩⟩
            · rw [if_neg c25] at H
              have c25b0 : decide (x9_1 < (l1_1.length : Int)) = false := decide_eq_false c25
              clear c25
              obtain rfl := Option.some.inj H
              go_wp2
              go_ret
              exact OutI.done HI.out (by repeat (first | (with_reducible first | exact HB.out | apply below_alloc | apply pw_below_drewN | apply below_drew1) | exact HB.out)) _
  · rw [if_neg c4] at H
    exact absurd H (by simp)
theorem walk_calls (l0 : List S24) (A0 : Option Addr) (c0 : Nat) (w0 : World) (hr00 : Kd.C k24 w0 A0 l0.length l0) (hc0 : l0.length ≤ c0) : ∀ m, WalkC l0 A0 c0 w0 m := by
  intro m
  induction m with
  | zero => intro st A1 c1 s vo out w P hm; omega
  | succ m ih => exact walk_step l0 A0 c0 w0 hr00 hc0 m ih
end Go.Proofs.Ytegjollhajgcdaa.P
namespace Go.Proofs.Ytegjollhajgcdaa.P
open Go.RowKit Go.Proofs.YtegjollhajgcdaaW.PrintWords Go.Proofs.YtegjollhajgcdaaW.PrintLast Go.Proofs.YtegjollhajgcdaaW.PrintMore
attribute [local go_sem] max2_int min2_int max_two min_two max_three min_three max_four min_four   -- for this text's walks alone
set_option linter.unusedVariables false
set_option linter.unusedSimpArgs false
end Go.Proofs.Ytegjollhajgcdaa.P
namespace Go.Proofs.Ytegjollhajgcdaa.P.OwnSt
open Go.RowKit Go.Proofs.YtegjollhajgcdaaW.PrintWords Go.Proofs.YtegjollhajgcdaaW.PrintLast Go.Proofs.YtegjollhajgcdaaW.PrintMore
set_option linter.unusedVariables false
set_option linter.unusedSimpArgs false
theorem rowsV (l : List S24) (hk : knownE l = 0) (i : Nat) (hi : i < l.length) : rd_L4 (sourcesV l).1 (i : Int) = srcRow l i := by
  unfold sourcesV rd_L4
  rw [if_pos hk]
  simp [List.getD_eq_getElem?_getD, hi]
theorem textsV (l : List S24) (hk : knownE l = 0) (i : Nat) (hi : i < (rd_T24 l 0).f0.size) : rdOf ByteArray.empty (lettersV l).1 (i : Int) = letterRow l i := by
  unfold lettersV rdOf
  rw [if_pos hk]
  simp [List.getD_eq_getElem?_getD, hi]
theorem rowV (l : List S24) (i j : Nat) (hj : j ≤ i) : rd (srcRow l i) (j : Int) = verdictI ((knownV l).countP (srcP i j)) (knownV l).length := by
  unfold srcRow rd
  simp [List.getD_eq_getElem?_getD, show j < i + 1 by omega]
theorem maskLetters_ok (M : Nat → Bool) : ∀ x ∈ maskLetters M 26, 0 ≤ x ∧ x ≤ 255 := by
  intro x hx
  unfold maskLetters at hx
  rw [List.mem_map] at hx
  obtain ⟨j, hj, rfl⟩ := hx
  have := List.mem_range.1 (List.mem_filter.1 hj).1
  omega
theorem letterRow_size (l : List S24) (i : Nat) : (letterRow l i).size ≤ 26 := by
  unfold letterRow
  rw [strOfNums_size]
  unfold maskLetters
  rw [List.length_map]
  exact Nat.le_trans (List.length_filter_le _ _) (by simp)
theorem mem_mask {M : Nat → Bool} {x : Int} : x ∈ maskLetters M 26 ↔ ∃ j : Nat, j < 26 ∧ M j = true ∧ x = 65 + (j : Int) := by
  unfold maskLetters
  rw [List.mem_map]
  constructor
  · rintro ⟨j, hj, rfl⟩
    rw [List.mem_filter] at hj
    exact ⟨j, List.mem_range.1 hj.1, hj.2, rfl⟩
  · rintro ⟨j, h1, h2, rfl⟩
    exact ⟨j, List.mem_filter.2 ⟨List.mem_range.2 h1, h2⟩, rfl⟩
theorem bt_mask (M : Nat → Bool) (p : Nat) (hp : p < (strOfNums (maskLetters M 26)).size) : ∃ j : Nat, j < 26 ∧ M j = true ∧ bt (strOfNums (maskLetters M 26)) (p : Int) = 65 + (j : Int) := by
  rw [strOfNums_size] at hp
  rw [bt_str _ p (maskLetters_ok M) hp]
  refine mem_mask.1 ?_
  rw [List.getD_eq_getElem?_getD, List.getElem?_eq_getElem hp]
  exact List.getElem_mem hp
theorem hasB_row (M : Nat → Bool) (j : Nat) (hj : j < 26) : hasB (strOfNums (maskLetters M 26)) (65 + (j : Int)) = M j := by
  unfold hasB
  rw [Bool.eq_iff_iff, List.any_eq_true]
  constructor
  · rintro ⟨p, hp, h⟩
    obtain ⟨q, h1, h2, h3⟩ := bt_mask M p (List.mem_range.1 hp)
    rw [h3] at h
    have : q = j := by
      have h4 : (65 + (q : Int)) = 65 + (j : Int) := by simpa using h
      omega
    rw [← this]
    exact h2
  · intro h
    obtain ⟨p, hp, e⟩ := List.getElem_of_mem (mem_mask.2 ⟨j, hj, h, rfl⟩)
    refine ⟨p, List.mem_range.2 (by rw [strOfNums_size]; exact hp), ?_⟩
    rw [bt_str _ p (maskLetters_ok M) hp, List.getD_eq_getElem?_getD, List.getElem?_eq_getElem hp, Option.getD_some, e]
    simp
structure SubT (l l' : List S24) (m : Nat) (r : (Nat → Int) → Nat → Int) : Prop where
  vl : Valid l
  vl' : Valid l'
  same : ∀ s k, k < m → r s k = s k
  truth : ∀ s t, TreeOk l' s → FitT l' s t → TreeOk l (r s) ∧ FitT l (r s) t ∧ costT l (r s) t + apTo l (r s) l.length ≤ costT l' s t + apTo l' s l'.length
section
variable {l l' : List S24} {m : Nat} {r : (Nat → Int) → Nat → Int}
theorem SubT.known (h : SubT l l' m r) {s : Nat → Int} (hs : s ∈ knownV l') : r s ∈ knownV l := by
  obtain ⟨h1, t, h2⟩ := (known_iff h.vl' s).1 hs
  obtain ⟨h3, h4, _⟩ := h.truth s t h1 h2
  exact (known_iff h.vl _).2 ⟨h3, t, h4⟩
theorem SubT.fewest (h : SubT l l' m r) (hk : knownE l = 0) (hk' : knownE l' = 0) : (fewestV l).1 ≤ (fewestV l').1 := by
  obtain ⟨s, hs, e⟩ := fewest_att hk'
  obtain ⟨t, ht, e2⟩ := numF_att (knownV_mem hs).2.2
  obtain ⟨h3, h4, h5⟩ := h.truth s t ((known_iff h.vl' s).1 hs).1 ht
  have h6 := fewest_le hk (h.known hs)
  have h7 := numF_le h4
  omega
theorem SubT.letters (h : SubT l l' m r) (i j : Nat) (hi : i < (rd_T24 l 0).f0.size) (hi' : i < (rd_T24 l' 0).f0.size) (hj : mayAt l' i j = true) : mayAt l i j = true := by
  obtain ⟨s, t, h1, h2, h3⟩ := (mayAt_iff h.vl' i j hi').1 hj
  obtain ⟨h4, h5, _⟩ := h.truth s t h1 h2
  exact (mayAt_iff h.vl i j hi).2 ⟨r s, t, h4, h5, h3⟩
end
theorem rd_take (l : List S24) (m : Nat) (i : Int) (h0 : 0 ≤ i) (hi : i < m) : rd_T24 (l.take m) i = rd_T24 l i := by
  unfold rd_T24
  rw [List.getD_eq_getElem?_getD, List.getD_eq_getElem?_getD, List.getElem?_take, if_pos (by omega)]
theorem MadeOk.take {er : Int} {st : ByteArray} {l : List S24} {src : List Int} (h : MadeOk er st l src) (m : Nat) (hm : m ≤ l.length) : MadeOk er st (l.take m) (src.take m) := by
  refine ⟨by simp [h.len], fun i hi => ?_⟩
  have hi2 : i < m := by rw [List.length_take] at hi; omega
  have h1 := h.one i (by omega)
  have e : (src.take m).getD i 0 = src.getD i 0 := by
    rw [List.getD_eq_getElem?_getD, List.getD_eq_getElem?_getD, List.getElem?_take, if_pos hi2]
  rw [e, rd_take l m (i : Int) (by omega) (by omega)]
  refine ⟨h1.1, h1.2.1, h1.2.2.1, h1.2.2.2.1, ?_⟩
  have e2 : fromOf st (l.take m) (src.getD i 0) = fromOf st l (src.getD i 0) := by
    unfold fromOf
    split
    · rfl
    · rw [rd_take l m _ (by omega) (by have := h1.2.2.1; omega)]
  rw [e2]
  exact h1.2.2.2.2
theorem MadeT.take {er : Int} {st : ByteArray} {l : List S24} {src : List Int} (h : MadeT er st l src) (m : Nat) (h1 : 1 ≤ m) (hm : m ≤ l.length) : MadeT er st (l.take m) (src.take m) :=
  ⟨h.made.take m hm, h.er0, h.er3, by rw [List.length_take]; omega, by rw [List.length_take]; have := h.five; omega, h.low, h.high, h.letters⟩
end Go.Proofs.Ytegjollhajgcdaa.P.OwnSt
namespace Go.Proofs.Ytegjollhajgcdaa.P.OwnSt
open Go.RowKit Go.Shelf Go.Proofs.YtegjollhajgcdaaW.PrintWords Go.Proofs.YtegjollhajgcdaaW.PrintLast Go.Proofs.YtegjollhajgcdaaW.PrintMore
set_option linter.unusedVariables false
set_option linter.unusedSimpArgs false
theorem R_block {α : Type} {d : Kd α} {e base : Nat} {ok : Nat → Prop} {w : World} {v : Value} {xs : List α} (h : d.R e w base ok v xs) (hn : 0 < xs.length) : ∃ g c, v = .slice (some ⟨g, 0, none⟩) xs.length c ∧ base ≤ g ∧ g < w.heap.size := by
  obtain ⟨_, inner, hown, _⟩ := h
  rcases hown.2 with ⟨_, h0⟩ | ⟨g, cap, cur, e1, hg, hh, _⟩
  · omega
  · exact ⟨g, cap, e1, hg, blk_lt hh⟩
theorem row_cells {W : World} {base : Nat} {ok : Nat → Prop} {gx n cap : Nat} {x : List S24} (h : k24.R 24 W base ok (.slice (some ⟨gx, 0, none⟩) n cap) x) (i : Nat) (hi : i < n) :
    (W.cell? ⟨gx, i * 3, none⟩ = some (.string (rd_T24 x (i : Int)).f0) ∧ W.cell? ⟨gx, i * 3 + 1, none⟩ = some (.int .i64 (rd_T24 x (i : Int)).f1) ∧ W.cell? ⟨gx, i * 3 + 2, none⟩ = some (.bool (rd_T24 x (i : Int)).f2)) ∧ gx < W.heap.size ∧ (∀ j, W.frozen? ⟨gx, j, none⟩ = false) := by
  have h0 := Kd.R_reads' h
  have h1 := h0.2.2
  obtain ⟨ad, hA, y0, y1, y2⟩ := at_T24 h1 (i : Int) (by omega) (by omega)
  injection hA with hA
  subst hA
  have e : ((⟨gx, 0, none⟩ : Addr).add ((i : Int).toNat * 3)) = ⟨gx, i * 3, none⟩ := by
    simp [Addr.add]
    intro h0
    omega
  rw [e] at y0 y1 y2
  refine ⟨⟨y0, y1, y2⟩, World.block_lt_of_cell? W _ y0, fun j => ?_⟩
  obtain ⟨_, inner, hown, _⟩ := h
  rcases hown.2 with ⟨h5, _⟩ | ⟨g, cap, cur, e1, hg, hh, _⟩
  · cases h5
  · injection e1 with e1
    injection e1 with e1
    injection e1 with e1
    subst e1
    exact blk_frozen hh j
theorem row_store {W : World} {base : Nat} {ok : Nat → Prop} {gx n cap : Nat} {x : List S24} (h : k24.R 24 W base ok (.slice (some ⟨gx, 0, none⟩) n cap) x) (i : Nat) (hi : i < n) (j : Nat) (u : Value) (x' : S24) (hj : j < 3)
    (hx : [Value.string x'.f0, .int .i64 x'.f1, .bool x'.f2] = [Value.string (rd_T24 x (i : Int)).f0, .int .i64 (rd_T24 x (i : Int)).f1, .bool (rd_T24 x (i : Int)).f2].set j u) :
    k24.R 24 (W.setCell ⟨gx, i * 3 + j, none⟩ u) base ok (.slice (some ⟨gx, 0, none⟩) n cap) (x.set i x') := by
  obtain ⟨⟨y0, y1, y2⟩, _⟩ := row_cells h i hi
  refine (Kd.R_seg (okp := fun k => ok k ∧ k ≠ gx) h (i : Int) (by omega) (by omega) (c := [Value.string (rd_T24 x (i : Int)).f0, .int .i64 (rd_T24 x (i : Int)).f1, .bool (rd_T24 x (i : Int)).f2]) (seg := [u]) (j := j) rfl (fun k v hk => ?_) (by show j + 1 ≤ 3; omega) (x' := x') ?_ (fun k hk => hk)).1
  · show W.cell? ⟨gx, i * 3 + k, none⟩ = some v
    match k, hk with
    | 0, hk => injection hk with hk; subst hk; exact y0
    | 1, hk => injection hk with hk; subst hk; exact y1
    | 2, hk => injection hk with hk; subst hk; exact y2
  · have h3 := k24_mkM W base (fun k => ok k ∧ k ≠ gx) x'
    rw [hx] at h3
    match j, hj with
    | 0, _ => exact h3
    | 1, _ => exact h3
    | 2, _ => exact h3
theorem rd_set (l : List S24) (i : Nat) (x : S24) (hi : i < l.length) (k : Nat) : rd_T24 (l.set i x) (k : Int) = if k = i then x else rd_T24 l (k : Int) := by
  unfold rd_T24
  rw [List.getD_eq_getElem?_getD, List.getD_eq_getElem?_getD, Int.toNat_natCast]
  by_cases e : k = i
  · subst e
    rw [if_pos rfl, List.getElem?_set_self hi]
    rfl
  · rw [if_neg e, List.getElem?_set_ne (fun h => e h.symm)]
structure TurnOk (l : List S24) (order by_ : List Int) : Prop where
  one : 1 ≤ l.length
  five : l.length ≤ 5
  eight : order.length ≤ 8
  by_ : order.length ≤ by_.length
  good : ∀ i : Nat, i < l.length → ∀ p : Nat, p < order.length → 0 ≤ rd order (p : Int) ∧ rd order (p : Int) < (rd_T24 l (i : Int)).f0.size
end Go.Proofs.Ytegjollhajgcdaa.P.OwnSt
namespace Go.Proofs.Ytegjollhajgcdaa.P
open Go.RowKit Go.Proofs.YtegjollhajgcdaaW.PrintWords Go.Proofs.YtegjollhajgcdaaW.PrintLast Go.Proofs.YtegjollhajgcdaaW.PrintMore
set_option linter.unusedVariables false
set_option linter.unusedSimpArgs false
namespace OwnSt
def allV (l : List S24) : Option (List S27) := if checkV l = 0 then some (walkW l ⟨#[]⟩ []) else none
def changedV (s0 s1 : Int) (l : List S24) : Option (List S24 × Int × Int) := (cippuskit_Urn_Up.f s0 s1 (l.length : Int)).bind fun a => (cippuskit_Urn_Up.f a.2.1 a.2.2 2).bind fun b => (cippuskit_Urn_Odds.f b.2.1 b.2.2 2 3).bind fun c =>
  if 0 ≤ a.1 ∧ a.1 < (l.length : Int) then some (l.set a.1.toNat ⟨(rd_T24 l a.1).f0, b.1, c.1⟩, c.2.1, c.2.2) else none
theorem changed_some {s0 s1 : Int} {l r : List S24} {x y : Int} (h : changedV s0 s1 l = some (r, x, y)) : ∃ v1 sA sB v2 sC sD b3, cippuskit_Urn_Up.f s0 s1 (l.length : Int) = some (v1, sA, sB) ∧ cippuskit_Urn_Up.f sA sB 2 = some (v2, sC, sD) ∧ cippuskit_Urn_Odds.f sC sD 2 3 = some (b3, x, y) ∧ 0 ≤ v1 ∧ v1 < (l.length : Int) ∧ r = l.set v1.toNat ⟨(rd_T24 l v1).f0, v2, b3⟩ := by
  unfold changedV at h
  obtain ⟨⟨v1, sA, sB⟩, h1, h⟩ := Option.bind_eq_some_iff.mp h
  obtain ⟨⟨v2, sC, sD⟩, h2, h⟩ := Option.bind_eq_some_iff.mp h
  obtain ⟨⟨b3, x', y'⟩, h3, h⟩ := Option.bind_eq_some_iff.mp h
  by_cases e : 0 ≤ v1 ∧ v1 < (l.length : Int)
  · have h : some (l.set v1.toNat ⟨(rd_T24 l v1).f0, v2, b3⟩, x', y') = some (r, x, y) := by
      have h4 := h
      simp only [e, and_self, if_true] at h4
      exact h4
    have h5 := Option.some.inj h
    simp only [Prod.mk.injEq] at h5
    obtain ⟨rfl, rfl, rfl⟩ := h5
    exact ⟨v1, sA, sB, v2, sC, sD, b3, h1, h2, h3, e.1, e.2, rfl⟩
  · simp only [e, if_false] at h
    cases h
section
variable {W : World} {base base' : Nat} {ok ok' : Nat → Prop} {gx n cap : Nat} {x : List S24}
theorem changed_store (h : k24.R 24 W base ok (.slice (some ⟨gx, 0, none⟩) n cap) x) (i : Nat) (hi : i < n) (v2 : Int) (b3 : Bool) :
    k24.R 24 ((W.setCell ⟨gx, i * 3 + 1, none⟩ (.int .i64 v2)).setCell ⟨gx, i * 3 + 2, none⟩ (.bool b3)) base ok (.slice (some ⟨gx, 0, none⟩) n cap) (x.set i ⟨(rd_T24 x (i : Int)).f0, v2, b3⟩) := by
  have hn : x.length = n := (Kd.R_reads' h).1.symm
  have h1 := row_store h i hi 1 (.int .i64 v2) ⟨(rd_T24 x (i : Int)).f0, v2, (rd_T24 x (i : Int)).f2⟩ (by decide) rfl
  have e : rd_T24 (x.set i ⟨(rd_T24 x (i : Int)).f0, v2, (rd_T24 x (i : Int)).f2⟩) (i : Int) = ⟨(rd_T24 x (i : Int)).f0, v2, (rd_T24 x (i : Int)).f2⟩ := by
    rw [rd_set _ _ _ (by omega), if_pos rfl]
  have h2 := row_store h1 i hi 2 (.bool b3) ⟨(rd_T24 x (i : Int)).f0, v2, b3⟩ (by decide) (by rw [e]; rfl)
  rw [List.set_set] at h2
  exact h2
theorem row_typed (h : k24.R 24 W base ok (.slice (some ⟨gx, 0, none⟩) n cap) x) : ∃ cells, W.heap[gx]? = some (.cells cells 24 (0, 0)) := by
  obtain ⟨_, inner, hown, _⟩ := h
  exact own_typed hown gx rfl
theorem far_ints {v : Value} {s : List Int} (h : Kd.R (Kd.int .i64) 3 W base ok v s) (hx : k24.R 24 W base' ok' (.slice (some ⟨gx, 0, none⟩) n cap) x) (j : Nat) (u : Value) : Kd.R (Kd.int .i64) 3 (W.setCell ⟨gx, j, none⟩ u) base (fun _ => True) v s := by
  obtain ⟨cells, hc⟩ := row_typed hx
  exact Kd.R_mono (Kd.R_far (p := ⟨gx, j, none⟩) (Kd.R_types h hc (by decide)) (fun _ hk => hk.2) u) (fun _ _ => trivial)
theorem far_blk {g : Nat} {cs : Array Value} (h : W.heap[g]? = some (.cells cs 27 (0, 0))) (hx : k24.R 24 W base' ok' (.slice (some ⟨gx, 0, none⟩) n cap) x) : g ≠ gx := by
  obtain ⟨cells, hc⟩ := row_typed hx
  rintro rfl
  rw [h] at hc
  injection hc with hc
  injection hc with _ hc
  cases hc
end
end OwnSt
open OwnSt
theorem cippuslaw07_alltruths.calls (A0 : Option Addr) (c0 : Nat) (l0 : List (S24)) (r : List (S27)) (w : World) (hr0 : Kd.C k24 w A0 l0.length l0) (hc0 : l0.length ≤ c0) (h : OwnSt.allV l0 = some r) :
    Calls Try.prog 29 #[.slice A0 l0.length c0, .agg #[.string ⟨#[]⟩, .slice none 0 0], .slice none 0 0] w fun e w' => ∃ v0_, e = .returned v0_ ∧ Kd.R k27 27 w' w.heap.size (fun _ => True) v0_ r ∧ Below w.heap.size w w' := by
  unfold OwnSt.allV at h
  by_cases hc : checkV l0 = 0
  · rw [if_pos hc] at h
    have hv := valid_of_check hc
    have h5 := hv.five
    have hwl : (walkW l0 ⟨#[]⟩ []).length ≤ 1000000000000 := by
      rw [walkW_nil l0 _ (Nat.zero_le _)]
      have h1 := walkA_len h5 ((rd_T24 l0 0).f0.size - (⟨#[]⟩ : ByteArray).size) ⟨#[]⟩
      have h2 : 4 ^ ((rd_T24 l0 0).f0.size - (⟨#[]⟩ : ByteArray).size) ≤ 4 ^ 8 := Nat.pow_le_pow_right (by decide) (by have := hv.high; omega)
      have h3 : (4 : Nat) ^ 8 = 65536 := by decide
      rw [h3] at h2
      generalize 4 ^ ((rd_T24 l0 0).f0.size - (⟨#[]⟩ : ByteArray).size) = q at h1 h2
      omega
    have hcal := walk_calls l0 A0 c0 w hr0 hc0 (meas l0 ⟨#[]⟩ [] + 1) ⟨#[]⟩ none 0 [] (.slice none 0 0) [] w (fun _ => False) (Nat.lt_succ_self _) ⟨hv, Nat.zero_le _, fun _ => rfl, Nat.zero_le _⟩ (by simpa using hwl) (Below.refl _ _) (Kd.R_nil _ _ _ _ _) (Kd.R_nil _ _ _ _ _)
    refine hcal.mono ?_
    rintro e w' ⟨v, rfl, hr, _, _, hb⟩
    rw [List.nil_append] at hr
    rw [← Option.some.inj h]
    exact ⟨v, rfl, Kd.R_mono hr (fun _ _ => trivial), hb⟩
  · rw [if_neg hc] at h
    cases h
end Go.Proofs.Ytegjollhajgcdaa.P
